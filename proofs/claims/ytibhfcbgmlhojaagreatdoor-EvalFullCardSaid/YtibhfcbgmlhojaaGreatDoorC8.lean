/- Checks: from the cut on. Conditions: none. -/
import Derived.Test.YtibhfcbgmlhojaaGreatDoorEd
set_option linter.unusedVariables false
namespace Go.Proofs.YtibhfcbgmlhojaaGreatDoor
open Go.Kx
set_option maxRecDepth 1000000
theorem c_vo8 : simC Eb 10000 9 m_vo8 = true := by decide +kernel
theorem c_rest8 : restK m_cp8 [m_vo8] (.int .i64 8) = true := by decide +kernel
theorem c_rest9 : restK m_cp9 [m_vo8] (.int .i64 9) = true := by decide +kernel
end Go.Proofs.YtibhfcbgmlhojaaGreatDoor
