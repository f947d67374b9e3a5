/- Checks: from the cut on. Conditions: none. -/
import Derived.Test.YtibhfcbgmlhojaaGreatDoorEd
set_option linter.unusedVariables false
namespace Go.Proofs.YtibhfcbgmlhojaaGreatDoor
open Go.Kx
set_option maxRecDepth 1000000
theorem c_rest0 : restK m_cp0 [] (.int .i64 0) = true := by decide +kernel
theorem c_rest1 : restK m_cp1 [] (.int .i64 1) = true := by decide +kernel
theorem c_rest2 : restK m_cp2 [] (.int .i64 2) = true := by decide +kernel
theorem c_rest3 : restK m_cp3 [] (.int .i64 3) = true := by decide +kernel
theorem c_rest4 : restK m_cp4 [] (.int .i64 4) = true := by decide +kernel
theorem c_rest5 : restK m_cp5 [] (.int .i64 5) = true := by decide +kernel
theorem c_rest6 : restK m_cp6 [] (.int .i64 6) = true := by decide +kernel
theorem c_rest7 : restK m_cp7 [] (.int .i64 7) = true := by decide +kernel
theorem c_restBig : restK m_cp0 [] kBig = true := by decide +kernel
end Go.Proofs.YtibhfcbgmlhojaaGreatDoor
