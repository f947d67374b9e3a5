/- Checks: the tenth tree. Conditions: none. -/
import Derived.Test.YtibhfcbgmlhojaaGreatDoorEe
set_option linter.unusedVariables false
namespace Go.Proofs.YtibhfcbgmlhojaaGreatDoor
open Go.Kx
set_option maxRecDepth 1000000
theorem c_cx10 : simC (Eb.put 14 [m_cp10]) 10000 14 m_cx10 = true := by decide +kernel
theorem c_vx10 : simC (Eb.put 9 [m_vo8]) 10000 9 m_vx10 = true := by decide +kernel
theorem c_rest10 : restC (withP EB10 (pickB (.int .i64 10))) 10000 3 6 frX hX = true := by decide +kernel
end Go.Proofs.YtibhfcbgmlhojaaGreatDoor
