/- Checks: copies. Conditions: none. -/
import Derived.Test.YtibhfcbgmlhojaaGreatDoorEa
set_option linter.unusedVariables false
namespace Go.Proofs.YtibhfcbgmlhojaaGreatDoor
open Go.Kx
set_option maxRecDepth 1000000
theorem c_cp0 : memoC E0 10000 14 m_cp0 = true := by decide +kernel
theorem c_cp1 : memoC (E0.put 14 [m_cp0]) 10000 14 m_cp1 = true := by decide +kernel
theorem c_cp2 : memoC (E0.put 14 [m_cp1]) 10000 14 m_cp2 = true := by decide +kernel
theorem c_cp3 : memoC (E0.put 14 [m_cp2]) 10000 14 m_cp3 = true := by decide +kernel
theorem c_cp4 : memoC (E0.put 14 [m_cp3]) 10000 14 m_cp4 = true := by decide +kernel
theorem c_cp5 : memoC (E0.put 14 [m_cp4]) 10000 14 m_cp5 = true := by decide +kernel
theorem c_cp6 : memoC (E0.put 14 [m_cp5]) 10000 14 m_cp6 = true := by decide +kernel
theorem c_cp7 : memoC (E0.put 14 [m_cp6]) 10000 14 m_cp7 = true := by decide +kernel
theorem c_cp8 : memoC (E0.put 14 [m_cp7]) 10000 14 m_cp8 = true := by decide +kernel
theorem c_cp9 : memoC (E0.put 14 [m_cp8]) 10000 14 m_cp9 = true := by decide +kernel
theorem c_cp10 : memoC (E0.put 14 [m_cp9]) 10000 14 m_cp10 = true := by decide +kernel
end Go.Proofs.YtibhfcbgmlhojaaGreatDoor
