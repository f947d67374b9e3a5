/- Checks: rounds of g. Conditions: none. -/
import Derived.Test.YtibhfcbgmlhojaaGreatDoorEb
set_option linter.unusedVariables false
namespace Go.Proofs.YtibhfcbgmlhojaaGreatDoor
open Go.Kx
set_option maxRecDepth 1000000
theorem c_ro0 : memoC (ER.put 197 [m_sz0]) 10000 30 m_ro0 = true := by decide +kernel
theorem c_ro1 : memoC (ER.put 197 [m_sz1]) 10000 30 m_ro1 = true := by decide +kernel
theorem c_ro2 : memoC (ER.put 197 [m_sz2]) 10000 30 m_ro2 = true := by decide +kernel
theorem c_ro3 : memoC (ER.put 197 [m_sz3]) 10000 30 m_ro3 = true := by decide +kernel
theorem c_ro4 : memoC (ER.put 197 [m_sz4]) 10000 30 m_ro4 = true := by decide +kernel
theorem c_ro5 : memoC (ER.put 197 [m_sz5]) 10000 30 m_ro5 = true := by decide +kernel
theorem c_ro6 : memoC (ER.put 197 [m_sz6]) 10000 30 m_ro6 = true := by decide +kernel
theorem c_ro7 : memoC (ER.put 197 [m_sz7]) 10000 30 m_ro7 = true := by decide +kernel
theorem c_ro8 : memoC (ER.put 197 [m_sz8]) 10000 30 m_ro8 = true := by decide +kernel
theorem c_ro9 : memoC (ER.put 197 [m_sz9]) 10000 30 m_ro9 = true := by decide +kernel
theorem c_ro10 : memoC (ER.put 197 l_sz) 10000 30 m_ro10 = true := by decide +kernel
end Go.Proofs.YtibhfcbgmlhojaaGreatDoor
