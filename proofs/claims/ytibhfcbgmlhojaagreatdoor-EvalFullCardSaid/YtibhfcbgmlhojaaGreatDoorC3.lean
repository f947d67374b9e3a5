/- Checks: the text is read, looked through; numbers, a zero value, sizes. Conditions: none. -/
import Derived.Test.YtibhfcbgmlhojaaGreatDoorEa
set_option linter.unusedVariables false
namespace Go.Proofs.YtibhfcbgmlhojaaGreatDoor
open Go.Kx
set_option maxRecDepth 1000000
theorem c_rd2 : memoC (E0.put 18 [m_tk2]) 10000 5 m_rd2 = true := by decide +kernel
theorem c_lk2 : memoC E0 10000 24 m_lk2 = true := by decide +kernel
theorem c_ri0 : memoC E0 10000 188 m_ri0 = true := by decide +kernel
theorem c_ri1 : memoC E0 10000 188 m_ri1 = true := by decide +kernel
theorem c_z0 : memoC E0 10000 131 m_z0 = true := by decide +kernel
theorem c_sz0 : memoC E0 10000 197 m_sz0 = true := by decide +kernel
theorem c_sz1 : memoC (E0.put 197 [m_sz0]) 10000 197 m_sz1 = true := by decide +kernel
theorem c_sz2 : memoC (E0.put 197 [m_sz1]) 10000 197 m_sz2 = true := by decide +kernel
theorem c_sz3 : memoC (E0.put 197 [m_sz2]) 10000 197 m_sz3 = true := by decide +kernel
theorem c_sz4 : memoC (E0.put 197 [m_sz3]) 10000 197 m_sz4 = true := by decide +kernel
theorem c_sz5 : memoC (E0.put 197 [m_sz4]) 10000 197 m_sz5 = true := by decide +kernel
theorem c_sz6 : memoC (E0.put 197 [m_sz5]) 10000 197 m_sz6 = true := by decide +kernel
theorem c_sz7 : memoC (E0.put 197 [m_sz6]) 10000 197 m_sz7 = true := by decide +kernel
theorem c_sz8 : memoC (E0.put 197 [m_sz7]) 10000 197 m_sz8 = true := by decide +kernel
theorem c_sz9 : memoC (E0.put 197 [m_sz8]) 10000 197 m_sz9 = true := by decide +kernel
theorem c_sz10 : memoC (E0.put 197 [m_sz9]) 10000 197 m_sz10 = true := by decide +kernel
end Go.Proofs.YtibhfcbgmlhojaaGreatDoor
