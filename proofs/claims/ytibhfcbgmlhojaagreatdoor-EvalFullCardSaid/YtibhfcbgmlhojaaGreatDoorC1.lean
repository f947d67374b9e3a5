/- Checks: the examples that are gone through first. Conditions: none. -/
import Derived.Test.YtibhfcbgmlhojaaGreatDoorEa
set_option linter.unusedVariables false
namespace Go.Proofs.YtibhfcbgmlhojaaGreatDoor
open Go.Kx
set_option maxRecDepth 1000000
theorem c_ta0 : memoC E0 10000 35 m_ta0 = true := by decide +kernel
theorem c_ta1 : memoC E0 10000 35 m_ta1 = true := by decide +kernel
theorem c_ta2 : memoC E0 10000 35 m_ta2 = true := by decide +kernel
theorem c_ta3 : memoC E0 10000 35 m_ta3 = true := by decide +kernel
theorem c_ta4 : memoC E0 10000 35 m_ta4 = true := by decide +kernel
theorem c_ta5 : memoC E0 10000 35 m_ta5 = true := by decide +kernel
theorem c_ta6 : memoC E0 10000 35 m_ta6 = true := by decide +kernel
theorem c_ta7 : memoC E0 10000 35 m_ta7 = true := by decide +kernel
theorem c_ta8 : memoC E0 10000 35 m_ta8 = true := by decide +kernel
theorem c_ta9 : memoC E0 10000 35 m_ta9 = true := by decide +kernel
theorem c_ta10 : memoC E0 10000 35 m_ta10 = true := by decide +kernel
theorem c_ta11 : memoC E0 10000 35 m_ta11 = true := by decide +kernel
theorem c_ta12 : memoC E0 10000 35 m_ta12 = true := by decide +kernel
theorem c_ta13 : memoC E0 10000 35 m_ta13 = true := by decide +kernel
theorem c_ta14 : memoC E0 10000 35 m_ta14 = true := by decide +kernel
theorem c_ta15 : memoC E0 10000 35 m_ta15 = true := by decide +kernel
theorem c_ta16 : memoC E0 10000 35 m_ta16 = true := by decide +kernel
theorem c_ta17 : memoC E0 10000 35 m_ta17 = true := by decide +kernel
theorem c_ta18 : memoC E0 10000 35 m_ta18 = true := by decide +kernel
theorem c_ta19 : memoC E0 10000 35 m_ta19 = true := by decide +kernel
theorem c_ta20 : memoC E0 10000 35 m_ta20 = true := by decide +kernel
theorem c_ta21 : memoC E0 10000 35 m_ta21 = true := by decide +kernel
theorem c_ta22 : memoC E0 10000 35 m_ta22 = true := by decide +kernel
theorem c_ta23 : memoC E0 10000 35 m_ta23 = true := by decide +kernel
theorem c_ta24 : memoC E0 10000 35 m_ta24 = true := by decide +kernel
theorem c_ta25 : memoC E0 10000 35 m_ta25 = true := by decide +kernel
theorem c_ta26 : memoC E0 10000 35 m_ta26 = true := by decide +kernel
theorem c_ta27 : memoC E0 10000 35 m_ta27 = true := by decide +kernel
theorem c_ta28 : memoC E0 10000 35 m_ta28 = true := by decide +kernel
theorem c_ta29 : memoC E0 10000 35 m_ta29 = true := by decide +kernel
theorem c_ta30 : memoC E0 10000 35 m_ta30 = true := by decide +kernel
theorem c_ta31 : memoC E0 10000 35 m_ta31 = true := by decide +kernel
theorem c_ta32 : memoC E0 10000 35 m_ta32 = true := by decide +kernel
theorem c_ta33 : memoC E0 10000 35 m_ta33 = true := by decide +kernel
theorem c_ta34 : memoC E0 10000 35 m_ta34 = true := by decide +kernel
theorem c_ta35 : memoC E0 10000 35 m_ta35 = true := by decide +kernel
theorem c_ta36 : memoC E0 10000 35 m_ta36 = true := by decide +kernel
theorem c_ta37 : memoC E0 10000 35 m_ta37 = true := by decide +kernel
theorem c_ta38 : memoC E0 10000 35 m_ta38 = true := by decide +kernel
theorem c_ta39 : memoC E0 10000 35 m_ta39 = true := by decide +kernel
theorem c_ta40 : memoC E0 10000 35 m_ta40 = true := by decide +kernel
theorem c_ta41 : memoC E0 10000 35 m_ta41 = true := by decide +kernel
theorem c_ta42 : memoC E0 10000 35 m_ta42 = true := by decide +kernel
theorem c_ta43 : memoC E0 10000 35 m_ta43 = true := by decide +kernel
theorem c_ta44 : memoC E0 10000 35 m_ta44 = true := by decide +kernel
theorem c_ta45 : memoC E0 10000 35 m_ta45 = true := by decide +kernel
theorem c_ta46 : memoC E0 10000 35 m_ta46 = true := by decide +kernel
theorem c_ta47 : memoC E0 10000 35 m_ta47 = true := by decide +kernel
theorem c_ta48 : memoC E0 10000 35 m_ta48 = true := by decide +kernel
theorem c_ta49 : memoC E0 10000 35 m_ta49 = true := by decide +kernel
theorem c_ta50 : memoC E0 10000 35 m_ta50 = true := by decide +kernel
theorem c_ta51 : memoC E0 10000 35 m_ta51 = true := by decide +kernel
theorem c_ta52 : memoC E0 10000 35 m_ta52 = true := by decide +kernel
theorem c_ta53 : memoC E0 10000 35 m_ta53 = true := by decide +kernel
theorem c_ta54 : memoC E0 10000 35 m_ta54 = true := by decide +kernel
theorem c_ta55 : memoC E0 10000 35 m_ta55 = true := by decide +kernel
theorem c_ta56 : memoC E0 10000 35 m_ta56 = true := by decide +kernel
theorem c_ta57 : memoC E0 10000 35 m_ta57 = true := by decide +kernel
theorem c_tk1 : memoC (E0.put 35 l_ta) 10000 18 m_tk1 = true := by decide +kernel
theorem c_rd1 : memoC (E0.put 18 [m_tk1]) 10000 5 m_rd1 = true := by decide +kernel
theorem c_lk1 : memoC (E0.put 5 [m_rd1]) 10000 24 m_lk1 = true := by decide +kernel
theorem c_aw : memoC ((E0.put 5 [m_rd1]).put 24 [m_lk1]) 10000 4 m_aw = true := by decide +kernel
end Go.Proofs.YtibhfcbgmlhojaaGreatDoor
