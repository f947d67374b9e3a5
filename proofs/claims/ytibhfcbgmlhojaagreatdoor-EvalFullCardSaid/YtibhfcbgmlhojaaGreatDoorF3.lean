/- Closed facts of the row and of its card, joined. Conditions: none. -/
import Derived.Test.YtibhfcbgmlhojaaGreatDoorF1
import Derived.Test.YtibhfcbgmlhojaaGreatDoorF2
import Derived.Test.YtibhfcbgmlhojaaGreatDoorTie
import Derived.JoinedOf
import Derived.JoinedCond
set_option linter.unusedVariables false
namespace Go.Proofs.YtibhfcbgmlhojaaGreatDoor.evalFull
open Go.ChangeShapes Go.WideShapes Go.ChangeAt Go.RowKit
set_option maxRecDepth 100000
theorem band {a b : Bool} (h : a = true) (h' : b = true) : (a && b) = true := by rw [h, h']; rfl
theorem closed : joinedFacts Tryz.prog 3 Tryz.f3 Rows.evalFullSpec Rows.evalFullRow = true := by
  unfold joinedFacts
  exact (band (band (band (band (band (band (band (band (band (band (band (band (band (band (band (band (band (band (band (band (band (band (band (band (band (band (band (band (band (band (band k_0 k_1) k_2) k_3) k_4) k_5) k_6) k_7) k_8) k_9) k_10) k_11) k_12) k_13) k_14) k_15) k_16) k_17) k_18) k_19) k_20) k_21) k_22) k_23) k_24) k_25) k_26) k_27) k_28) k_29) k_30) k_31)
theorem byText : Rows.evalFullRow.wfByText (OpenSpec.ofChange Rows.evalFullSpec) = true := by kernel_rfl
theorem mainIs : Tryz.pinned.checked.prog.mainIs = some (true, "c7f6bf2ac907c921862d67b6bdc9057be3b506e52e1fd9606e4372672135fcb6".toList) := by kernel_rfl
theorem goes : false = Rows.evalFullRow.goesBy Tryz.pinned.checked.prog := by kernel_rfl
theorem looksAre : true = Tryz.pinned.checked.prog.looks [] := by kernel_rfl
theorem wants : Tryz.prog.wantsStandIn 3 = false := by kernel_rfl
theorem named3 : Tryz.prog.funcNamed "gristmill/gristmilllaw09.EvalFull" = some 3 := by kernel_rfl
end Go.Proofs.YtibhfcbgmlhojaaGreatDoor.evalFull
