/- Closed facts of the row, the first half. Conditions: none. -/
import Derived.Test.YtibhfcbgmlhojaaGreatDoorCards
import Derived.WalkKit
import Derived.ProofKit
import Derived.OpenShut
set_option linter.unusedVariables false
namespace Go.Proofs.YtibhfcbgmlhojaaGreatDoor.evalFull
open Go.ChangeShapes Go.WideShapes Go.ChangeAt Go.RowKit
set_option maxRecDepth 100000
theorem k_0 : (Rows.evalFullRow.wf (OpenSpec.ofChange Rows.evalFullSpec)) = true := by kernel_rfl
theorem k_1 : (laidOutB Tryz.prog) = true := by kernel_rfl
theorem k_2 : (mapsRowed Tryz.prog) = true := by kernel_rfl
theorem k_3 : (Tryz.f3.params.all (Tryz.prog.readableRec ·)) = true := by kernel_rfl
theorem k_4 : (namedTie Tryz.prog Rows.evalFullRow.named Rows.evalFullSpec.vars) = true := by kernel_rfl
theorem k_5 : ((Rows.evalFullRow.stops == [])) = true := by kernel_rfl
theorem k_6 : ((Tryz.prog.stops == [])) = true := by kernel_rfl
theorem k_7 : ((Rows.evalFullRow.knobs == [])) = true := by kernel_rfl
theorem k_8 : ((Tryz.prog.stopKnobs == [])) = true := by kernel_rfl
theorem k_9 : ((Rows.evalFullRow.inPlace == Tryz.prog.inPlace 3)) = true := by kernel_rfl
theorem k_10 : ((Rows.evalFullRow.unfollowed == Tryz.prog.unfollowed 3)) = true := by kernel_rfl
end Go.Proofs.YtibhfcbgmlhojaaGreatDoor.evalFull
