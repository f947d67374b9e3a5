/- Closed facts of the row, the second half. Conditions: none. -/
import Derived.Test.YtibhfcbgmlhojaaGreatDoorCards
import Derived.WalkKit
import Derived.ProofKit
import Derived.OpenShut
set_option linter.unusedVariables false
namespace Go.Proofs.YtibhfcbgmlhojaaGreatDoor.evalFull
open Go.ChangeShapes Go.WideShapes Go.ChangeAt Go.RowKit
set_option maxRecDepth 100000
theorem k_11 : ((Rows.evalFullRow.recurses == Tryz.prog.recurses 3)) = true := by kernel_rfl
theorem k_12 : ((Rows.evalFullRow.named == Tryz.prog.varsNamed 3)) = true := by kernel_rfl
theorem k_13 : ((Rows.evalFullRow.maps == (Tryz.f3.params.toList ++ Rows.evalFullSpec.plain.varTypes Tryz.prog).any (Tryz.prog.mapsRec ·))) = true := by kernel_rfl
theorem k_14 : ((Rows.evalFullRow.ifaces == (Tryz.f3.params.toList ++ Rows.evalFullSpec.plain.varTypes Tryz.prog).any (Tryz.prog.ifacesRec ·))) = true := by kernel_rfl
theorem k_15 : ((Rows.evalFullRow.mapsOut == Tryz.prog.mapsAmong Tryz.f3.resultTypes.toList)) = true := by kernel_rfl
theorem k_16 : ((Rows.evalFullRow.loops == (Tryz.f3.params.toList ++ Rows.evalFullSpec.plain.varTypes Tryz.prog).any (Tryz.prog.loopsFrom ·))) = true := by kernel_rfl
theorem k_17 : ((Rows.evalFullRow.wideKeys == (Tryz.f3.params.toList ++ Rows.evalFullSpec.plain.varTypes Tryz.prog ++ Tryz.f3.resultTypes.toList).any (Tryz.prog.wideKeysFrom ·))) = true := by kernel_rfl
theorem k_18 : (Rows.evalFullSpec.vars.all (Tryz.prog.varReadable ·)) = true := by kernel_rfl
theorem k_19 : (Tryz.f3.resultTypes.all (fun t => Tryz.prog.readableRec t && decide (t < Tryz.prog.types.size))) = true := by kernel_rfl
theorem k_20 : ((Rows.evalFullRow.ifacesOut == Tryz.f3.resultTypes.toList.any (Tryz.prog.ifacesRec ·))) = true := by kernel_rfl
theorem k_21 : ((Rows.evalFullRow.loopsOut == Tryz.f3.resultTypes.toList.any (Tryz.prog.loopsFrom ·))) = true := by kernel_rfl
theorem k_22 : ((Rows.evalFullRow.plainKeys == Tryz.prog.plainKeys)) = true := by kernel_rfl
theorem k_23 : (Rows.evalFullRow.shortTexts.isNone) = true := by kernel_rfl
theorem k_24 : (Tryz.prog.stopsHeard) = true := by kernel_rfl
theorem k_25 : (Tryz.prog.mayEnter) = true := by kernel_rfl
theorem k_26 : ((Rows.evalFullRow.lifted == Tryz.prog.liftsFinal)) = true := by kernel_rfl
theorem k_27 : ((Tryz.prog.make == some Rows.evalFullRow.make)) = true := by kernel_rfl
theorem k_28 : ((Rows.evalFullRow.kinds == (if Rows.evalFullRow.domain.isEmpty then [] else Tryz.f3.params.toList.map fun t => match Tryz.prog.underlying t with | some (.int k) => some k | _ => none))) = true := by kernel_rfl
theorem k_29 : ((Rows.evalFullRow.pinned == Rows.evalFullRow.pinnedBy)) = true := by kernel_rfl
theorem k_30 : ((Rows.evalFullRow.veiled == (Tryz.f3.params.toList ++ Rows.evalFullSpec.plain.varTypes Tryz.prog ++ Tryz.f3.resultTypes.toList).any (Tryz.prog.veiledRec ·))) = true := by kernel_rfl
theorem k_31 : (Rows.evalFullRow.veiledFits Tryz.prog Tryz.f3.params.toList (Tryz.f3.params.toList ++ Rows.evalFullSpec.plain.varTypes Tryz.prog ++ Tryz.f3.resultTypes.toList)) = true := by kernel_rfl
theorem fNamed : Tryz.pinned.checked.prog.funcNamed Rows.evalFullRow.func = some 3 := by kernel_rfl
theorem inst : Tryz.f3.isInstance Tryz.pinned.checked.prog Rows.evalFullRow.origin Rows.evalFullRow.targs := of_decide_eq_true (by kernel_rfl)
theorem wrapper : Tryz.f3.isWrapper Tryz.pinned.checked.prog Rows.evalFullRow.wrapper Rows.evalFullRow.mainSum := by
  unfold Func.isWrapper
  first | (rw [if_pos (by decide +kernel)]; kernel_rfl) | (rw [if_neg (by decide +kernel)]; exact ⟨rfl, rfl⟩)
end Go.Proofs.YtibhfcbgmlhojaaGreatDoor.evalFull
