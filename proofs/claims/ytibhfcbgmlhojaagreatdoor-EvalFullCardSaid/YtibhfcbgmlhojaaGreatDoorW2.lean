/- The witness's other facts. Conditions: none. -/
import Derived.Test.YtibhfcbgmlhojaaGreatDoorW1
import Derived.DataWitness
set_option linter.unusedVariables false
namespace Go.Proofs.YtibhfcbgmlhojaaGreatDoor
set_option maxRecDepth 100000
theorem wHr (os : Os) : ((wW os).heap.toList.drop Tryz.prog.globals.size).take ((begin Tryz.prog (fun _ _ => 0) default).world.heap.size - Tryz.prog.globals.size) =
      (begin Tryz.prog (fun _ _ => 0) default).world.heap.toList.drop Tryz.prog.globals.size := by kernel_rfl
theorem wHok (os : Os) : Input.okWideB Tryz.prog (wW os) 3 ⟨#[], #[.int .i64 0, .int .i64 0], []⟩ = true := by kernel_rfl
/-- a variable holds what fits -/
noncomputable def vB (P : Program) (w : World) (g : Nat) : Bool :=
  match ((begin P (fun _ _ => 0) default).world.heap[g]?).bind Obj.row? with
  | none => true
  | some (zero, t) =>
    match w.heap[g]? with
    | some (.cells cs t' frozen) => decide (t' = t) && decide (frozen = (0, 0)) && cs.size == zero.size && (!P.buildable t || Row.okRefB P w t cs)
    | _ => false
theorem vB_all (P : Program) (w : World) : World.variablesRefB P w = (List.range P.globals.size).all (vB P w) := rfl
/-- a row of one type of cells -/
theorem row_uni {P : Program} {w : World} {t u : TypeId} {n : Nat} {cs : Array Value} (h : P.cellTypes P.depth t = some (List.replicate n u)) (hn : 0 < n) (hs : cs.size = n) (ha : cs.toList.all (Cell.okRefB P w u) = true) : Row.okRefB P w t cs = true := by
  unfold Row.okRefB
  rw [h]
  simp only [List.length_replicate, hs, Nat.mod_self, beq_self_eq_true, Bool.true_and, List.all_eq_true, List.mem_range]
  intro i hi
  have h1 : cs[i]? = some cs[i] := Array.getElem?_eq_getElem (by omega)
  have h2 : (List.replicate n u)[i % n]? = some u := by
    rw [List.getElem?_eq_getElem (by simp; exact Nat.mod_lt _ hn)]
    simp
  rw [h1, h2]
  exact List.all_eq_true.1 ha _ (by simp)
theorem wV0 (os : Os) : vB Tryz.prog (wW os) 0 = true := by kernel_rfl
theorem wV1 (os : Os) : vB Tryz.prog (wW os) 1 = true := by kernel_rfl
theorem wV2 (os : Os) : vB Tryz.prog (wW os) 2 = true := by kernel_rfl
theorem wV3 (os : Os) : vB Tryz.prog (wW os) 3 = true := by kernel_rfl
theorem wV4 (os : Os) : vB Tryz.prog (wW os) 4 = true := by kernel_rfl
theorem wV5 (os : Os) : vB Tryz.prog (wW os) 5 = true := by kernel_rfl
theorem wV6 (os : Os) : vB Tryz.prog (wW os) 6 = true := by kernel_rfl
theorem wV7 (os : Os) : vB Tryz.prog (wW os) 7 = true := by kernel_rfl
theorem wV8 (os : Os) : vB Tryz.prog (wW os) 8 = true := by kernel_rfl
theorem wV9 (os : Os) : vB Tryz.prog (wW os) 9 = true := by kernel_rfl
theorem wV10 (os : Os) : vB Tryz.prog (wW os) 10 = true := by kernel_rfl
theorem wV11 (os : Os) : vB Tryz.prog (wW os) 11 = true := by kernel_rfl
theorem wV12 (os : Os) : vB Tryz.prog (wW os) 12 = true := by kernel_rfl
theorem wV13 (os : Os) : vB Tryz.prog (wW os) 13 = true := by kernel_rfl
theorem wV15 (os : Os) : vB Tryz.prog (wW os) 15 = true := by kernel_rfl
theorem wV16 (os : Os) : vB Tryz.prog (wW os) 16 = true := by kernel_rfl
theorem wV17 (os : Os) : vB Tryz.prog (wW os) 17 = true := by kernel_rfl
noncomputable def cells14 : Array Value := match wg14 with
  | .cells cs _ _ => cs
  | _ => #[]
theorem cellTypes14 : Tryz.prog.cellTypes Tryz.prog.depth 405 = some (List.replicate 1392 35) := by kernel_rfl
theorem heap14 (os : Os) : (wW os).heap[14]? = some (.cells cells14 405 (0, 0)) := by kernel_rfl
theorem size14 : cells14.size = 1392 := by kernel_rfl
theorem begin14 : ((begin Tryz.prog (fun _ _ => 0) default).world.heap[14]?).bind Obj.row? = some ((List.replicate 1392 (Value.int .u64 0)).toArray, 405) := by kernel_rfl
theorem ok14 (os : Os) : cells14.toList.all (Cell.okRefB Tryz.prog (wW os) 35) = true := by kernel_rfl
theorem wV14 (os : Os) : vB Tryz.prog (wW os) 14 = true := by
  unfold vB
  rw [begin14]
  simp only [heap14, decide_true, Bool.true_and, size14, List.size_toArray, List.length_replicate, beq_self_eq_true]
  rw [row_uni cellTypes14 (by omega) size14 (ok14 os)]
  simp
theorem nGlobals : Tryz.prog.globals.size = 18 := by kernel_rfl
theorem wHv (os : Os) : (wW os).variablesRefB Tryz.prog = true := by
  rw [vB_all, nGlobals, List.all_eq_true]
  intro g hg
  have hg : g < 18 := List.mem_range.1 hg
  have hc : g = 0 ∨ g = 1 ∨ g = 2 ∨ g = 3 ∨ g = 4 ∨ g = 5 ∨ g = 6 ∨ g = 7 ∨ g = 8 ∨ g = 9 ∨ g = 10 ∨ g = 11 ∨ g = 12 ∨ g = 13 ∨ g = 14 ∨ g = 15 ∨ g = 16 ∨ g = 17 := by omega
  rcases hc with rfl | rfl | rfl | rfl | rfl | rfl | rfl | rfl | rfl | rfl | rfl | rfl | rfl | rfl | rfl | rfl | rfl | rfl
  · exact wV0 os
  · exact wV1 os
  · exact wV2 os
  · exact wV3 os
  · exact wV4 os
  · exact wV5 os
  · exact wV6 os
  · exact wV7 os
  · exact wV8 os
  · exact wV9 os
  · exact wV10 os
  · exact wV11 os
  · exact wV12 os
  · exact wV13 os
  · exact wV14 os
  · exact wV15 os
  · exact wV16 os
  · exact wV17 os
end Go.Proofs.YtibhfcbgmlhojaaGreatDoor
