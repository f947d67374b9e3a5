/- What the row's list gives of the checker's known names. Conditions: none. -/
import Derived.Test.YtibhfcbgmlhojaaGreatDoorRows
import Derived.Test.YtibhfcbgmlhojaaGreatDoorEa
import Derived.LaidLaws
import Derived.Lib.LaidTab
set_option linter.unusedVariables false
namespace Go.Proofs.YtibhfcbgmlhojaaGreatDoor
open Go.Kx
/-- A listed variable. -/
theorem laid_mem {P : Program} {w : World} : ∀ {l : List (String × DataW Unit)} {ps : List MemPlace}, DataW.LaidVars P w l ps → ∀ x ∈ l,
    ∃ g t cs fuel p, P.globalNamed x.1 = some g ∧ (P.globals[g]?).map (·.type) = some t ∧ w.var? P x.1 = some cs ∧ DataW.trod (fun _ => ()) P w 0 (fun _ => true) false fuel t cs.toList = some (x.2, p)
  | [], _, _, x, hx => by cases hx
  | (n, d) :: r, ps, ⟨g, t, cs, fuel, p, q, h1, h2, h3, h4, h5, _⟩, x, hx => by
    rcases List.mem_cons.1 hx with rfl | hx
    · exact ⟨g, t, cs, fuel, p, h1, h2, h3, h4⟩
    · exact laid_mem h5 x hx
/-- An array of texts that reads as texts holds them. -/
theorem cells_of_texts {P : Program} {w : World} {base : Nat} {sp : Nat → Bool} {held : Bool} {fuel : Nat} {t e : TypeId} {n : Nat} {cs : List Value} {ts : List (List UInt8)} {p : List MemPlace}
    (ht : P.underlying t = some (.array n e)) (he : P.underlying e = some .string) (hce : P.cellsOf e = 1) (hct : P.cellsOf t = n)
    (h : DataW.trod (fun _ => ()) P w base sp held fuel t cs = some (.agg (ts.map fun s => .lit (.string s)), p)) : cs.length = ts.length ∧ ∀ (i : Nat) (s : List UInt8), ts[i]? = some s → ∃ b : ByteArray, cs[i]? = some (.string b) ∧ b.data.toList = s := by
  cases fuel with
  | zero => simp [DataW.trod] at h
  | succ fuel =>
    simp only [DataW.trod, ht, hce, hct, Nat.mul_one] at h
    split at h
    · rename_i hl
      obtain ⟨xs, hm, hx⟩ := Option.map_eq_some_iff.1 h
      have hxs : xs.map (·.1) = ts.map fun s => (DataW.lit (.string s) : DataW Unit) := by
        have := congrArg Prod.fst hx
        simpa using this
      have hxl : xs.length = n := by simpa using Lib.mapM_length hm
      have hzl : ts.length = n := by
        have := congrArg List.length hxs
        simp at this
        omega
      refine ⟨by omega, fun i s hs => ?_⟩
      have hi : i < n := by rw [← hzl]; exact (List.getElem?_eq_some_iff.1 hs).1
      obtain ⟨b, hb, hf⟩ := Lib.mapM_at hm i i (by simp [hi])
      obtain ⟨z, hc, rfl, _⟩ := DataW.trod_string he hf
      have h1 : cs[i]? = some (.string z) := by
        have := congrArg (·[0]?) hc
        simpa [List.getElem?_take, List.getElem?_drop] using this
      have h2 : (xs.map (·.1))[i]? = some (DataW.lit (.string z.data.toList) : DataW Unit) := by simp [hb]
      rw [hxs, List.getElem?_map, hs] at h2
      simp only [Option.map_some, Option.some.injEq, DataW.lit.injEq, Lit.string.injEq] at h2
      exact ⟨z, h1, h2.symm⟩
    · cases h
theorem VRs_of_get {ρ : Rho} : ∀ {l : List AV} {vs : List Value}, vs.length = l.length → (∀ (i : Nat) (a : AV), l[i]? = some a → ∃ v, vs[i]? = some v ∧ VR ρ a v) → VRs ρ l vs
  | [], [], _, _ => rfl
  | a :: l, v :: vs, hl, h => by
    refine ⟨v, vs, rfl, ?_, VRs_of_get (by simpa using hl) fun i b hb => by simpa using h (i + 1) b (by simpa using hb)⟩
    obtain ⟨u, hu, hv⟩ := h 0 a rfl
    have hu : v = u := by simpa using hu
    rw [hu]; exact hv
  | [], _ :: _, hl, _ => by simp at hl
  | _ :: _, [], hl, _ => by simp at hl
def texts : List (List UInt8) := [[105, 110, 116], [98, 111, 111, 108], [115, 116, 114, 105, 110, 103], [102, 108, 111, 97, 116, 54, 52], [108, 101, 110], [97, 112, 112, 101, 110, 100], [112, 97, 110, 105, 99]]
theorem known_texts : known = texts.map fun s => AV.str s.length (strNat s) := rfl
theorem gKnown : Tryz.prog.globalNamed "gristmill/check.known" = some 0 := by kernel_rfl
theorem tKnown : (Tryz.prog.globals[0]?).map (·.type) = some 162 := by kernel_rfl
theorem cells162 : Tryz.prog.cellsOf 162 = 7 := by kernel_rfl
theorem cells9 : Tryz.prog.cellsOf 9 = 1 := by kernel_rfl
theorem known_of {W : World} (h : laidMetH Tryz.prog Rows.evalFullRow.laid W) : ∃ (c : Array Value) (e : TypeId) (fz : Nat × Nat), W.heap[0]? = some (.cells c e fz) ∧ ∀ ρ : Rho, VRs ρ known c.toList := by
  have h : laidMet Tryz.prog Rows.evalFullRow.laid W := h
  obtain ⟨ps, hv, _⟩ := h
  obtain ⟨g, t, cs, fuel, p, h1, h2, h3, h4⟩ := laid_mem hv ("gristmill/check.known", Rows.laid_gristmill_check_known) (List.mem_of_getElem? (i := 12) rfl)
  obtain rfl := Option.some.inj (gKnown.symm.trans h1)
  obtain rfl := Option.some.inj (tKnown.symm.trans h2)
  have h5 : Rows.laid_gristmill_check_known (H := Unit) = .agg (texts.map fun s => .lit (.string s)) := rfl
  rw [h5] at h4
  obtain ⟨q1, q2⟩ := cells_of_texts Tryz.underlying162 Tryz.underlying9 cells9 cells162 h4
  have h6 : ∃ (e : TypeId) (fz : Nat × Nat), W.heap[0]? = some (.cells cs e fz) := by
    unfold World.var? at h3
    rw [gKnown] at h3
    simp only [Option.bind_some] at h3
    split at h3
    · rename_i c e fz hc
      cases h3
      exact ⟨e, fz, hc⟩
    · cases h3
  obtain ⟨e, fz, h6⟩ := h6
  refine ⟨cs, e, fz, h6, fun ρ => VRs_of_get (by rw [q1, known_texts, List.length_map]) fun i a ha => ?_⟩
  rw [known_texts, List.getElem?_map] at ha
  obtain ⟨s, hs, rfl⟩ := Option.map_eq_some_iff.1 ha
  obtain ⟨b, hb, rfl⟩ := q2 i s hs
  exact ⟨_, hb, b, rfl, rfl, rfl⟩
end Go.Proofs.YtibhfcbgmlhojaaGreatDoor
