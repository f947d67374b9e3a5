/- A verified evaluator of the model, that the kernel runs: part 6 of 6. Conditions: none. -/
import Derived.Test.YtibhfcbgmlhojaaGreatDoorK5
set_option linter.unusedVariables false
set_option linter.unusedSimpArgs false
set_option linter.unusedSectionVars false
/- Entries at their own memory. -/
namespace Go.Kx
/-! ### Entries at their own memory -/
theorem HR.toS {T : TT} {g : Nat} {ro : Option (Nat × Obj)} {S S' : (Nat → Int) → Prop} {ρ : Rho} {h : H} {w : World} (hr : HR (theLp T g ro S) ρ h w) (hs : S' ρ.sy) : HR (theLp T g ro S') ρ h w :=
  ⟨fun b x k hb hk => let ⟨o, q1, q2⟩ := hr.blk b x k hb hk; ⟨o, q1, BkR.withS (S := S') q2⟩, hr.inj, hr.lt, hr.wf, hr.ro, hs⟩
noncomputable def Env.exact (E : Env) (f : Nat) (m : Memo) : Env := { E with pr := Tr.set (pth f) (some (memoP [m])) E.pr }
theorem exact_ok {P : Program} {T : TT} {ro : Option (Nat × Obj)} {S : (Nat → Int) → Prop} {f : Nat} {m : Memo} (hm : EntOK (theLp T 1 ro anyS) P 1 f m) {h : H} (hh : HE h m.h0) {ρ : Rho} {w : World} {args' : Array Value} (hr : HR (theLp T 1 ro S) ρ h w) (hg : GR ρ 1) (ha : VRs ρ m.as args'.toList) :
    (callFunc f args').run P w = .ok (.enter f args') w ∧ ∀ cs, LG (theLp T 1 ro S) P f (Frame.enter P f args' .normal) cs ρ h w (m.u.cr (addH m.news m.nx h)) := by
  have hr0 := hh.hr hr
  obtain ⟨c1, c2⟩ := hm.run ρ w args' (hr0.toS trivial) hg ha
  refine ⟨c1, fun cs => ?_⟩
  have hold : ∀ b, b.num < (hnx m.h0).num → ρ.blk b = none → hget b (addH m.news m.nx h) = hget b h := fun b hb hn => by
    have := addN_old (t := trOf h) hm.new (b := b) hb (by
      cases hq : Tr.get b (reach m.as m.h0) with
      | none => rfl
      | some _ => exact absurd hn (reach_bound hr0 ha (by rw [hq]; simp)))
    cases h; exact this
  have hmem : HE (addH m.news m.nx m.h0) (addH m.news m.nx h) :=
    ⟨fun b => addN_same b (by have := (hh.1 b).symm BkE.symm; cases h; cases hm : m.h0; rw [hm] at this; exact this), rfl⟩
  have := c2 cs
  cases hu : m.u with
  | ret u =>
    rw [hu] at this
    obtain ⟨ρ', v, w', F', e1, e2, e3, e4⟩ := this
    exact ⟨ρ', v, w', F', e1.he (fun b hb hn => hold b hb hn) hh.2.symm rfl, e2, hmem.hr (e3.toS (by rw [e1.le.sy]; exact hr.sy)), e4⟩
  | pn c =>
    rw [hu] at this
    obtain ⟨ρ', v, w', F', e1, e2, e3, e4⟩ := this
    exact ⟨ρ', v, w', F', e1.he (fun b hb hn => hold b hb hn) hh.2.symm rfl, e2, hmem.hr (e3.toS (by rw [e1.le.sy]; exact hr.sy)), e4⟩
theorem oke_exact {P : Program} {T : TT} {E : Env} (hE : OKE P T E) {f : Nat} {m : Memo} (hm : OKM P T f m) : OKE P T (E.exact f m) := fun ro S hro =>
  tell_ok (hE ro S hro) fun args h cr hcr ρ w args' hr hg ha => .inr (by
    have e : ifB (sameL args m.as && sameH h m.h0) (some (m.u.cr (addH m.news m.nx h))) none = some cr := hcr
    rcases ifB_cases (sameL args m.as && sameH h m.h0) (some (m.u.cr (addH m.news m.nx h))) none with ⟨hc, e'⟩ | ⟨_, e'⟩ <;> rw [e'] at e
    · cases e
      simp only [Bool.and_eq_true] at hc
      have := sameL_eq hc.1
      subst this
      exact exact_ok (hm ro hro) (sameH_ok hc.2) hr hg ha
    · cases e)
end Go.Kx
