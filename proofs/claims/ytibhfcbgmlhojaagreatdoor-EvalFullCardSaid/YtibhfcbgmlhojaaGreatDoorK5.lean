/- A verified evaluator of the model, that the kernel runs: part 5 of 6. Conditions: none. -/
import Derived.Test.YtibhfcbgmlhojaaGreatDoorK4
set_option linter.unusedVariables false
set_option linter.unusedSimpArgs false
set_option linter.unusedSectionVars false
/- States of the evaluator, told anew: other names for new blocks, other bases for numbers. -/
namespace Go.Kx
/-- names from n on are turned by these pairs (the new one first), the others stay -/
def nameOf (n : Nat) (ps : List (Pth × Pth)) (b : Pth) : Option Pth := match Nat.blt b.num n with
  | true => some b
  | false => match ps with
    | [] => none
    | (b', c) :: l => match Pth.same b b' with | true => some c | false => nameOf n l b
def isName (n : Nat) (ps : List (Pth × Pth)) (b c : Pth) : Bool := match nameOf n ps b with | some d => Pth.same d c | none => false
noncomputable section
variable (n : Nat) (ps : List (Pth × Pth)) (τ : SI → SI → Bool)
mutual
def rlA : AV → AV → Bool
  | .bool a, .bool b => a == b
  | .int j a, .int k b => Nat.beq (kno j) (kno k) && Nat.beq a b
  | .sym s, .sym t => τ s t
  | .int j a, .sym t => Nat.beq (kno j) (kno .i64) && τ (cI (toI .i64 a)) t
  | .sym s, .int j b => Nat.beq (kno j) (kno .i64) && Nat.blt b (M .i64) && τ s (cI (toI .i64 b))
  | .sl a o l _ _ e, .sls b t f => isName n ps a b && Nat.beq o 0 && Nat.blt 0 l && Nat.beq e f && τ (cI l) t
  | .str l a, .str m b => Nat.beq l m && Nat.beq a b
  | .ptr a o, .ptr b q => isName n ps a b && Nat.beq o q
  | .nilp, .nilp => true
  | .sl a o l c x e, .sl b q m d y f => isName n ps a b && Nat.beq o q && Nat.beq l m && Nat.beq c d && (x == y) && Nat.beq e f
  | .nils, .nils => true
  | .mp a, .mp b => isName n ps a b
  | .nilm, .nilm => true
  | .fn f a c, .fn g b d => Nat.beq f g && rlL a b && rlL c d
  | .yld a, .yld b => isName n ps a b
  | .nilf, .nilf => true
  | .ifc t a, .ifc u b => Nat.beq t u && rlA a b
  | .nili, .nili => true
  | .agg a, .agg b => rlL a b && b.all oneC
  | .tup a, .tup b => rlL a b
  | .sls a s e, .sls b t f => isName n ps a b && τ s t && Nat.beq e f
  | _, _ => false
def rlL : List AV → List AV → Bool
  | [], [] => true
  | a :: l, b :: m => rlA a b && rlL l m
  | _, _ => false
end
end
/-- What the two tellings have to do with one another. -/
structure Tell (n : Nat) (ps : List (Pth × Pth)) (τ : SI → SI → Bool) (ρ ρ2 : Rho) : Prop where
  nm : ∀ b c, nameOf n ps b = some c → ∀ x, ρ.blk b = some x → ρ2.blk c = some x
  sy : ∀ s t, τ s t = true → t.val ρ2.sy = s.val ρ.sy
section
variable {n : Nat} {ps : List (Pth × Pth)} {τ : SI → SI → Bool} {ρ ρ2 : Rho} (ht : Tell n ps τ ρ ρ2)
include ht
theorem Tell.name {b c : Pth} (h : isName n ps b c = true) {x} (hb : ρ.blk b = some x) : ρ2.blk c = some x := by
  unfold isName at h
  split at h
  · rename_i d hd
    rw [← Pth.same_iff.1 h]
    exact ht.nm b d hd x hb
  · cases h
theorem rl_VR (a : AV) : ∀ a' v, rlA n ps τ a a' = true → VR ρ a v → VR ρ2 a' v := by
  refine AV.rec (motive_1 := fun a => ∀ a' v, rlA n ps τ a a' = true → VR ρ a v → VR ρ2 a' v) (motive_2 := fun l => ∀ m vs, rlL n ps τ l m = true → VRs ρ l vs → VRs ρ2 m vs)
    ?bool ?int ?sym ?flt ?str ?ptr ?nilp ?sl ?nils ?mp ?nilm ?fn ?yld ?nilf ?ifc ?nili ?agg ?tup ?sls ?nil ?cons a
  case nil => intro m vs h hv; cases m with | nil => exact hv | cons _ _ => exact absurd h (by simp [rlL])
  case cons =>
    intro x l i1 i2 m vs h hv
    cases m with
    | nil => exact absurd h (by simp [rlL])
    | cons y m =>
      simp only [rlL, Bool.and_eq_true] at h
      obtain ⟨v, l', e, h1, h2⟩ := hv
      exact ⟨v, l', e, i1 y v h.1 h1, i2 m l' h.2 h2⟩
  case bool => intro x a' v h hv; cases a' <;> first | (exfalso; simp [rlA] at h; done) | (simp only [rlA, beq_iff_eq] at h; subst h; exact hv)
  case int =>
    intro k x a' v h hv
    cases a' <;> first | (exfalso; simp [rlA] at h; done) | skip
    · simp only [rlA, Bool.and_eq_true] at h
      obtain rfl := kno_inj (Nat.eq_of_beq_eq_true h.1)
      obtain rfl := Nat.eq_of_beq_eq_true h.2
      exact hv
    · rename_i t
      simp only [rlA, Bool.and_eq_true] at h
      obtain rfl := kno_inj (Nat.eq_of_beq_eq_true h.1)
      have hv : x < M .i64 ∧ v = .int .i64 (toI .i64 x) := hv
      show v = .int .i64 (t.val ρ2.sy)
      rw [hv.2, ht.sy _ t h.2, cI_val]
  case sym =>
    intro s a' v h hv
    have hv : v = .int .i64 (s.val ρ.sy) := hv
    cases a' <;> first | (exfalso; simp [rlA] at h; done) | skip
    · rename_i k b
      simp only [rlA, Bool.and_eq_true] at h
      obtain rfl := kno_inj (Nat.eq_of_beq_eq_true h.1.1)
      have hs := ht.sy _ _ h.2
      rw [cI_val] at hs
      exact ⟨Nat.le_of_ble_eq_true h.1.2, by rw [hv, hs]⟩
    · rename_i t
      simp only [rlA] at h
      show v = .int .i64 (t.val ρ2.sy)
      rw [hv, ht.sy s t h]
  case flt => intro k x a' v h hv; cases a' <;> (simp [rlA] at h)
  case str =>
    intro k x a' v h hv
    cases a' <;> first | (exfalso; simp [rlA] at h; done) | skip
    simp only [rlA, Bool.and_eq_true] at h
    obtain rfl := Nat.eq_of_beq_eq_true h.1
    obtain rfl := Nat.eq_of_beq_eq_true h.2
    exact hv
  case ptr =>
    intro b o a' v h hv
    cases a' <;> first | (exfalso; simp [rlA] at h; done) | skip
    simp only [rlA, Bool.and_eq_true] at h
    obtain rfl := Nat.eq_of_beq_eq_true h.2
    obtain ⟨x, e, e'⟩ := hv
    exact ⟨x, ht.name h.1 e, e'⟩
  case nilp => intro a' v h hv; cases a' <;> first | exact hv | (exfalso; simp [rlA] at h; done)
  case sl =>
    intro b o l c ex es a' v h hv
    cases a' <;> first | (exfalso; simp [rlA] at h; done) | skip
    · simp only [rlA, Bool.and_eq_true, beq_iff_eq] at h
      obtain ⟨⟨⟨⟨⟨h1, h2⟩, h3⟩, h4⟩, h5⟩, h6⟩ := h
      obtain rfl := Nat.eq_of_beq_eq_true h2
      obtain rfl := Nat.eq_of_beq_eq_true h3
      obtain rfl := Nat.eq_of_beq_eq_true h4
      subst h5
      obtain rfl := Nat.eq_of_beq_eq_true h6
      obtain ⟨x, off, cap, e, e'⟩ := hv
      exact ⟨x, off, cap, ht.name h1 e, e'⟩
    · rename_i b' t f
      simp only [rlA, Bool.and_eq_true] at h
      obtain ⟨⟨⟨⟨h1, h2⟩, h3⟩, h4⟩, h5⟩ := h
      obtain rfl := Nat.eq_of_beq_eq_true h2
      have h3 : 0 < l := Nat.le_of_ble_eq_true h3
      obtain rfl := Nat.eq_of_beq_eq_true h4
      obtain ⟨x, off, cap, e, e1, e2, e3, e4, e5⟩ := hv
      have hs := ht.sy _ t h5
      rw [cI_val] at hs
      obtain ⟨g1, g2⟩ := e5 (by omega)
      exact ⟨x, off, cap, ht.name h1 e, by rw [hs]; exact e1, by rw [hs]; omega, by rw [hs]; omega, by omega, by omega⟩
  case nils => intro a' v h hv; cases a' <;> first | exact hv | (exfalso; simp [rlA] at h; done)
  case mp =>
    intro b a' v h hv
    cases a' <;> first | (exfalso; simp [rlA] at h; done) | skip
    simp only [rlA] at h
    obtain ⟨x, e, e'⟩ := hv
    exact ⟨x, ht.name h e, e'⟩
  case nilm => intro a' v h hv; cases a' <;> first | exact hv | (exfalso; simp [rlA] at h; done)
  case fn =>
    intro f x c i1 i2 a' v h hv
    cases a' <;> first | (exfalso; simp [rlA] at h; done) | skip
    simp only [rlA, Bool.and_eq_true] at h
    obtain rfl := Nat.eq_of_beq_eq_true h.1.1
    obtain ⟨p, q, e, h1, h2⟩ := hv
    exact ⟨p, q, e, i1 _ _ h.1.2 h1, i2 _ _ h.2 h2⟩
  case yld =>
    intro b a' v h hv
    cases a' <;> first | (exfalso; simp [rlA] at h; done) | skip
    simp only [rlA] at h
    obtain ⟨x, e, e'⟩ := hv
    exact ⟨x, ht.name h e, e'⟩
  case nilf => intro a' v h hv; cases a' <;> first | exact hv | (exfalso; simp [rlA] at h; done)
  case ifc =>
    intro t x i a' v h hv
    cases a' <;> first | (exfalso; simp [rlA] at h; done) | skip
    simp only [rlA, Bool.and_eq_true] at h
    obtain rfl := Nat.eq_of_beq_eq_true h.1
    obtain ⟨y, e, h1⟩ := hv
    exact ⟨y, e, i _ _ h.2 h1⟩
  case nili => intro a' v h hv; cases a' <;> first | exact hv | (exfalso; simp [rlA] at h; done)
  case agg =>
    intro l i a' v h hv
    cases a' <;> first | (exfalso; simp [rlA] at h; done) | skip
    simp only [rlA, Bool.and_eq_true] at h
    obtain ⟨p, e, h1, h2⟩ := hv
    exact ⟨p, e, i _ _ h.1 h1, h.2⟩
  case tup =>
    intro l i a' v h hv
    cases a' <;> first | (exfalso; simp [rlA] at h; done) | skip
    simp only [rlA] at h
    obtain ⟨p, e, h1⟩ := hv
    exact ⟨p, e, i _ _ h h1⟩
  case sls =>
    intro b s es a' v h hv
    cases a' <;> first | (exfalso; simp [rlA] at h; done) | skip
    rename_i b' t es'
    simp only [rlA, Bool.and_eq_true] at h
    obtain ⟨⟨h1, h2⟩, h3⟩ := h
    obtain rfl := Nat.eq_of_beq_eq_true h3
    obtain ⟨x, off, cap, e, e'⟩ := hv
    refine ⟨x, off, cap, ht.name h1 e, ?_⟩
    rw [ht.sy s t h2]; exact e'
end
/-! ### Memory, told anew -/
noncomputable section
variable (n : Nat) (ps : List (Pth × Pth)) (τ : SI → SI → Bool)
/-- what is told of cells is told of them before -/
def rlT : Tr AV → Tr AV → Bool
  | _, .e => true
  | .e, .n v a b c d => (match v with | none => true | some _ => false) && rlT .e a && rlT .e b && rlT .e c && rlT .e d
  | .n u x y z q, .n v a b c d => (match u, v with | _, none => true | some u, some v => rlA n ps τ u v && oneC v | none, some _ => false) && rlT x a && rlT y b && rlT z c && rlT q d
def rlM : List (AV × AV) → List (AV × AV) → Bool
  | [], [] => true
  | (a, b) :: l, (c, d) :: m => rlA n ps τ a c && rlA n ps τ b d && rlM l m
  | _, _ => false
def rlK : Bk → Bk → Bool
  | .own t, .own u => rlT n ps τ t u
  | .ro t, .ro u => rlT n ps τ t u
  | .mp l, .mp m => rlM n ps τ l m
  | .col, .col => true
  | _, _ => false
end
theorem rlT_e {n : Nat} {ps : List (Pth × Pth)} {τ : SI → SI → Bool} : ∀ (u : Tr AV), rlT n ps τ .e u = true → ∀ p, Tr.get p u = none
  | .e, h, p => Tr.get_e p
  | .n v a b c d, h, p => by
    simp only [rlT, Bool.and_eq_true] at h
    obtain ⟨⟨⟨⟨h0, h1⟩, h2⟩, h3⟩, h4⟩ := h
    cases p with
    | z => cases v with | none => rfl | some _ => cases h0
    | a p => exact rlT_e a h1 p
    | b p => exact rlT_e b h2 p
    | c p => exact rlT_e c h3 p
    | d p => exact rlT_e d h4 p
theorem rlT_get {n : Nat} {ps : List (Pth × Pth)} {τ : SI → SI → Bool} : ∀ (t u : Tr AV), rlT n ps τ t u = true → ∀ p v, Tr.get p u = some v → ∃ x, Tr.get p t = some x ∧ rlA n ps τ x v = true ∧ oneC v = true
  | t, .e, h, p, v, hv => by rw [Tr.get_e] at hv; cases hv
  | .e, .n v a b c d, h, p, w, hw => by rw [rlT_e _ h] at hw; cases hw
  | .n u x y z q, .n v a b c d, h, p, w, hw => by
    simp only [rlT, Bool.and_eq_true] at h
    obtain ⟨⟨⟨⟨h0, h1⟩, h2⟩, h3⟩, h4⟩ := h
    cases p with
    | z =>
      have hw : v = some w := hw
      subst hw
      cases u with
      | none => cases h0
      | some u =>
        simp only [Bool.and_eq_true] at h0
        exact ⟨u, rfl, h0.1, h0.2⟩
    | a p => exact rlT_get x a h1 p w hw
    | b p => exact rlT_get y b h2 p w hw
    | c p => exact rlT_get z c h3 p w hw
    | d p => exact rlT_get q d h4 p w hw
section
variable {n : Nat} {ps : List (Pth × Pth)} {τ : SI → SI → Bool} {ρ ρ2 : Rho} (ht : Tell n ps τ ρ ρ2)
include ht
theorem rlM_ok : ∀ {l m : List (AV × AV)} {en : List MapEntry}, rlM n ps τ l m = true → MR ρ l en → MR ρ2 m en
  | [], [], en, _, h => h
  | (a, b) :: l, (c, d) :: m, en, h, ⟨e, l', e1, h1, h2, h3⟩ => by
    simp only [rlM, Bool.and_eq_true] at h
    exact ⟨e, l', e1, rl_VR ht a c _ h.1.1 h1, rl_VR ht b d _ h.1.2 h2, rlM_ok h.2 h3⟩
  | [], _ :: _, en, h, _ => by cases h
  | _ :: _, [], en, h, _ => by cases h
theorem rlK_ok {L : Lp} {x : Nat × Nat × Nat} {k k2 : Bk} {o : Obj} (h : rlK n ps τ k k2 = true) (hk : BkR L ρ x k o) : BkR L ρ2 x k2 o := by
  cases k <;> cases k2 <;> first | (cases h; done) | skip
  · obtain ⟨c, e, fz, q1, q2, q3, q4, q5⟩ := hk
    refine ⟨c, e, fz, q1, q2, q3, fun p v hv => ?_, q5⟩
    obtain ⟨y, hy, h1, h2⟩ := rlT_get _ _ h p v hv
    obtain ⟨_, z, hz, hvz⟩ := q4 p y hy
    exact ⟨h2, z, hz, rl_VR ht _ _ _ h1 hvz⟩
  · obtain ⟨en, clk, q1, q2⟩ := hk
    exact ⟨en, clk, q1, rlM_ok ht h q2⟩
  · exact hk
  · obtain ⟨c, e, fz, q1, q2, q4⟩ := hk
    refine ⟨c, e, fz, q1, q2, fun p v hv => ?_⟩
    obtain ⟨y, hy, h1, h2⟩ := rlT_get _ _ h p v hv
    obtain ⟨_, z, hz, hvz⟩ := q4 p y hy
    exact ⟨h2, z, hz, rl_VR ht _ _ _ h1 hvz⟩
end
theorem BkR.withS {L : Lp} {S : (Nat → Int) → Prop} {ρ : Rho} {x k o} (h : BkR L ρ x k o) : BkR { L with S := S } ρ x k o := by
  cases k <;> exact h
/-- New names: one block is told under another name, the others from n on are not told any more. -/
def Rho.re (ρ : Rho) (n : Nat) (b1 c1 : Pth) (sy : Nat → Int) : Rho := ⟨fun c => if c.num < n then ρ.blk c else if c = c1 then ρ.blk b1 else none, sy⟩
theorem nameOf_nil {n : Nat} {b : Pth} (h : Nat.blt b.num n = false) : nameOf n [] b = none := by unfold nameOf; rw [h]
theorem nameOf_one {n : Nat} {b1 c1 b c : Pth} (h : nameOf n [(b1, c1)] b = some c) : (b = c ∧ c.num < n) ∨ (b = b1 ∧ c = c1 ∧ ¬ b.num < n) := by
  unfold nameOf at h
  cases hlt : Nat.blt b.num n with
  | true => rw [hlt] at h; cases h; exact .inl ⟨rfl, Nat.le_of_ble_eq_true hlt⟩
  | false =>
    rw [hlt] at h
    dsimp only at h
    have hn : ¬ b.num < n := fun hq => by rw [show Nat.blt b.num n = true from Nat.ble_eq_true_of_le hq] at hlt; cases hlt
    cases hq : Pth.same b b1 with
    | true => rw [hq] at h; cases h; exact .inr ⟨Pth.same_iff.1 hq, rfl, hn⟩
    | false => rw [hq] at h; dsimp only at h; rw [nameOf_nil hlt] at h; cases h
theorem tell_re {n : Nat} {b1 c1 : Pth} {τ : SI → SI → Bool} {ρ : Rho} {sy : Nat → Int} (hc : n ≤ c1.num) (hs : ∀ s t, τ s t = true → t.val sy = s.val ρ.sy) : Tell n [(b1, c1)] τ ρ (ρ.re n b1 c1 sy) := by
  refine ⟨fun b c hb x hx => ?_, hs⟩
  rcases nameOf_one hb with ⟨rfl, hlt⟩ | ⟨rfl, rfl, hn⟩
  · show (if b.num < n then ρ.blk b else _) = _
    rw [if_pos hlt]; exact hx
  · show (if c.num < n then _ else if c = c then ρ.blk b else none) = _
    rw [if_neg (by omega), if_pos rfl]; exact hx
theorem HR.re {L : Lp} {ρ : Rho} {h h2 : H} {w : World} (hr : HR L ρ h w) {n : Nat} {b1 c1 : Pth} {τ : SI → SI → Bool} {sy : Nat → Int} (hb1 : n ≤ b1.num) (hc1 : n ≤ c1.num) (hs : ∀ s t, τ s t = true → t.val sy = s.val ρ.sy)
    (hh : ∀ c k2, hget c h2 = some k2 → ∃ b k, nameOf n [(b1, c1)] b = some c ∧ hget b h = some k ∧ rlK n [(b1, c1)] τ k k2 = true)
    (hnx1 : n ≤ (hnx h2).num) (hnx2 : c1.num < (hnx h2).num) (hwf : ∀ c, (hnx h2).num ≤ c.num → hget c h2 = none)
    (hro : ∀ B o, L.ro = some (B, o) → B < n ∧ ∃ t, hget (pth B) h2 = some (.ro t)) {S : (Nat → Int) → Prop} (hS : S sy) : HR { L with S := S } (ρ.re n b1 c1 sy) h2 w := by
  have ht := tell_re (b1 := b1) (ρ := ρ) hc1 hs
  -- where a name comes from
  have back : ∀ b c, nameOf n [(b1, c1)] b = some c → (b = c ∧ c.num < n) ∨ (b = b1 ∧ c = c1) := fun b c hb => by
    rcases nameOf_one hb with q | ⟨q1, q2, _⟩
    · exact .inl q
    · exact .inr ⟨q1, q2⟩
  have blk : ∀ b c x, nameOf n [(b1, c1)] b = some c → (ρ.re n b1 c1 sy).blk c = some x → ρ.blk b = some x := fun b c x hb hx => by
    rcases back b c hb with ⟨rfl, hlt⟩ | ⟨rfl, rfl⟩
    · have hx : (if b.num < n then ρ.blk b else _) = some x := hx
      rw [if_pos hlt] at hx; exact hx
    · have hx : (if c.num < n then _ else if c = c then ρ.blk b else none) = some x := hx
      rw [if_neg (by omega), if_pos rfl] at hx; exact hx
  refine ⟨fun c x k2 hc hk => ?_, fun c c' x x' hc hc' e g1 g2 => ?_, fun c x hc => ?_, hwf, fun B o e => ?_, hS⟩
  · obtain ⟨b, k, h1, h2', h3⟩ := hh c k2 hk
    obtain ⟨o, q1, q2⟩ := hr.blk b x k (blk b c x h1 hc) h2'
    exact ⟨o, q1, BkR.withS (rlK_ok ht h3 q2)⟩
  · cases hk : hget c h2 with
    | none => exact absurd hk g1
    | some k =>
      cases hk' : hget c' h2 with
      | none => exact absurd hk' g2
      | some k' =>
        obtain ⟨b, j, p1, p2, _⟩ := hh c k hk
        obtain ⟨b', j', p1', p2', _⟩ := hh c' k' hk'
        have := hr.inj b b' x x' (blk b c x p1 hc) (blk b' c' x' p1' hc') e (by rw [p2]; simp) (by rw [p2']; simp)
        subst this
        rw [p1] at p1'; cases p1'; rfl
  · have hc2 : (if c.num < n then ρ.blk c else if c = c1 then ρ.blk b1 else none) = some x := hc
    by_cases h1 : c.num < n
    · rw [if_pos h1] at hc2; exact ⟨(hr.lt c x hc2).1, by omega⟩
    · rw [if_neg h1] at hc2
      by_cases h3 : c = c1
      · rw [if_pos h3] at hc2; exact ⟨(hr.lt b1 x hc2).1, by rw [h3]; exact hnx2⟩
      · rw [if_neg h3] at hc2; cases hc2
  · obtain ⟨q0, n', t, q1, q2⟩ := hr.ro B o e
    obtain ⟨hB, t', q3⟩ := hro B o e
    refine ⟨q0, n', t', ?_, q3⟩
    show (if (pth B).num < n then ρ.blk (pth B) else _) = _
    rw [if_pos (by rw [pth_num]; exact hB)]; exact q1
end Go.Kx

/- Calls that are known, what they come to told anew: other intervals, fewer blocks. -/
namespace Go.Kx
/-- the same base within two intervals: of each base it is known where it lies -/
def tauI (tab : List (Nat × Int × Int)) (s t : SI) : Bool := (s.neg == t.neg) && Nat.beq s.i t.i && decide (s.off = t.off) &&
  (match tab.find? (fun p => Nat.beq p.1 s.i) with
   | some (_, a, b) => decide (s.lo ≤ a) && decide (b ≤ s.hi) && decide (t.lo ≤ a) && decide (b ≤ t.hi)
   | none => decide (s.lo = t.lo) && decide (s.hi = t.hi))
/-- the bases lie where it is told -/
def InTab (tab : List (Nat × Int × Int)) (x : Nat → Int) : Prop := ∀ i a b, (i, a, b) ∈ tab → a ≤ x i ∧ x i ≤ b
theorem tauI_val {tab : List (Nat × Int × Int)} {s t : SI} (h : tauI tab s t = true) {x : Nat → Int} (hx : InTab tab x) : t.val x = s.val x := by
  simp only [tauI, Bool.and_eq_true, beq_iff_eq, decide_eq_true_eq] at h
  obtain ⟨⟨⟨h1, h2⟩, h3⟩, h4⟩ := h
  have h2 := Nat.eq_of_beq_eq_true h2
  unfold SI.val
  split at h4
  · rename_i j a b hf
    simp only [Bool.and_eq_true, decide_eq_true_eq] at h4
    obtain ⟨⟨⟨q1, q2⟩, q3⟩, q4⟩ := h4
    have hj := List.find?_some hf
    have hj := Nat.eq_of_beq_eq_true hj
    have hm := List.mem_of_find?_eq_some hf
    simp only at hj
    subst hj
    obtain ⟨r1, r2⟩ := hx _ a b hm
    rw [← h2, clampI_in (by omega) (by omega), clampI_in (by omega) (by omega), h1, h3]
  · simp only [Bool.and_eq_true, decide_eq_true_eq] at h4
    rw [← h1, ← h2, ← h3, ← h4.1, ← h4.2]
theorem tell_id {N : Nat} {τ : SI → SI → Bool} {ρ : Rho} (hs : ∀ s t, τ s t = true → t.val ρ.sy = s.val ρ.sy) : Tell N [] τ ρ ρ := by
  refine ⟨fun b c hb x hx => ?_, hs⟩
  unfold nameOf at hb
  split at hb
  · cases hb; exact hx
  · cases hb
noncomputable section
/-- what the second memory tells, the first tells -/
def simT (N : Nat) (τ : SI → SI → Bool) : Tr Bk → Tr Bk → Bool
  | _, .e => true
  | .e, .n v a b c d => (match v with | none => true | some _ => false) && simT N τ .e a && simT N τ .e b && simT N τ .e c && simT N τ .e d
  | .n u x y z q, .n v a b c d => (match u, v with | _, none => true | some u, some v => rlK N [] τ u v | none, some _ => false) && simT N τ x a && simT N τ y b && simT N τ z c && simT N τ q d
def simH (N : Nat) (τ : SI → SI → Bool) (h h2 : H) : Bool := simT N τ (trOf h) (trOf h2) && Pth.same (hnx h) (hnx h2)
def simCh (N : Nat) (τ : SI → SI → Bool) : Chain → Chain → Bool
  | [], [] => true
  | p :: c, q :: d => rlA N [] τ p.v q.v && (p.rc == q.rc) && simCh N τ c d
  | _, _ => false
def simCR (N : Nat) (τ : SI → SI → Bool) : CR → CR → Bool
  | .ret u h, .ret v h' => rlA N [] τ u v && simH N τ h h'
  | .pn c h, .pn d h' => simCh N τ c d && simH N τ h h'
  | _, _ => false
end
theorem simT_e {N : Nat} {τ : SI → SI → Bool} : ∀ (u : Tr Bk), simT N τ .e u = true → ∀ p, Tr.get p u = none
  | .e, h, p => Tr.get_e p
  | .n v a b c d, h, p => by
    simp only [simT, Bool.and_eq_true] at h
    obtain ⟨⟨⟨⟨h0, h1⟩, h2⟩, h3⟩, h4⟩ := h
    cases p with
    | z => cases v with | none => rfl | some _ => cases h0
    | a p => exact simT_e a h1 p
    | b p => exact simT_e b h2 p
    | c p => exact simT_e c h3 p
    | d p => exact simT_e d h4 p
theorem simT_get {N : Nat} {τ : SI → SI → Bool} : ∀ (t u : Tr Bk), simT N τ t u = true → ∀ p v, Tr.get p u = some v → ∃ x, Tr.get p t = some x ∧ rlK N [] τ x v = true
  | t, .e, h, p, v, hv => by rw [Tr.get_e] at hv; cases hv
  | .e, .n v a b c d, h, p, w, hw => by rw [simT_e _ h] at hw; cases hw
  | .n u x y z q, .n v a b c d, h, p, w, hw => by
    simp only [simT, Bool.and_eq_true] at h
    obtain ⟨⟨⟨⟨h0, h1⟩, h2⟩, h3⟩, h4⟩ := h
    cases p with
    | z =>
      have hw : v = some w := hw
      subst hw
      cases u with
      | none => cases h0
      | some u => exact ⟨u, rfl, h0⟩
    | a p => exact simT_get x a h1 p w hw
    | b p => exact simT_get y b h2 p w hw
    | c p => exact simT_get z c h3 p w hw
    | d p => exact simT_get q d h4 p w hw
theorem simCh_ok {N : Nat} {τ : SI → SI → Bool} {ρ : Rho} (ht : Tell N [] τ ρ ρ) : ∀ {c d : Chain} {l : List PanicEntry}, simCh N τ c d = true → ChR ρ c l → ChR ρ d l
  | [], [], l, _, h => h
  | p :: c, q :: d, l, h, ⟨e, l', h1, h2, h3, h4, h5⟩ => by
    simp only [simCh, Bool.and_eq_true, beq_iff_eq] at h
    exact ⟨e, l', h1, rl_VR ht _ _ _ h.1.1 h2, by rw [h3, h.1.2], h4, simCh_ok ht h.2 h5⟩
  | [], _ :: _, l, h, _ => by cases h
  | _ :: _, [], l, h, _ => by cases h
/-- Memory, of which less is told. -/
theorem HR.sim {L : Lp} {ρ : Rho} {h h2 : H} {w : World} (hr : HR L ρ h w) {N : Nat} {τ : SI → SI → Bool} (ht : Tell N [] τ ρ ρ) (hs : ∀ c k2, hget c h2 = some k2 → ∃ k, hget c h = some k ∧ rlK N [] τ k k2 = true) (hn : hnx h = hnx h2)
    (hro : ∀ B o, L.ro = some (B, o) → ∃ t, hget (pth B) h2 = some (.ro t)) : HR L ρ h2 w := by
  have nn : ∀ c, hget c h2 ≠ none → hget c h ≠ none := fun c hc => by
    cases hq : hget c h2 with
    | none => exact absurd hq hc
    | some k2 => obtain ⟨k, hk, _⟩ := hs c k2 hq; rw [hk]; simp
  refine ⟨fun c x k2 hc hk => ?_, fun c c' x x' hc hc' e g1 g2 => hr.inj c c' x x' hc hc' e (nn c g1) (nn c' g2), fun c x hc => by rw [← hn]; exact hr.lt c x hc, fun c hc => ?_, fun B o e => ?_, hr.sy⟩
  · obtain ⟨k, q1, q2⟩ := hs c k2 hk
    obtain ⟨o, r1, r2⟩ := hr.blk c x k hc q1
    exact ⟨o, r1, rlK_ok ht q2 r2⟩
  · have h1 := hr.wf c (by rw [hn]; exact hc)
    cases hq : hget c h2 with
    | none => rfl
    | some k2 => obtain ⟨k, hk, _⟩ := hs c k2 hq; rw [h1] at hk; cases hk
  · obtain ⟨q0, n, t, q1, q2⟩ := hr.ro B o e
    obtain ⟨t', q3⟩ := hro B o e
    exact ⟨q0, n, t', q1, q3⟩
/-- The run says so, but for what is told anew; nothing is done to the block that is read alone (the first). -/
noncomputable def memoC2 (E : Env) (N : Nat) (tab : List (Nat × Int × Int)) (k f : Nat) (m : Memo) : Bool :=
  simCR N (tauI tab) ((runF E (k + 1)).call none (pth f) m.as m.h0) (m.u.cr (addH m.news m.nx m.h0)) && newN (hnx m.h0).num (reach m.as m.h0) m.news && m.news.all (fun p => Nat.blt 0 p.1.num)
theorem addN_zero : ∀ {l : List (Pth × Option Bk)} {t : Tr Bk}, l.all (fun p => Nat.blt 0 p.1.num) = true → Tr.get (pth 0) (addN l t) = Tr.get (pth 0) t
  | [], t, _ => rfl
  | (c, k) :: l, t, h => by
    simp only [List.all_cons, Bool.and_eq_true] at h
    show Tr.get (pth 0) (addN l (Tr.set c k t)) = _
    rw [addN_zero h.2, Tr.get_set_ne]
    intro e
    have := Nat.le_of_ble_eq_true h.1
    rw [← e, pth_num] at this
    omega
section memo
variable {P : Program} {T : TT} {g : Nat} {ro : Option (Nat × Obj)} {S : (Nat → Int) → Prop} (hT : TOK T P) {E : Env} (hE : EnvOK (theLp T g ro S) E P T g)
include hT hE
theorem memo2_ok {N : Nat} {tab : List (Nat × Int × Int)} (hS : ∀ x, S x → InTab tab x) (hro : ∀ B o, ro = some (B, o) → B = 0) {k f : Nat} {m : Memo} (hc : memoC2 E N tab k f m = true) {h : H} (hh : HE h m.h0) {ρ : Rho} {w : World} {args' : Array Value}
    (hr : HR (theLp T g ro S) ρ h w) (hg : GR ρ g) (ha : VRs ρ m.as args'.toList) :
    (callFunc f args').run P w = .ok (.enter f args') w ∧ ∀ cs, LG (theLp T g ro S) P f (Frame.enter P f args' .normal) cs ρ h w (m.u.cr (addH m.news m.nx h)) := by
  simp only [memoC2, Bool.and_eq_true] at hc
  obtain ⟨⟨hrun, hnew⟩, hz⟩ := hc
  obtain ⟨q1, q2, q3⟩ := runF_ok hT hE (fun call hc => drw_ok hT hc) k
  have hr0 := hh.hr hr
  have hfn := fn_ok hT q1 q2 q3 hE (f := pth f) hr0 hg ha
  rw [pth_num] at hfn
  have he : callE E (runF E k).ex (runF E k).call none (pth f) m.as m.h0 = (runF E (k + 1)).call none (pth f) m.as m.h0 := rfl
  rw [he] at hfn
  generalize (runF E (k + 1)).call none (pth f) m.as m.h0 = r at hrun hfn
  have hold : ∀ b, b.num < (hnx m.h0).num → ρ.blk b = none → hget b (addH m.news m.nx h) = hget b h := fun b hb hn => by
    have := addN_old (t := trOf h) hnew (b := b) hb (by
      cases hq : Tr.get b (reach m.as m.h0) with
      | none => rfl
      | some _ => exact absurd hn (reach_bound hr0 ha (by rw [hq]; simp)))
    cases h; exact this
  -- what is told of the run's memory, and of this one
  have key : ∀ {ρ' : Rho} {h' : H} {w' : World}, Ext ρ m.h0 w ρ' h' w' → HR (theLp T g ro S) ρ' h' w' → simH N (tauI tab) h' (addH m.news m.nx m.h0) = true → Ext ρ h w ρ' (addH m.news m.nx h) w' ∧ HR (theLp T g ro S) ρ' (addH m.news m.nx h) w' ∧ Tell N [] (tauI tab) ρ' ρ' := by
    intro ρ' h' w' e1 e3 hsim
    simp only [simH, Bool.and_eq_true] at hsim
    have hnx : hnx h' = m.nx := Pth.same_iff.1 hsim.2
    have ht : Tell N [] (tauI tab) ρ' ρ' := tell_id fun s t hst => tauI_val hst (hS _ e3.sy)
    have mid : HR (theLp T g ro S) ρ' (addH m.news m.nx m.h0) w' := by
      refine e3.sim ht (fun c k2 hk => ?_) hnx fun B o e => ?_
      · obtain ⟨x, hx, hxk⟩ := simT_get _ _ hsim.1 c k2 hk
        refine ⟨x, ?_, hxk⟩
        cases h'; exact hx
      · obtain rfl := hro B o e
        obtain ⟨_, n, t, _, q2⟩ := hr0.ro 0 o e
        refine ⟨t, ?_⟩
        show Tr.get (pth 0) (addN m.news (trOf m.h0)) = _
        rw [addN_zero hz]
        cases hm : m.h0; rw [hm] at q2; exact q2
    have hhe : HE (addH m.news m.nx m.h0) (addH m.news m.nx h) := ⟨fun b => addN_same b (by have := (hh.1 b).symm BkE.symm; cases h; cases hm : m.h0; rw [hm] at this; exact this), rfl⟩
    exact ⟨e1.he (fun b hb hn => hold b hb hn) hh.2.symm hnx, hhe.hr mid, ht⟩
  generalize hu : m.u = u at hrun ⊢
  cases u with
  | ret u0 =>
    cases r with
    | pn c h' => cases hrun
    | bad _ => cases hrun
    | ret u' h' =>
      simp only [MRes.cr, simCR, Bool.and_eq_true] at hrun
      rcases hfn with ⟨q, hq⟩ | ⟨c1, c2⟩
      · cases hq
      · refine ⟨c1, fun cs => ?_⟩
        obtain ⟨ρ', v, w', F', e1, e2, e3, e4⟩ := c2 cs
        obtain ⟨k1, k2, k3⟩ := key e1 e3 hrun.2
        exact ⟨ρ', v, w', F', k1, rl_VR k3 _ _ _ hrun.1 e2, k2, e4⟩
  | pn c0 =>
    cases r with
    | ret u' h' => cases hrun
    | bad _ => cases hrun
    | pn c h' =>
      simp only [MRes.cr, simCR, Bool.and_eq_true] at hrun
      rcases hfn with ⟨q, hq⟩ | ⟨c1, c2⟩
      · cases hq
      · refine ⟨c1, fun cs => ?_⟩
        obtain ⟨ρ', v, w', F', e1, e2, e3, e4⟩ := c2 cs
        obtain ⟨k1, k2, k3⟩ := key e1 e3 hrun.2
        exact ⟨ρ', v, w', F', k1, simCh_ok k3 hrun.1 e2, k2, e4⟩
theorem memoP2_ok {N : Nat} {tab : List (Nat × Int × Int)} (hS : ∀ x, S x → InTab tab x) (hro : ∀ B o, ro = some (B, o) → B = 0) {k f : Nat} : ∀ {l : List Memo}, (∀ m ∈ l, memoC2 E N tab k f m = true) → ∀ {args : List AV} {h : H} {cr : CR}, memoP l args h = some cr →
    ∀ {ρ : Rho} {w : World} {args' : Array Value}, HR (theLp T g ro S) ρ h w → GR ρ g → VRs ρ args args'.toList →
    (callFunc f args').run P w = .ok (.enter f args') w ∧ ∀ cs, LG (theLp T g ro S) P f (Frame.enter P f args' .normal) cs ρ h w cr
  | [], _, args, h, cr, e, _, _, _, _, _, _ => by cases e
  | m :: l, hl, args, h, cr, e, ρ, w, args', hr, hg, ha => by
    have e : ifB (sameL args m.as && sameH h m.h0) (some (m.u.cr (addH m.news m.nx h))) (memoP l args h) = some cr := e
    rcases ifB_cases (sameL args m.as && sameH h m.h0) (some (m.u.cr (addH m.news m.nx h))) (memoP l args h) with ⟨hc, e'⟩ | ⟨_, e'⟩ <;> rw [e'] at e
    · cases e
      simp only [Bool.and_eq_true] at hc
      have := sameL_eq hc.1
      subst this
      exact memo2_ok hT hE hS hro (hl m (by simp)) (sameH_ok hc.2) hr hg ha
    · exact memoP2_ok hS hro (fun m hm => hl m (by simp [hm])) e hr hg ha
end memo
/-- Any answer to a function's calls that is sound may be added. -/
theorem tell_ok {P : Program} {T : TT} {g : Nat} {ro : Option (Nat × Obj)} {S : (Nat → Int) → Prop} {E : Env} (hE : EnvOK (theLp T g ro S) E P T g) {f : Nat} {p : List AV → H → Option CR}
    (hp : ∀ args h cr, p args h = some cr → ∀ ρ w args', HR (theLp T g ro S) ρ h w → GR ρ g → VRs ρ args args'.toList →
      (∃ q, cr = .bad q) ∨ ((callFunc f args').run P w = .ok (.enter f args') w ∧ ∀ cs, LG (theLp T g ro S) P f (Frame.enter P f args' .normal) cs ρ h w cr)) :
    EnvOK (theLp T g ro S) { E with pr := Tr.set (pth f) (some p) E.pr } P T g := by
  refine ⟨hE.fns, fun f' p' args h cr hp' hcr ρ w args' hr hg ha => ?_⟩
  by_cases hf : f' = pth f
  · subst hf
    have hp' : Tr.get (pth f) (Tr.set (pth f) (some p) E.pr) = some p' := hp'
    rw [Tr.get_set_same] at hp'; cases hp'
    have := hp args h cr hcr ρ w args' hr hg ha
    rw [pth_num]; exact this
  · have hp' : Tr.get f' (Tr.set (pth f) (some p) E.pr) = some p' := hp'
    rw [Tr.get_set_ne hf] at hp'
    exact hE.prs f' p' args h cr hp' hcr ρ w args' hr hg ha
theorem know2_ok {P : Program} {T : TT} {g : Nat} {ro : Option (Nat × Obj)} {S : (Nat → Int) → Prop} (hT : TOK T P) {E E' : Env} (hE : EnvOK (theLp T g ro S) E P T g) (hE' : EnvOK (theLp T g ro S) E' P T g)
    {N : Nat} {tab : List (Nat × Int × Int)} (hS : ∀ x, S x → InTab tab x) (hro : ∀ B o, ro = some (B, o) → B = 0) {k f : Nat} {l : List Memo} (hl : ∀ m ∈ l, memoC2 E' N tab k f m = true) : EnvOK (theLp T g ro S) (E.know f l) P T g :=
  tell_ok hE fun args h cr hcr ρ w args' hr hg ha => .inr (memoP2_ok hT hE' hS hro hl hcr hr hg ha)
/-- A call that is walked by the kit, and that keeps what was there: its answer alone. -/
theorem LG.kept {L : Lp} {P : Program} {f : Nat} {args : Array Value} {ρ : Rho} {h : H} {w : World} {u : AV} {v : Value} (hr : HR L ρ h w) (hv : VR ρ u v)
    (hc : Calls P f args w fun e w' => e = .returned v ∧ KeptAll w w') (cs : List Frame) : LG L P f (Frame.enter P f args .normal) cs ρ h w (.ret u h) := by
  obtain ⟨e, w', F', ⟨rfl, q5⟩, q1, q2, q3⟩ := hc cs
  exact ⟨ρ, v, w', F', ⟨.refl ρ, fun b x e e' => (by rw [e] at e'; cases e'), q5.size, fun B hB _ => q5.old B hB, Nat.le_refl _, fun _ _ _ => rfl, q5.os, q5.out⟩, hv, hr.world q5.size fun b x hb => q5.old _ (hr.lt b x hb).1, q1, q2, q3⟩
end Go.Kx

/- A loop, round by round: names and bases may be told anew behind each round. -/
namespace Go.Kx
/-- What has come of a state, whatever was told anew: names below n0 stand for what they stood for. -/
structure Acc (ρ0 : Rho) (w0 : World) (n0 : Nat) (ρ : Rho) (w : World) : Prop where
  old : ∀ b, b.num < n0 → ρ.blk b = ρ0.blk b
  new : ∀ b x, ρ.blk b = some x → n0 ≤ b.num → w0.heap.size ≤ x.1 ∨ ∃ b0 x0, ρ0.blk b0 = some x0 ∧ x0.1 = x.1
  size : w0.heap.size ≤ w.heap.size
  keep : ∀ B, B < w0.heap.size → (∀ b x, ρ0.blk b = some x → x.1 ≠ B) → w.heap[B]? = w0.heap[B]?
  os : w.os = w0.os
  out : w.output = w0.output
theorem Acc.refl {L : Lp} {ρ : Rho} {h : H} {w : World} (hr : HR L ρ h w) : Acc ρ w (hnx h).num ρ w :=
  ⟨fun _ _ => rfl, fun b x hb hn => by have := (hr.lt b x hb).2; omega, Nat.le_refl _, fun _ _ _ => rfl, rfl, rfl⟩
theorem Acc.mapped {ρ0 ρ : Rho} {w0 w : World} {n0 : Nat} (A : Acc ρ0 w0 n0 ρ w) {b x} (hb : ρ.blk b = some x) : w0.heap.size ≤ x.1 ∨ ∃ b0 x0, ρ0.blk b0 = some x0 ∧ x0.1 = x.1 := by
  by_cases hn : b.num < n0
  · rw [A.old b hn] at hb; exact .inr ⟨b, x, hb, rfl⟩
  · exact A.new b x hb (by omega)
theorem Acc.step {ρ0 ρ ρ' : Rho} {w0 w w' : World} {n0 : Nat} {h h' : H} (A : Acc ρ0 w0 n0 ρ w) (e : Ext ρ h w ρ' h' w') (hn : n0 ≤ (hnx h).num) : Acc ρ0 w0 n0 ρ' w' := by
  refine ⟨fun b hb => ?_, fun b x hb hnb => ?_, Nat.le_trans A.size e.size, fun B hB hno => ?_, e.os.trans A.os, e.out.trans A.out⟩
  · rw [← A.old b hb]
    cases hq : ρ.blk b with
    | some x => exact e.le.mono b x hq
    | none =>
      cases hq' : ρ'.blk b with
      | none => rfl
      | some x => have := (e.fresh b x hq hq').2; omega
  · cases hq : ρ.blk b with
    | some y => have := e.le.mono b y hq; rw [hb] at this; cases this; exact A.new b x hq hnb
    | none =>
      rcases (e.fresh b x hq hb).1 with q | ⟨b1, x1, q1, q2⟩
      · exact .inl (Nat.le_trans A.size q)
      · rw [← q2]; exact A.mapped q1
  · rw [e.keep B (Nat.lt_of_lt_of_le hB A.size) fun b x hb => ?_, A.keep B hB hno]
    rcases A.mapped hb with q | ⟨b0, x0, q1, q2⟩
    · omega
    · rw [← q2]; exact hno b0 x0 q1
theorem Acc.re {ρ0 ρ : Rho} {w0 w : World} {n0 : Nat} (A : Acc ρ0 w0 n0 ρ w) {b1 c1 : Pth} (hb1 : n0 ≤ b1.num) (hc1 : n0 ≤ c1.num) (sy : Nat → Int) : Acc ρ0 w0 n0 (ρ.re n0 b1 c1 sy) w := by
  refine ⟨fun b hb => ?_, fun b x hb hnb => ?_, A.size, A.keep, A.os, A.out⟩
  · show (if b.num < n0 then ρ.blk b else _) = _
    rw [if_pos hb]; exact A.old b hb
  · have hb2 : (if b.num < n0 then ρ.blk b else if b = c1 then ρ.blk b1 else none) = some x := hb
    rw [if_neg (by omega)] at hb2
    by_cases h3 : b = c1
    · rw [if_pos h3] at hb2; exact A.new b1 x hb2 hb1
    · rw [if_neg h3] at hb2; cases hb2
theorem Acc.ext {ρ0 ρ : Rho} {w0 w : World} {h0 h : H} (A : Acc ρ0 w0 (hnx h0).num ρ w) (hr0 : ∀ b x, ρ0.blk b = some x → b.num < (hnx h0).num) (hsy : ρ.sy = ρ0.sy) (hnx' : (hnx h0).num ≤ (hnx h).num)
    (hk : ∀ b, b.num < (hnx h0).num → ρ0.blk b = none → hget b h = hget b h0) : Ext ρ0 h0 w0 ρ h w := by
  refine ⟨⟨fun b x hb => by rw [A.old b (hr0 b x hb)]; exact hb, hsy⟩, fun b x hn hb => ?_, A.size, A.keep, hnx', hk, A.os, A.out⟩
  have hnb : (hnx h0).num ≤ b.num := by
    rcases Nat.lt_or_ge b.num (hnx h0).num with q | q
    · rw [A.old b q, hn] at hb; cases hb
    · exact q
  exact ⟨A.new b x hb hnb, hnb⟩
/-- A frame's state, told anew. -/
theorem SR.re {L : Lp} {g n : Nat} {ρ : Rho} {fr fr2 : Fr} {h h2 : H} {ro' : Option Nat} {a : Act} {w : World} (s : SR L g n ρ fr (.l []) h ro' a w) {n0 : Nat} {b1 c1 : Pth} {τ : SI → SI → Bool} {sy : Nat → Int} (hb1 : n0 ≤ b1.num) (hc1 : n0 ≤ c1.num) (hg : g ≤ n0)
    (hs : ∀ s t, τ s t = true → t.val sy = s.val ρ.sy) (hfr : rlT n0 [(b1, c1)] τ fr fr2 = true)
    (hh : ∀ c k2, hget c h2 = some k2 → ∃ b k, nameOf n0 [(b1, c1)] b = some c ∧ hget b h = some k ∧ rlK n0 [(b1, c1)] τ k k2 = true)
    (hnx1 : n0 ≤ (hnx h2).num) (hnx2 : c1.num < (hnx h2).num) (hwf : ∀ c, (hnx h2).num ≤ c.num → hget c h2 = none)
    (hro : ∀ B o, L.ro = some (B, o) → B < n0 ∧ ∃ t, hget (pth B) h2 = some (.ro t)) {S : (Nat → Int) → Prop} (hS : S sy) : SR { L with S := S } g n (ρ.re n0 b1 c1 sy) fr2 (.l []) h2 ro' a w := by
  have ht := tell_re (b1 := b1) (ρ := ρ) hc1 hs
  refine ⟨s.hr.re hb1 hc1 hs hh hnx1 hnx2 hwf hro hS, fun i hi => ?_, ⟨s.fr.size, fun p v hv => ?_⟩, s.df⟩
  · obtain ⟨m, hm⟩ := s.gr i hi
    refine ⟨m, ?_⟩
    show (if (pth i).num < n0 then ρ.blk (pth i) else _) = _
    rw [if_pos (by rw [pth_num]; omega)]; exact hm
  · obtain ⟨x, hx, hxv, _⟩ := rlT_get _ _ hfr p v hv
    obtain ⟨y, hy, hvy⟩ := s.fr.slot p x hx
    exact ⟨y, hy, rl_VR ht _ _ _ hxv hvy⟩
/-! ### Code, piece by piece -/
section code
variable {L : Lp} {P : Program} {g n : Nat} {b : Frame} {k : List Item} {cs : List Frame} {ρ : Rho} {h : H} {w : World} {a : Act}
theorem RG.seq {x y : Code} {fr1 : Fr} {df1 : Df} {h1 : H} {r : R} (hx : RG L P g n b (.code y :: k) cs (lone (b.atR a (.code x :: .code y :: k)) cs w) ρ h w (.nrm fr1 df1 h1))
    (hy : ∀ ρ' a' w', Ext ρ h w ρ' h1 w' → SR L g n ρ' fr1 df1 h1 b.roundOf a' w' → RG L P g n b k cs (lone (b.atR a' (.code y :: k)) cs w') ρ' h1 w' r) : RG L P g n b k cs (lone (b.atR a (.code (.seq x y) :: k)) cs w) ρ h w r := by
  obtain ⟨ρ', a', w', e, s, st⟩ := hx
  exact RG.head (.refl _ _ _) (.one stepR_seq) (RG.head e st (hy ρ' a' w' e s))
/-- Rounds, one behind another: from each state of a family to the next. -/
theorem rounds {X : Code} {St : Nat → Act → World → Prop} {m : Nat} (hstep : ∀ i, i < m → ∀ a w, St i a w → ∃ a' w', St (i + 1) a' w' ∧ Steps P (lone (b.atR a (.code X :: .inLoop X :: k)) cs w) (lone (b.atR a' (.inLoop X :: k)) cs w')) :
    ∀ d i, i + d = m → ∀ a w, St i a w → ∃ a' w', St m a' w' ∧ Steps P (lone (b.atR a (.code X :: .inLoop X :: k)) cs w) (lone (b.atR a' (.code X :: .inLoop X :: k)) cs w')
  | 0, i, hi, a, w, hs => by
    have e : i = m := by omega
    rw [← e]; exact ⟨a, w, hs, .refl _ _⟩
  | d + 1, i, hi, a, w, hs => by
    obtain ⟨a1, w1, s1, st1⟩ := hstep i (by omega) a w hs
    obtain ⟨a2, w2, s2, st2⟩ := rounds hstep d (i + 1) (by omega) a1 w1 s1
    exact ⟨a2, w2, s2, st1.trans (.head stepR_inLoop st2)⟩
end code
end Go.Kx

/- Calls that are known, wherever their blocks lie: names and bases are put in. -/
namespace Go.Kx
/-- what is put in for a base -/
inductive TH | cz (z : Int) | si (t : SI)
def TH.val (t : TH) (x : Nat → Int) : Int := match t with | .cz z => z | .si s => s.val x
def ofI64 (r : Int) : Nat := if 0 ≤ r then r.toNat else (r + 18446744073709551616).toNat
theorem ofI64_ok {r : Int} (h1 : -9223372036854775808 ≤ r) (h2 : r < 9223372036854775808) : ofI64 r < M .i64 ∧ toI .i64 (ofI64 r) = r := by
  have hM : M .i64 = 18446744073709551616 := rfl
  have hL : lim .i64 = 9223372036854775808 := rfl
  unfold ofI64 toI
  rw [hM, hL]
  split <;> refine ⟨by omega, ?_⟩ <;> split <;> omega
noncomputable section
def mapS (θ : Tr TH) (t : SI) : Option TH := match Tr.get (pth t.i) θ with
  | none => (match t.isC && t.ok with | true => some (.cz t.mn) | false => none)
  | some (.cz z) => match decide (t.lo ≤ z) && decide (z ≤ t.hi) with | true => some (.cz (sgnI t.neg z + t.off)) | false => none
  | some (.si s) => match s.ok && decide (t.lo ≤ s.mn) && decide (s.mx ≤ t.hi) with
    | true => some (.si ⟨match t.neg with | true => !s.neg | false => s.neg, s.i, s.lo, s.hi, sgnI t.neg s.off + t.off⟩)
    | false => none
def thA (t : TH) : Option AV := match t with
  | .cz z => match decide (-9223372036854775808 ≤ z) && decide (z < 9223372036854775808) with | true => some (.int .i64 (ofI64 z)) | false => none
  | .si s => some (.sym s)
/-- what the bases stand for -/
def syOf (θ : Tr TH) (x : Nat → Int) (i : Nat) : Int := match Tr.get (pth i) θ with | some t => t.val x | none => 0
end
theorem mapS_val {θ : Tr TH} {t : SI} {r : TH} (h : mapS θ t = some r) (x : Nat → Int) : r.val x = t.val (syOf θ x) := by
  unfold mapS at h
  split at h
  · split at h
    · rename_i hc
      cases h
      simp only [Bool.and_eq_true] at hc
      exact (SI.isC_val hc.1 _).symm
    · cases h
  · rename_i z hz
    split at h
    · rename_i hc
      cases h
      simp only [Bool.and_eq_true, decide_eq_true_eq] at hc
      have : syOf θ x t.i = z := by unfold syOf; rw [hz]; rfl
      show sgnI t.neg z + t.off = sgnI t.neg (clampI t.lo t.hi _) + t.off
      rw [this, clampI_in hc.1 hc.2]
    · cases h
  · rename_i s hz
    split at h
    · rename_i hc
      cases h
      simp only [Bool.and_eq_true, decide_eq_true_eq] at hc
      have : syOf θ x t.i = s.val x := by unfold syOf; rw [hz]; rfl
      have hb := SI.bounds hc.1.1 x
      show SI.val _ x = sgnI t.neg (clampI t.lo t.hi _) + t.off
      rw [this, clampI_in (by omega) (by omega)]
      unfold SI.val sgnI
      cases t.neg <;> cases s.neg <;> simp only [Bool.not_true, Bool.not_false] <;> omega
    · cases h
theorem thA_VR {t : TH} {a : AV} (h : thA t = some a) (ρ : Rho) (v : Value) : VR ρ a v ↔ v = .int .i64 (t.val ρ.sy) := by
  unfold thA at h
  split at h
  · rename_i z
    split at h
    · rename_i hc
      cases h
      simp only [Bool.and_eq_true, decide_eq_true_eq] at hc
      obtain ⟨q1, q2⟩ := ofI64_ok hc.1 hc.2
      show (_ ∧ v = .int .i64 (toI .i64 (ofI64 z))) ↔ v = .int .i64 z
      rw [q2]; exact ⟨fun h => h.2, fun h => ⟨q1, h⟩⟩
    · cases h
  · cases h; exact Iff.rfl
theorem thA_one {t : TH} {a : AV} (h : thA t = some a) : oneC a = true := by
  unfold thA at h
  split at h
  · split at h
    · cases h; rfl
    · cases h
  · cases h; rfl
noncomputable section
variable (nm : Pth → Option Pth) (θ : Tr TH)
def bindO {α β : Type} (o : Option α) (f : α → Option β) : Option β := match o with | some a => f a | none => none
mutual
/-- a value, names and bases put in -/
def mapA : AV → Option AV
  | .bool b => some (.bool b)
  | .int k z => some (.int k z)
  | .sym s => bindO (mapS θ s) thA
  | .flt k b => some (.flt k b)
  | .str l z => some (.str l z)
  | .ptr b o => bindO (nm b) fun b => some (.ptr b o)
  | .nilp => some .nilp
  | .sl b o l c x e => bindO (nm b) fun b => some (.sl b o l c x e)
  | .nils => some .nils
  | .mp b => bindO (nm b) fun b => some (.mp b)
  | .nilm => some .nilm
  | .fn f a c => bindO (mapL a) fun a => bindO (mapL c) fun c => some (.fn f a c)
  | .yld b => bindO (nm b) fun b => some (.yld b)
  | .nilf => some .nilf
  | .ifc t v => bindO (mapA v) fun v => some (.ifc t v)
  | .nili => some .nili
  | .agg l => bindO (mapL l) fun l => some (.agg l)
  | .tup l => bindO (mapL l) fun l => some (.tup l)
  | .sls b s e => bindO (nm b) fun b => bindO (mapS θ s) fun r => match r with | .si s => some (.sls b s e) | .cz z => some (.sls b (cI z) e)
def mapL : List AV → Option (List AV)
  | [] => some []
  | a :: l => bindO (mapA a) fun a => bindO (mapL l) fun l => some (a :: l)
end
def mapT : Tr AV → Option (Tr AV)
  | .e => some .e
  | .n v a b c d => bindO (mapT a) fun a => bindO (mapT b) fun b => bindO (mapT c) fun c => bindO (mapT d) fun d => match v with
    | none => some (.n none a b c d)
    | some v => bindO (mapA nm θ v) fun v => some (.n (some v) a b c d)
def mapM : List (AV × AV) → Option (List (AV × AV))
  | [] => some []
  | (a, b) :: l => bindO (mapA nm θ a) fun a => bindO (mapA nm θ b) fun b => bindO (mapM l) fun l => some ((a, b) :: l)
def mapK : Bk → Option Bk
  | .own t => bindO (mapT nm θ t) fun t => some (.own t)
  | .mp m => bindO (mapM nm θ m) fun m => some (.mp m)
  | .lp _ _ _ _ _ => none
  | .col => some .col
  | .ro t => bindO (mapT nm θ t) fun t => some (.ro t)
def mapN : List (Pth × Option Bk) → Option (List (Pth × Option Bk))
  | [] => some []
  | (c, k) :: l => bindO (nm c) fun c => bindO (mapN l) fun l => match k with
    | none => some ((c, none) :: l)
    | some k => bindO (mapK nm θ k) fun k => some ((c, some k) :: l)
def mapC : Chain → Option Chain
  | [] => some []
  | p :: l => bindO (mapA nm θ p.v) fun v => bindO (mapC l) fun l => some (⟨v, p.rc⟩ :: l)
def mapR : MRes → Option MRes
  | .ret u => bindO (mapA nm θ u) fun u => some (.ret u)
  | .pn c => bindO (mapC nm θ c) fun c => some (.pn c)
end
theorem bindO_some {α β : Type} {o : Option α} {f : α → Option β} {b : β} (h : bindO o f = some b) : ∃ a, o = some a ∧ f a = some b := by
  cases o with
  | none => cases h
  | some a => exact ⟨a, rfl, h⟩
/-- What the two tellings have to do with one another: ρ2 is of the names before they are put in. -/
structure Put (nm : Pth → Option Pth) (θ : Tr TH) (ρ ρ2 : Rho) : Prop where
  nm : ∀ c b, nm c = some b → ρ.blk b = ρ2.blk c
  sy : ρ2.sy = syOf θ ρ.sy
section
variable {nm : Pth → Option Pth} {θ : Tr TH} {ρ ρ2 : Rho} (ht : Put nm θ ρ ρ2)
include ht
theorem mapA_VR (a : AV) : ∀ b, mapA nm θ a = some b → ∀ v, VR ρ b v ↔ VR ρ2 a v := by
  refine AV.rec (motive_1 := fun a => ∀ b, mapA nm θ a = some b → ∀ v, VR ρ b v ↔ VR ρ2 a v) (motive_2 := fun l => ∀ m, mapL nm θ l = some m → ∀ vs, VRs ρ m vs ↔ VRs ρ2 l vs)
    ?bool ?int ?sym ?flt ?str ?ptr ?nilp ?sl ?nils ?mp ?nilm ?fn ?yld ?nilf ?ifc ?nili ?agg ?tup ?sls ?nil ?cons a
  case nil => intro m h vs; cases h; exact Iff.rfl
  case cons =>
    intro x l i1 i2 m h vs
    obtain ⟨y, q1, h⟩ := bindO_some h
    obtain ⟨m', q2, h⟩ := bindO_some h
    cases h
    show (∃ v l', vs = v :: l' ∧ VR ρ y v ∧ VRs ρ m' l') ↔ (∃ v l', vs = v :: l' ∧ VR ρ2 x v ∧ VRs ρ2 l l')
    simp only [i1 y q1, i2 m' q2]
  case bool => intro x b h v; cases h; exact Iff.rfl
  case int => intro k z b h v; cases h; exact Iff.rfl
  case flt => intro k z b h v; cases h; exact Iff.rfl
  case str => intro k z b h v; cases h; exact Iff.rfl
  case nilp => intro b h v; cases h; exact Iff.rfl
  case nils => intro b h v; cases h; exact Iff.rfl
  case nilm => intro b h v; cases h; exact Iff.rfl
  case nilf => intro b h v; cases h; exact Iff.rfl
  case nili => intro b h v; cases h; exact Iff.rfl
  case sym =>
    intro s b h v
    obtain ⟨r, q1, q2⟩ := bindO_some h
    rw [thA_VR q2, mapS_val q1]
    show _ ↔ v = .int .i64 (s.val ρ2.sy)
    rw [ht.sy]
  case ptr =>
    intro c o b h v
    obtain ⟨d, q1, h⟩ := bindO_some h
    cases h
    show (∃ x, ρ.blk d = some x ∧ _) ↔ (∃ x, ρ2.blk c = some x ∧ _)
    rw [ht.nm c d q1]
  case sl =>
    intro c o l lb ex es b h v
    obtain ⟨d, q1, h⟩ := bindO_some h
    cases h
    show (∃ x off cap, ρ.blk d = some x ∧ _) ↔ (∃ x off cap, ρ2.blk c = some x ∧ _)
    rw [ht.nm c d q1]
  case mp =>
    intro c b h v
    obtain ⟨d, q1, h⟩ := bindO_some h
    cases h
    show (∃ x, ρ.blk d = some x ∧ _) ↔ (∃ x, ρ2.blk c = some x ∧ _)
    rw [ht.nm c d q1]
  case yld =>
    intro c b h v
    obtain ⟨d, q1, h⟩ := bindO_some h
    cases h
    show (∃ x, ρ.blk d = some x ∧ _) ↔ (∃ x, ρ2.blk c = some x ∧ _)
    rw [ht.nm c d q1]
  case fn =>
    intro f x c i1 i2 b h v
    obtain ⟨y, q1, h⟩ := bindO_some h
    obtain ⟨d, q2, h⟩ := bindO_some h
    cases h
    show (∃ p q, v = .func (.func f) p q ∧ VRs ρ y p.toList ∧ VRs ρ d q.toList) ↔ (∃ p q, v = .func (.func f) p q ∧ VRs ρ2 x p.toList ∧ VRs ρ2 c q.toList)
    simp only [i1 y q1, i2 d q2]
  case ifc =>
    intro t x i b h v
    obtain ⟨y, q1, h⟩ := bindO_some h
    cases h
    show (∃ z, v = .iface t z ∧ VR ρ y z) ↔ (∃ z, v = .iface t z ∧ VR ρ2 x z)
    simp only [i y q1]
  case agg =>
    intro l i b h v
    obtain ⟨m, q1, h⟩ := bindO_some h
    cases h
    have ho : m.all oneC = l.all oneC := by
      clear i h
      induction l generalizing m with
      | nil => cases q1; rfl
      | cons x l ih =>
        obtain ⟨y, q2, q1⟩ := bindO_some q1
        obtain ⟨m', q3, q1⟩ := bindO_some q1
        cases q1
        rw [List.all_cons, List.all_cons, ih m' q3]
        congr 1
        cases x <;> first
          | (cases q2; rfl)
          | (obtain ⟨_, _, q2⟩ := bindO_some q2; cases q2; rfl)
          | (obtain ⟨_, _, q2⟩ := bindO_some q2; exact thA_one q2)
          | (obtain ⟨_, _, q2⟩ := bindO_some q2; obtain ⟨_, _, q2⟩ := bindO_some q2; first | (cases q2; rfl) | (split at q2 <;> (cases q2; rfl)))
    show (∃ p, v = .agg p ∧ VRs ρ m p.toList ∧ m.all oneC = true) ↔ (∃ p, v = .agg p ∧ VRs ρ2 l p.toList ∧ l.all oneC = true)
    simp only [i m q1, ho]
  case tup =>
    intro l i b h v
    obtain ⟨m, q1, h⟩ := bindO_some h
    cases h
    show (∃ p, v = .tuple p ∧ VRs ρ m p.toList) ↔ (∃ p, v = .tuple p ∧ VRs ρ2 l p.toList)
    simp only [i m q1]
  case sls =>
    intro c s es b h v
    obtain ⟨d, q1, h⟩ := bindO_some h
    obtain ⟨r, q2, h⟩ := bindO_some h
    have hv := mapS_val q2 ρ.sy
    rw [← ht.sy] at hv
    cases r with
    | si s' =>
      cases h
      have hv : s'.val ρ.sy = s.val ρ2.sy := hv
      show (∃ x off cap, ρ.blk d = some x ∧ v = .slice (some ⟨x.1, off, none⟩) (s'.val ρ.sy).toNat cap ∧ 0 ≤ s'.val ρ.sy ∧ (s'.val ρ.sy).toNat ≤ cap ∧ _) ↔ (∃ x off cap, ρ2.blk c = some x ∧ _)
      rw [ht.nm c d q1, hv]
    | cz z =>
      cases h
      have hv : (cI z).val ρ.sy = s.val ρ2.sy := by rw [cI_val]; exact hv
      show (∃ x off cap, ρ.blk d = some x ∧ v = .slice (some ⟨x.1, off, none⟩) ((cI z).val ρ.sy).toNat cap ∧ 0 ≤ (cI z).val ρ.sy ∧ ((cI z).val ρ.sy).toNat ≤ cap ∧ _) ↔ (∃ x off cap, ρ2.blk c = some x ∧ _)
      rw [ht.nm c d q1, hv]
end
theorem mapA_one {nm : Pth → Option Pth} {θ : Tr TH} {x y : AV} (q2 : mapA nm θ x = some y) : oneC y = oneC x := by
  cases x <;> first
    | (cases q2; rfl)
    | (obtain ⟨_, _, q2⟩ := bindO_some q2; cases q2; rfl)
    | (obtain ⟨_, _, q2⟩ := bindO_some q2; exact thA_one q2)
    | (obtain ⟨_, _, q2⟩ := bindO_some q2; obtain ⟨_, _, q2⟩ := bindO_some q2; first | (cases q2; rfl) | (split at q2 <;> (cases q2; rfl)))
theorem mapL_VRs {nm : Pth → Option Pth} {θ : Tr TH} {ρ ρ2 : Rho} (ht : Put nm θ ρ ρ2) {l m : List AV} (h : mapL nm θ l = some m) (vs : List Value) : VRs ρ m vs ↔ VRs ρ2 l vs := by
  have h1 : mapA nm θ (.tup l) = some (.tup m) := by show bindO (mapL nm θ l) _ = _; rw [h]; rfl
  have := mapA_VR ht (.tup l) _ h1 (.tuple vs.toArray)
  have e1 : VR ρ (.tup m) (.tuple vs.toArray) ↔ VRs ρ m vs := ⟨fun ⟨p, q1, q2⟩ => by cases q1; simpa using q2, fun q => ⟨_, rfl, by simpa using q⟩⟩
  have e2 : VR ρ2 (.tup l) (.tuple vs.toArray) ↔ VRs ρ2 l vs := ⟨fun ⟨p, q1, q2⟩ => by cases q1; simpa using q2, fun q => ⟨_, rfl, by simpa using q⟩⟩
  rw [← e1, this, e2]
theorem mapT_get {nm : Pth → Option Pth} {θ : Tr TH} : ∀ (t u : Tr AV), mapT nm θ t = some u → ∀ p, (Tr.get p t = none ∧ Tr.get p u = none) ∨ ∃ v w, Tr.get p t = some v ∧ Tr.get p u = some w ∧ mapA nm θ v = some w
  | .e, u, h, p => by cases h; exact .inl ⟨Tr.get_e p, Tr.get_e p⟩
  | .n v a b c d, u, h, p => by
    obtain ⟨a', q1, h⟩ := bindO_some h
    obtain ⟨b', q2, h⟩ := bindO_some h
    obtain ⟨c', q3, h⟩ := bindO_some h
    obtain ⟨d', q4, h⟩ := bindO_some h
    have hu : ∃ v', u = .n v' a' b' c' d' ∧ ((v = none ∧ v' = none) ∨ ∃ x y, v = some x ∧ v' = some y ∧ mapA nm θ x = some y) := by
      cases v with
      | none => cases h; exact ⟨_, rfl, .inl ⟨rfl, rfl⟩⟩
      | some x => obtain ⟨y, q5, h⟩ := bindO_some h; cases h; exact ⟨_, rfl, .inr ⟨x, y, rfl, rfl, q5⟩⟩
    obtain ⟨v', rfl, hv⟩ := hu
    cases p with
    | z => exact hv
    | a p => exact mapT_get a a' q1 p
    | b p => exact mapT_get b b' q2 p
    | c p => exact mapT_get c c' q3 p
    | d p => exact mapT_get d d' q4 p
theorem mapM_MR {nm : Pth → Option Pth} {θ : Tr TH} {ρ ρ2 : Rho} (ht : Put nm θ ρ ρ2) : ∀ {l m : List (AV × AV)}, mapM nm θ l = some m → ∀ en, MR ρ m en ↔ MR ρ2 l en
  | [], m, h, en => by cases h; exact Iff.rfl
  | (a, b) :: l, m, h, en => by
    obtain ⟨a', q1, h⟩ := bindO_some h
    obtain ⟨b', q2, h⟩ := bindO_some h
    obtain ⟨m', q3, h⟩ := bindO_some h
    cases h
    show (∃ e l', en = e :: l' ∧ VR ρ a' e.key ∧ VR ρ b' e.val ∧ MR ρ m' l') ↔ (∃ e l', en = e :: l' ∧ VR ρ2 a e.key ∧ VR ρ2 b e.val ∧ MR ρ2 l l')
    simp only [mapA_VR ht a a' q1, mapA_VR ht b b' q2, mapM_MR ht q3]
theorem mapK_BkR {nm : Pth → Option Pth} {θ : Tr TH} {ρ ρ2 : Rho} (ht : Put nm θ ρ ρ2) {L L2 : Lp} {x : Nat × Nat × Nat} {k j : Bk} {o : Obj} (h : mapK nm θ k = some j) : BkR L ρ x j o ↔ BkR L2 ρ2 x k o := by
  have cell : ∀ {t u : Tr AV}, mapT nm θ t = some u → ∀ (c : Array Value) (i : Nat), (∀ p v, Tr.get p u = some v → oneC v = true ∧ ∃ y, c[i + p.num]? = some y ∧ VR ρ v y) ↔ (∀ p v, Tr.get p t = some v → oneC v = true ∧ ∃ y, c[i + p.num]? = some y ∧ VR ρ2 v y) := by
    intro t u htu c i
    constructor
    · intro H p v hv
      rcases mapT_get t u htu p with ⟨q, _⟩ | ⟨v', w, q1, q2, q3⟩
      · rw [hv] at q; cases q
      · rw [hv] at q1; cases q1
        obtain ⟨r1, y, r2, r3⟩ := H p w q2
        exact ⟨by rw [← mapA_one q3]; exact r1, y, r2, (mapA_VR ht _ _ q3 y).1 r3⟩
    · intro H p w hw
      rcases mapT_get t u htu p with ⟨_, q⟩ | ⟨v', w', q1, q2, q3⟩
      · rw [hw] at q; cases q
      · rw [hw] at q2; cases q2
        obtain ⟨r1, y, r2, r3⟩ := H p v' q1
        exact ⟨by rw [mapA_one q3]; exact r1, y, r2, (mapA_VR ht _ _ q3 y).2 r3⟩
  cases k with
  | own t =>
    obtain ⟨u, q1, h⟩ := bindO_some h; cases h
    show (∃ c e fz, o = .cells c e fz ∧ c.size = x.2.2 ∧ (∀ i, i < c.size → ¬(fz.1 ≤ i ∧ i < fz.2)) ∧ _ ∧ OC c) ↔ (∃ c e fz, o = .cells c e fz ∧ c.size = x.2.2 ∧ (∀ i, i < c.size → ¬(fz.1 ≤ i ∧ i < fz.2)) ∧ _ ∧ OC c)
    simp only [cell q1]
  | ro t =>
    obtain ⟨u, q1, h⟩ := bindO_some h; cases h
    show (∃ c e fz, o = .cells c e fz ∧ c.size = x.2.2 ∧ _) ↔ (∃ c e fz, o = .cells c e fz ∧ c.size = x.2.2 ∧ _)
    simp only [cell q1]
  | mp m =>
    obtain ⟨u, q1, h⟩ := bindO_some h; cases h
    show (∃ en clk, o = .map en clk ∧ MR ρ u en.toList) ↔ (∃ en clk, o = .map en clk ∧ MR ρ2 m en.toList)
    simp only [mapM_MR ht q1]
  | lp _ _ _ _ _ => cases h
  | col => cases h; exact Iff.rfl
theorem mapC_ChR {nm : Pth → Option Pth} {θ : Tr TH} {ρ ρ2 : Rho} (ht : Put nm θ ρ ρ2) : ∀ {c d : Chain}, mapC nm θ c = some d → ∀ l, ChR ρ d l ↔ ChR ρ2 c l
  | [], d, h, l => by cases h; exact Iff.rfl
  | p :: c, d, h, l => by
    obtain ⟨v, q1, h⟩ := bindO_some h
    obtain ⟨d', q2, h⟩ := bindO_some h
    cases h
    show (∃ e l', l = e :: l' ∧ VR ρ v e.v ∧ e.recovered = p.rc ∧ e.goexit = false ∧ ChR ρ d' l') ↔ (∃ e l', l = e :: l' ∧ VR ρ2 p.v e.v ∧ e.recovered = p.rc ∧ e.goexit = false ∧ ChR ρ2 c l')
    simp only [mapA_VR ht _ _ q1, mapC_ChR ht q2]
end Go.Kx

/- A call that is known, put in at any memory: its law. -/
namespace Go.Kx
noncomputable section
/-- a name, put in: the old ones by a table, the new ones behind the new ones -/
def nmE (σ : Tr Pth) (n0 n : Nat) (c : Pth) : Option Pth := match Nat.blt c.num n0 with
  | true => Tr.get c σ
  | false => some (pth (n + (c.num - n0)))
def allP {α : Type} (f : Pth → α → Bool) : (Pth → Pth) → Tr α → Bool
  | _, .e => true
  | pre, .n v a b c d => (match v with | some k => f (pre .z) k | none => true) && allP f (fun p => pre (.a p)) a && allP f (fun p => pre (.b p)) b && allP f (fun p => pre (.c p)) c && allP f (fun p => pre (.d p)) d
def domOK : Tr Pth → Tr Bk → Bool
  | .e, _ => true
  | .n u x y z q, .e => (match u with | none => true | some _ => false) && domOK x .e && domOK y .e && domOK z .e && domOK q .e
  | .n u x y z q, .n v a b c d => (match u, v with | none, _ => true | some _, some _ => true | some _, none => false) && domOK x a && domOK y b && domOK z c && domOK q d
def blkOK (σ inv : Tr Pth) (θ : Tr TH) (n0 n : Nat) (h : H) (c : Pth) (k0 : Bk) : Bool := Nat.blt c.num n0 && (match Tr.get c σ with
  | none => false
  | some b => (match Tr.get b inv with | some c' => Pth.same c' c | none => false) && (match hget b h with
    | none => false
    | some k => match mapK (nmE σ n0 n) θ k0 with | some k' => sameK k' k | none => false))
def appOK (m : Memo) (args : List AV) (h : H) (σ inv : Tr Pth) (θ : Tr TH) : Bool :=
  (match mapL (nmE σ (hnx m.h0).num (hnx h).num) θ m.as with | some as => sameL as args | none => false) &&
  allP (blkOK σ inv θ (hnx m.h0).num (hnx h).num h) (fun p => p) (trOf m.h0) && domOK σ (trOf m.h0) &&
  (match Tr.get .z σ with | some b => Pth.same b .z | none => false) && (match hget .z m.h0 with | some (.ro _) => true | _ => false)
end
theorem allP_get {α : Type} {f : Pth → α → Bool} : ∀ (t : Tr α) (pre : Pth → Pth), allP f pre t = true → ∀ p k, Tr.get p t = some k → f (pre p) k = true
  | .e, pre, h, p, k, hk => by rw [Tr.get_e] at hk; cases hk
  | .n v a b c d, pre, h, p, k, hk => by
    simp only [allP, Bool.and_eq_true] at h
    obtain ⟨⟨⟨⟨h0, h1⟩, h2⟩, h3⟩, h4⟩ := h
    cases p with
    | z => have hk : v = some k := hk; subst hk; exact h0
    | a p => exact allP_get a _ h1 p k hk
    | b p => exact allP_get b _ h2 p k hk
    | c p => exact allP_get c _ h3 p k hk
    | d p => exact allP_get d _ h4 p k hk
theorem domOK_get : ∀ (s : Tr Pth) (t : Tr Bk), domOK s t = true → ∀ p b, Tr.get p s = some b → ∃ k, Tr.get p t = some k
  | .e, t, h, p, b, hb => by rw [Tr.get_e] at hb; cases hb
  | .n u x y z q, .e, h, p, w, hw => by
    simp only [domOK, Bool.and_eq_true] at h
    obtain ⟨⟨⟨⟨h0, h1⟩, h2⟩, h3⟩, h4⟩ := h
    cases p with
    | z => have hw : u = some w := hw; subst hw; cases h0
    | a p => obtain ⟨k, hk⟩ := domOK_get x .e h1 p w hw; rw [Tr.get_e] at hk; cases hk
    | b p => obtain ⟨k, hk⟩ := domOK_get y .e h2 p w hw; rw [Tr.get_e] at hk; cases hk
    | c p => obtain ⟨k, hk⟩ := domOK_get z .e h3 p w hw; rw [Tr.get_e] at hk; cases hk
    | d p => obtain ⟨k, hk⟩ := domOK_get q .e h4 p w hw; rw [Tr.get_e] at hk; cases hk
  | .n u x y z q, .n v a b c d, h, p, w, hw => by
    simp only [domOK, Bool.and_eq_true] at h
    obtain ⟨⟨⟨⟨h0, h1⟩, h2⟩, h3⟩, h4⟩ := h
    cases p with
    | z =>
      have hw : u = some w := hw
      subst hw
      cases v with
      | none => cases h0
      | some k => exact ⟨k, rfl⟩
    | a p => exact domOK_get x a h1 p w hw
    | b p => exact domOK_get y b h2 p w hw
    | c p => exact domOK_get z c h3 p w hw
    | d p => exact domOK_get q d h4 p w hw
/-! ### Blocks, added on both sides -/
def QB (nm : Pth → Option Pth) (θ : Tr TH) (c b : Pth) (t u : Tr Bk) : Prop :=
  (Tr.get c t = none ∧ Tr.get b u = none) ∨ ∃ k j' j, Tr.get c t = some k ∧ mapK nm θ k = some j' ∧ Tr.get b u = some j ∧ BkE j' j
theorem BkE.rfl' (k : Bk) : BkE k k := by cases k <;> first | exact fun _ => rfl | rfl
section add
variable {nm : Pth → Option Pth} {θ : Tr TH} (hinj : ∀ c c' b, nm c = some b → nm c' = some b → c = c')
include hinj
theorem mapN_cons {c : Pth} {k : Option Bk} {l : List (Pth × Option Bk)} {l' : List (Pth × Option Bk)} (h : mapN nm θ ((c, k) :: l) = some l') : ∃ b j l2, nm c = some b ∧ mapN nm θ l = some l2 ∧ l' = (b, j) :: l2 ∧ ((k = none ∧ j = none) ∨ ∃ x y, k = some x ∧ j = some y ∧ mapK nm θ x = some y) := by
  obtain ⟨b, q1, h⟩ := bindO_some h
  obtain ⟨l2, q2, h⟩ := bindO_some h
  cases k with
  | none => cases h; exact ⟨b, _, l2, q1, q2, rfl, .inl ⟨rfl, rfl⟩⟩
  | some x => obtain ⟨y, q3, h⟩ := bindO_some h; cases h; exact ⟨b, _, l2, q1, q2, rfl, .inr ⟨x, y, rfl, rfl, q3⟩⟩
theorem QB.step {c b c1 b1 : Pth} {k j : Option Bk} {t u : Tr Bk} (hc : nm c = some b) (hc1 : nm c1 = some b1) (hk : (k = none ∧ j = none) ∨ ∃ x y, k = some x ∧ j = some y ∧ mapK nm θ x = some y) (hq : c = c1 ∨ QB nm θ c b t u) : QB nm θ c b (Tr.set c1 k t) (Tr.set b1 j u) := by
  by_cases e : c = c1
  · subst e
    rw [hc] at hc1; cases hc1
    unfold QB
    rw [Tr.get_set_same, Tr.get_set_same]
    rcases hk with ⟨rfl, rfl⟩ | ⟨x, y, rfl, rfl, q⟩
    · exact .inl ⟨rfl, rfl⟩
    · exact .inr ⟨x, y, y, rfl, q, rfl, BkE.rfl' y⟩
  · have hb : b ≠ b1 := fun e2 => e (hinj c c1 b1 (by rw [hc, e2]) hc1)
    unfold QB
    rw [Tr.get_set_ne e, Tr.get_set_ne hb]
    exact hq.resolve_left e
theorem addN_keep : ∀ {l l' : List (Pth × Option Bk)} {t u : Tr Bk}, mapN nm θ l = some l' → ∀ {c b}, nm c = some b → QB nm θ c b t u → QB nm θ c b (addN l t) (addN l' u)
  | [], l', t, u, h, c, b, hc, hq => by cases h; exact hq
  | (c1, k) :: l, l', t, u, h, c, b, hc, hq => by
    obtain ⟨b1, j, l2, q1, q2, rfl, q3⟩ := mapN_cons hinj h
    exact addN_keep (l := l) q2 hc (QB.step hinj hc q1 q3 (.inr hq))
theorem addN_in : ∀ {l l' : List (Pth × Option Bk)} {t u : Tr Bk}, mapN nm θ l = some l' → ∀ {c b k0}, (c, k0) ∈ l → nm c = some b → QB nm θ c b (addN l t) (addN l' u)
  | (c1, k) :: l, l', t, u, h, c, b, k0, hm, hc => by
    obtain ⟨b1, j, l2, q1, q2, rfl, q3⟩ := mapN_cons hinj h
    rcases List.mem_cons.1 hm with e | e
    · cases e
      exact addN_keep hinj (l := l) q2 hc (QB.step hinj hc q1 q3 (.inl rfl))
    · exact addN_in (l := l) q2 e hc
theorem addN_out : ∀ {l l' : List (Pth × Option Bk)} {u : Tr Bk}, mapN nm θ l = some l' → ∀ {b}, (∀ c k, (c, k) ∈ l → nm c ≠ some b) → Tr.get b (addN l' u) = Tr.get b u
  | [], l', u, h, b, hn => by cases h; rfl
  | (c1, k) :: l, l', u, h, b, hn => by
    obtain ⟨b1, j, l2, q1, q2, rfl, q3⟩ := mapN_cons hinj h
    show Tr.get b (addN l2 (Tr.set b1 j u)) = _
    rw [addN_out (l := l) q2 fun c k hm => hn c k (by simp [hm]), Tr.get_set_ne]
    intro e
    exact hn c1 k (by simp) (by rw [q1, e])
end add
/-- A call that is known: for each state that is told so. -/
structure EntOK (L2 : Lp) (P : Program) (g f : Nat) (m : Memo) : Prop where
  new : newN (hnx m.h0).num (reach m.as m.h0) m.news = true
  run : ∀ ρ w args', HR L2 ρ m.h0 w → GR ρ g → VRs ρ m.as args'.toList →
    (callFunc f args').run P w = .ok (.enter f args') w ∧ ∀ cs, LG L2 P f (Frame.enter P f args' .normal) cs ρ m.h0 w (m.u.cr (addH m.news m.nx m.h0))
section put
variable {P : Program} {T : TT} {g : Nat} {ro : Option (Nat × Obj)} {S S2 : (Nat → Int) → Prop}
/-- what the entry's names stand for -/
noncomputable def rhoE (σ : Tr Pth) (θ : Tr TH) (n0 : Nat) (ρ : Rho) : Rho := ⟨fun c => match Nat.blt c.num n0 with | true => (match Tr.get c σ with | some b => ρ.blk b | none => none) | false => none, syOf θ ρ.sy⟩
theorem blt_true {a b : Nat} (h : Nat.blt a b = true) : a < b := Nat.le_of_ble_eq_true h
theorem blt_false {a b : Nat} (h : Nat.blt a b = false) : b ≤ a := by
  rcases Nat.lt_or_ge a b with q | q
  · rw [show Nat.blt a b = true from Nat.ble_eq_true_of_le q] at h; cases h
  · exact q
theorem blt_lt {a b : Nat} (h : a < b) : Nat.blt a b = true := Nat.ble_eq_true_of_le h
theorem blt_ge {a b : Nat} (h : b ≤ a) : Nat.blt a b = false := by
  cases q : Nat.blt a b with
  | false => rfl
  | true => have := blt_true q; omega
theorem put_ok (hro : ∀ B o, ro = some (B, o) → B = 0) (hg1 : g ≤ 1) {m : Memo} {f : Nat} (hm : EntOK (theLp T g ro S2) P g f m) {args : List AV} {h : H} {σ inv : Tr Pth} {θ : Tr TH} (hc : appOK m args h σ inv θ = true) (hS2 : ∀ x, S x → S2 (syOf θ x))
    {u : MRes} {l : List (Pth × Option Bk)} (hu : mapR (nmE σ (hnx m.h0).num (hnx h).num) θ m.u = some u) (hl : mapN (nmE σ (hnx m.h0).num (hnx h).num) θ m.news = some l)
    {ρ : Rho} {w : World} {args' : Array Value} (hr : HR (theLp T g ro S) ρ h w) (hg : GR ρ g) (ha : VRs ρ args args'.toList) :
    (callFunc f args').run P w = .ok (.enter f args') w ∧ ∀ cs, LG (theLp T g ro S) P f (Frame.enter P f args' .normal) cs ρ h w (u.cr (addH l (pth ((hnx h).num + (m.nx.num - (hnx m.h0).num))) h)) := by
  obtain ⟨as, h0, u0, news, nx⟩ := m
  dsimp only at hc hu hl
  generalize hn0 : (hnx h0).num = n0 at hc hu hl
  generalize hn : (hnx h).num = n at hc hu hl
  generalize hnm : nmE σ n0 n = nm at hc hu hl
  unfold appOK at hc
  dsimp only at hc
  rw [hn0, hn, hnm] at hc
  simp only [Bool.and_eq_true] at hc
  obtain ⟨⟨⟨⟨hc1, hc2⟩, hc3⟩, hc4⟩, hc5⟩ := hc
  have trget : ∀ (h : H) b, Tr.get b (trOf h) = hget b h := fun h b => by cases h; rfl
  -- what is told in the entry, is told here
  have hA : ∀ c k0, hget c h0 = some k0 → c.num < n0 ∧ ∃ b k k', Tr.get c σ = some b ∧ Tr.get b inv = some c ∧ hget b h = some k ∧ mapK nm θ k0 = some k' ∧ BkE k' k := fun c k0 hk => by
    have := allP_get _ _ hc2 c k0 (by rw [trget]; exact hk)
    simp only [blkOK, Bool.and_eq_true] at this
    obtain ⟨q1, q2⟩ := this
    refine ⟨blt_true q1, ?_⟩
    cases hσ : Tr.get c σ with
    | none => rw [hσ] at q2; cases q2
    | some b =>
      rw [hσ] at q2
      simp only [Bool.and_eq_true] at q2
      obtain ⟨q3, q4⟩ := q2
      cases hi : Tr.get b inv with
      | none => rw [hi] at q3; cases q3
      | some c' =>
        rw [hi] at q3
        have hcc := Pth.same_iff.1 q3
        subst hcc
        cases hb : hget b h with
        | none => rw [hb] at q4; cases q4
        | some k =>
          rw [hb, hnm] at q4
          dsimp only at q4
          cases hk' : mapK nm θ k0 with
          | none => rw [hk'] at q4; cases q4
          | some k' => rw [hk'] at q4; exact ⟨b, k, k', rfl, hi, hb, rfl, sameK_ok _ _ q4⟩
  have hB : ∀ c b, Tr.get c σ = some b → ∃ k0, hget c h0 = some k0 := fun c b hb => by
    obtain ⟨k, hk⟩ := domOK_get _ _ hc3 c b hb
    exact ⟨k, by rw [← trget]; exact hk⟩
  have hσ0 : Tr.get (pth 0) σ = some (pth 0) := by
    show Tr.get .z σ = some .z
    cases hq : Tr.get .z σ with
    | none => rw [hq] at hc4; cases hc4
    | some b => rw [hq] at hc4; rw [Pth.same_iff.1 hc4]
  have hro0 : ∃ t, hget (pth 0) h0 = some (.ro t) := by
    show ∃ t, hget .z h0 = some (.ro t)
    cases hq : hget .z h0 with
    | none => rw [hq] at hc5; cases hc5
    | some k => rw [hq] at hc5; cases k <;> first | (cases hc5; done) | exact ⟨_, rfl⟩
  -- names
  have nm_old : ∀ c, c.num < n0 → nm c = Tr.get c σ := fun c hc => by rw [← hnm]; unfold nmE; rw [blt_lt hc]
  have nm_new : ∀ c, n0 ≤ c.num → nm c = some (pth (n + (c.num - n0))) := fun c hc => by rw [← hnm]; unfold nmE; rw [blt_ge hc]
  have told_lt : ∀ b k, hget b h = some k → b.num < n := fun b k hb => by
    rcases Nat.lt_or_ge b.num n with q | q
    · exact q
    · rw [hr.wf b (by rw [hn]; exact q)] at hb; cases hb
  have σ_told : ∀ c b, Tr.get c σ = some b → c.num < n0 ∧ Tr.get b inv = some c ∧ b.num < n ∧ hget b h ≠ none := fun c b hb => by
    obtain ⟨k0, hk0⟩ := hB c b hb
    obtain ⟨q1, b', k, k', q2, q3, q4, _⟩ := hA c k0 hk0
    rw [hb] at q2; cases q2
    exact ⟨q1, q3, told_lt b k q4, by rw [q4]; simp⟩
  have hinj : ∀ c c' b, nm c = some b → nm c' = some b → c = c' := fun c c' b h1 h2 => by
    rcases Nat.lt_or_ge c.num n0 with q | q <;> rcases Nat.lt_or_ge c'.num n0 with q' | q'
    · rw [nm_old c q] at h1; rw [nm_old c' q'] at h2
      have e1 := (σ_told c b h1).2.1; have e2 := (σ_told c' b h2).2.1
      rw [e1] at e2; exact Option.some.inj e2
    · rw [nm_old c q] at h1; rw [nm_new c' q'] at h2
      have e1 := (σ_told c b h1).2.2.1
      cases h2; rw [pth_num] at e1; omega
    · rw [nm_new c q] at h1; rw [nm_old c' q'] at h2
      have e1 := (σ_told c' b h2).2.2.1
      cases h1; rw [pth_num] at e1; omega
    · rw [nm_new c q] at h1; rw [nm_new c' q'] at h2
      cases h1
      have := pth_inj (Option.some.inj h2)
      exact Pth.num_inj (by omega)
  -- what the entry's names stand for
  have r2 : ∀ c x, (rhoE σ θ n0 ρ).blk c = some x → c.num < n0 ∧ ∃ b, Tr.get c σ = some b ∧ ρ.blk b = some x := fun c x hx => by
    have hx : (match Nat.blt c.num n0 with | true => (match Tr.get c σ with | some b => ρ.blk b | none => none) | false => none) = some x := hx
    cases q : Nat.blt c.num n0 with
    | false => rw [q] at hx; cases hx
    | true =>
      rw [q] at hx
      refine ⟨blt_true q, ?_⟩
      cases q2 : Tr.get c σ with
      | none => rw [q2] at hx; cases hx
      | some b => rw [q2] at hx; exact ⟨b, rfl, hx⟩
  have r2' : ∀ c b, Tr.get c σ = some b → (rhoE σ θ n0 ρ).blk c = ρ.blk b := fun c b hb => by
    show (match Nat.blt c.num n0 with | true => (match Tr.get c σ with | some b => ρ.blk b | none => none) | false => none) = _
    rw [blt_lt (σ_told c b hb).1, hb]
  have hput : Put nm θ ρ (rhoE σ θ n0 ρ) := by
    refine ⟨fun c b hb => ?_, rfl⟩
    rcases Nat.lt_or_ge c.num n0 with q | q
    · rw [nm_old c q] at hb
      exact (r2' c b hb).symm
    · rw [nm_new c q] at hb
      cases hb
      have e1 : ρ.blk (pth (n + (c.num - n0))) = none := by
        cases hx : ρ.blk (pth (n + (c.num - n0))) with
        | none => rfl
        | some x => have := (hr.lt _ x hx).2; rw [pth_num, hn] at this; omega
      have e2 : (rhoE σ θ n0 ρ).blk c = none := by
        cases hx : (rhoE σ θ n0 ρ).blk c with
        | none => rfl
        | some x => have := (r2 c x hx).1; omega
      rw [e1, e2]
  have hr2 : HR (theLp T g ro S2) (rhoE σ θ n0 ρ) h0 w := by
    refine ⟨fun c x k0 hx hk0 => ?_, fun c c' x x' hx hx' e g1 g2 => ?_, fun c x hx => ?_, fun c hc => ?_, fun B o e => ?_, hS2 _ hr.sy⟩
    · obtain ⟨q1, b, k, k', q2, q3, q4, q5, q6⟩ := hA c k0 hk0
      obtain ⟨_, b', p1, p2⟩ := r2 c x hx
      rw [q2] at p1; cases p1
      obtain ⟨o, o1, o2⟩ := hr.blk b x k p2 q4
      exact ⟨o, o1, (mapK_BkR hput q5).1 (q6.symm.rel o2)⟩
    · obtain ⟨_, b, p1, p2⟩ := r2 c x hx
      obtain ⟨_, b', p1', p2'⟩ := r2 c' x' hx'
      obtain ⟨_, i1, _, t1⟩ := σ_told c b p1
      obtain ⟨_, i2, _, t2⟩ := σ_told c' b' p1'
      have := hr.inj b b' x x' p2 p2' e t1 t2
      subst this
      rw [i1] at i2; exact Option.some.inj i2
    · obtain ⟨q, b, p1, p2⟩ := r2 c x hx
      exact ⟨(hr.lt b x p2).1, by rw [hn0]; exact q⟩
    · cases hk : hget c h0 with
      | none => rfl
      | some k0 => have := (hA c k0 hk).1; omega
    · have e : ro = some (B, o) := e
      obtain rfl := hro B o e
      obtain ⟨q0, nn, t, q1, q2⟩ := hr.ro 0 o e
      obtain ⟨t', q3⟩ := hro0
      exact ⟨q0, nn, t', by rw [r2' _ _ hσ0]; exact q1, q3⟩
  have hg2 : GR (rhoE σ θ n0 ρ) g := fun i hi => by
    obtain rfl : i = 0 := by omega
    obtain ⟨nn, q⟩ := hg 0 hi
    exact ⟨nn, by rw [r2' _ _ hσ0]; exact q⟩
  have ha2 : VRs (rhoE σ θ n0 ρ) as args'.toList := by
    cases hq : mapL nm θ as with
    | none => rw [hq] at hc1; cases hc1
    | some as' =>
      rw [hq] at hc1
      have := sameL_eq hc1
      subst this
      exact (mapL_VRs hput hq _).1 ha
  obtain ⟨s1, s2⟩ := hm.run _ w args' hr2 hg2 ha2
  refine ⟨s1, fun cs => ?_⟩
  have s2 := s2 cs
  have hnew := hm.new
  dsimp only at s2 hnew
  rw [hn0] at hnew
  -- what is turned, stands for something
  have hbound : ∀ c k, (c, k) ∈ news → ∀ b, nm c = some b → b.num < n → ρ.blk b ≠ none := by
    intro c k hck b hb hlt
    have h1 : ∀ l, newN n0 (reach as h0) l = true → (c, k) ∈ l → n0 ≤ c.num ∨ Tr.get c (reach as h0) ≠ none := by
      intro l
      induction l with
      | nil => intro _ h; cases h
      | cons y l ih =>
        obtain ⟨d, j⟩ := y
        intro h hmem
        simp only [newN, Bool.and_eq_true, Bool.or_eq_true] at h
        rcases List.mem_cons.1 hmem with e | e
        · cases e
          rcases h.1 with q | q
          · exact .inl (Nat.le_of_ble_eq_true q)
          · refine .inr fun e => ?_
            rw [e] at q; cases q
        · exact ih h.2 e
    rcases h1 news hnew hck with q | q
    · rw [nm_new c q] at hb; cases hb; rw [pth_num] at hlt; omega
    · have hne := reach_bound hr2 ha2 q
      rcases Nat.lt_or_ge c.num n0 with q1 | q1
      · rw [nm_old c q1] at hb
        rw [← r2' c b hb]; exact hne
      · rw [nm_new c q1] at hb; cases hb; rw [pth_num] at hlt; omega
  -- what comes of it
  have key : ∀ {ρ2' : Rho} {w' : World}, Ext (rhoE σ θ n0 ρ) h0 w ρ2' (addH news nx h0) w' → HR (theLp T g ro S2) ρ2' (addH news nx h0) w' →
      ∃ ρ', Ext ρ h w ρ' (addH l (pth (n + (nx.num - n0))) h) w' ∧ HR (theLp T g ro S) ρ' (addH l (pth (n + (nx.num - n0))) h) w' ∧ Put nm θ ρ' ρ2' := by
    intro ρ2' w' e1 e3
    have hnx' : (hnx (addH news nx h0)).num = nx.num := rfl
    have hnxl : (hnx (addH l (pth (n + (nx.num - n0))) h)).num = n + (nx.num - n0) := pth_num _
    have hle : n0 ≤ nx.num := by have := e1.nx; rw [hnx', hn0] at this; exact this
    have old2 : ∀ c, c.num < n0 → ρ2'.blk c = (rhoE σ θ n0 ρ).blk c := fun c hc => by
      cases hq : (rhoE σ θ n0 ρ).blk c with
      | some x => exact e1.le.mono c x hq
      | none =>
        cases hq' : ρ2'.blk c with
        | none => rfl
        | some x => have := (e1.fresh c x hq hq').2; rw [hn0] at this; omega
    let ρ' : Rho := ⟨fun b => match Nat.blt b.num n with | true => ρ.blk b | false => ρ2'.blk (pth (n0 + (b.num - n))), ρ.sy⟩
    have p_old : ∀ b, b.num < n → ρ'.blk b = ρ.blk b := fun b hb => by
      show (match Nat.blt b.num n with | true => ρ.blk b | false => _) = _
      rw [blt_lt hb]
    have p_new : ∀ b, n ≤ b.num → ρ'.blk b = ρ2'.blk (pth (n0 + (b.num - n))) := fun b hb => by
      show (match Nat.blt b.num n with | true => ρ.blk b | false => _) = _
      rw [blt_ge hb]
    have hput' : Put nm θ ρ' ρ2' := by
      refine ⟨fun c b hb => ?_, by rw [e1.le.sy]; rfl⟩
      rcases Nat.lt_or_ge c.num n0 with q | q
      · rw [old2 c q]
        have hb' := hb
        rw [nm_old c q] at hb'
        rw [p_old b (σ_told c b hb').2.2.1]
        exact hput.nm c b hb
      · rw [nm_new c q] at hb
        cases hb
        rw [p_new _ (by rw [pth_num]; omega), pth_num, show n0 + (n + (c.num - n0) - n) = c.num by omega, num_pth]
    have hgl : ∀ b, hget b (addH l (pth (n + (nx.num - n0))) h) = Tr.get b (addN l (trOf h)) := fun b => rfl
    have hg0 : ∀ b, hget b (addH news nx h0) = Tr.get b (addN news (trOf h0)) := fun b => rfl
    have q0 : ∀ c b, Tr.get c σ = some b → QB nm θ c b (trOf h0) (trOf h) := fun c b hb => by
      obtain ⟨k0, hk0⟩ := hB c b hb
      obtain ⟨_, b', k, k', p1, p2, p3, p4, p5⟩ := hA c k0 hk0
      rw [hb] at p1; cases p1
      exact .inr ⟨k0, k', k, by rw [trget]; exact hk0, p4, by rw [trget]; exact p3, p5⟩
    -- each block that is told is the entry's, or as it was
    have split : ∀ b, (∃ c, nm c = some b ∧ QB nm θ c b (addN news (trOf h0)) (addN l (trOf h)) ∧ (b.num < n → Tr.get c σ = some b)) ∨
        (Tr.get b (addN l (trOf h)) = hget b h ∧ (∀ c, Tr.get c σ ≠ some b) ∧ ∀ c k, (c, k) ∈ news → nm c ≠ some b) := by
      intro b
      by_cases h1 : ∃ c k, (c, k) ∈ news ∧ nm c = some b
      · obtain ⟨c, k, hm1, hm2⟩ := h1
        refine .inl ⟨c, hm2, addN_in hinj hl hm1 hm2, fun hb => ?_⟩
        rcases Nat.lt_or_ge c.num n0 with q | q
        · rw [nm_old c q] at hm2; exact hm2
        · rw [nm_new c q] at hm2; cases hm2; rw [pth_num] at hb; omega
      · by_cases h2 : ∃ c, Tr.get c σ = some b
        · obtain ⟨c, hc⟩ := h2
          have hcn : nm c = some b := by rw [nm_old c (σ_told c b hc).1]; exact hc
          exact .inl ⟨c, hcn, addN_keep hinj hl hcn (q0 c b hc), fun _ => hc⟩
        · refine .inr ⟨?_, fun c hc => h2 ⟨c, hc⟩, fun c k hm hc => h1 ⟨c, k, hm, hc⟩⟩
          rw [addN_out hinj hl fun c k hm hc => h1 ⟨c, k, hm, hc⟩, trget]
    -- an object that the entry does not know
    have apart : ∀ b x, hget b h ≠ none → ρ.blk b = some x → (∀ c, Tr.get c σ ≠ some b) → ∀ c y, (rhoE σ θ n0 ρ).blk c = some y → y.1 ≠ x.1 := by
      intro b x hb hx hn c y hy e
      obtain ⟨_, b', p1, p2⟩ := r2 c y hy
      have := hr.inj b' b y x p2 hx e (σ_told c b' p1).2.2.2 hb
      exact hn c (by rw [← this]; exact p1)
    have apart' : ∀ b x, hget b h ≠ none → ρ.blk b = some x → (∀ c, Tr.get c σ ≠ some b) → ∀ c y, ρ2'.blk c = some y → y.1 ≠ x.1 := by
      intro b x hb hx hn c y hy e
      have hxs := (hr.lt b x hx).1
      cases hq : (rhoE σ θ n0 ρ).blk c with
      | some y' => have := e1.le.mono c y' hq; rw [hy] at this; cases this; exact apart b x hb hx hn c y hq e
      | none =>
        rcases (e1.fresh c y hq hy).1 with q | ⟨c0, y0, p1, p2⟩
        · omega
        · exact apart b x hb hx hn c0 y0 p1 (p2.trans e)
    have lex : ρ.le ρ' := ⟨fun b x hb => by rw [p_old b (by have := (hr.lt b x hb).2; rw [hn] at this; exact this)]; exact hb, rfl⟩
    have kept : ∀ b x, hget b h ≠ none → ρ.blk b = some x → (∀ c, Tr.get c σ ≠ some b) → w'.heap[x.1]? = w.heap[x.1]? := fun b x hb hx hn =>
      e1.keep x.1 (hr.lt b x hx).1 fun c y hy => apart b x hb hx hn c y hy
    refine ⟨ρ', ⟨lex, fun b x hb hb' => ?_, e1.size, fun B hB hno => ?_, ?_, fun b hb hbn => ?_, e1.os, e1.out⟩, ⟨fun b x k hx hk => ?_, fun b b' x x' hx hx' e g1 g2 => ?_, fun b x hx => ?_, fun b hb => ?_, fun B o e => ?_, hr.sy⟩, hput'⟩
    · -- fresh
      rcases Nat.lt_or_ge b.num n with q | q
      · rw [p_old b q, hb] at hb'; cases hb'
      · rw [p_new b q] at hb'
        refine ⟨?_, by rw [hn]; exact q⟩
        have hnone : (rhoE σ θ n0 ρ).blk (pth (n0 + (b.num - n))) = none := by
          cases hq : (rhoE σ θ n0 ρ).blk (pth (n0 + (b.num - n))) with
          | none => rfl
          | some y => have := (r2 _ y hq).1; rw [pth_num] at this; omega
        rcases (e1.fresh _ x hnone hb').1 with z | ⟨c0, y0, p1, p2⟩
        · exact .inl z
        · obtain ⟨_, b0, p3, p4⟩ := r2 c0 y0 p1
          exact .inr ⟨b0, y0, p4, p2⟩
    · exact e1.keep B hB fun c y hy => by
        obtain ⟨_, b, p1, p2⟩ := r2 c y hy
        exact hno b y p2
    · rw [hnxl, hn]; omega
    · -- akeep
      rw [hn] at hb
      rw [hgl]
      by_cases h1 : ∃ c k, (c, k) ∈ news ∧ nm c = some b
      · obtain ⟨c, k, hm1, hm2⟩ := h1
        exact absurd hbn (hbound c k hm1 b hm2 hb)
      · rw [addN_out hinj hl fun c k hm hc => h1 ⟨c, k, hm, hc⟩, trget]
    · -- blk
      rw [hgl] at hk
      rcases split b with ⟨c, hc, hq, _⟩ | ⟨hsame, hnσ, hnn⟩
      · rcases hq with ⟨_, q⟩ | ⟨k0, j', j, p1, p2, p3, p4⟩
        · rw [hk] at q; cases q
        · rw [hk] at p3; cases p3
          have hx2 : ρ2'.blk c = some x := by rw [← hput'.nm c b hc]; exact hx
          obtain ⟨o, o1, o2⟩ := e3.blk c x k0 hx2 p1
          exact ⟨o, o1, p4.rel ((mapK_BkR hput' p2).2 o2)⟩
      · rw [hsame] at hk
        have hlt := told_lt b k hk
        rw [p_old b hlt] at hx
        obtain ⟨o, o1, o2⟩ := hr.blk b x k hx hk
        exact ⟨o, by rw [kept b x (by rw [hk]; simp) hx hnσ]; exact o1, o2.mono lex⟩
    · -- inj
      rw [hgl] at g1 g2
      rcases split b with ⟨c, hc, hq, _⟩ | ⟨hsame, hnσ, hnn⟩ <;> rcases split b' with ⟨c', hc', hq', _⟩ | ⟨hsame', hnσ', hnn'⟩
      · rcases hq with ⟨_, q⟩ | ⟨k0, j1, j2, p1, _⟩
        · exact absurd q g1
        · rcases hq' with ⟨_, q⟩ | ⟨k0', j1', j2', p1', _⟩
          · exact absurd q g2
          · have := e3.inj c c' x x' (by rw [← hput'.nm c b hc]; exact hx) (by rw [← hput'.nm c' b' hc']; exact hx') e (by rw [hg0, p1]; simp) (by rw [hg0, p1']; simp)
            subst this
            rw [hc] at hc'; exact Option.some.inj hc'
      · rw [hsame'] at g2
        have hlt' : b'.num < n := by
          cases hq : hget b' h with
          | none => exact absurd hq g2
          | some k => exact told_lt b' k hq
        rw [p_old b' hlt'] at hx'
        exact absurd e (apart' b' x' g2 hx' hnσ' c x (by rw [← hput'.nm c b hc]; exact hx))
      · rw [hsame] at g1
        have hlt : b.num < n := by
          cases hq : hget b h with
          | none => exact absurd hq g1
          | some k => exact told_lt b k hq
        rw [p_old b hlt] at hx
        exact absurd e.symm (apart' b x g1 hx hnσ c' x' (by rw [← hput'.nm c' b' hc']; exact hx'))
      · rw [hsame] at g1; rw [hsame'] at g2
        have hlt : b.num < n := by
          cases hq : hget b h with
          | none => exact absurd hq g1
          | some k => exact told_lt b k hq
        have hlt' : b'.num < n := by
          cases hq : hget b' h with
          | none => exact absurd hq g2
          | some k => exact told_lt b' k hq
        rw [p_old b hlt] at hx; rw [p_old b' hlt'] at hx'
        exact hr.inj b b' x x' hx hx' e g1 g2
    · -- lt
      rw [hnxl]
      rcases Nat.lt_or_ge b.num n with q | q
      · rw [p_old b q] at hx
        exact ⟨Nat.lt_of_lt_of_le (hr.lt b x hx).1 e1.size, by omega⟩
      · rw [p_new b q] at hx
        have := e3.lt _ x hx
        rw [hnx', pth_num] at this
        exact ⟨this.1, by omega⟩
    · -- wf
      rw [hnxl] at hb
      rw [hgl]
      rcases split b with ⟨c, hc, hq, _⟩ | ⟨hsame, hnσ, hnn⟩
      · rcases hq with ⟨_, q⟩ | ⟨k0, j', j, p1, _⟩
        · exact q
        · exfalso
          rcases Nat.lt_or_ge c.num n0 with q | q
          · rw [nm_old c q] at hc
            have := (σ_told c b hc).2.2.1
            omega
          · rw [nm_new c q] at hc
            have hbc := Option.some.inj hc
            rw [← hbc, pth_num] at hb
            have := e3.wf c (by rw [hnx']; omega)
            rw [hg0, p1] at this; cases this
      · rw [hsame]
        exact hr.wf b (by rw [hn]; omega)
    · -- ro
      have e : ro = some (B, o) := e
      obtain rfl := hro B o e
      obtain ⟨z0, nn, t, z1, z2⟩ := e3.ro 0 o e
      obtain ⟨y0, mm, s, y1, y2⟩ := hr.ro 0 o e
      refine ⟨z0, mm, ?_⟩
      have hc0 : nm (pth 0) = some (pth 0) := by rw [nm_old _ (σ_told _ _ hσ0).1]; exact hσ0
      rw [hg0] at z2
      rcases addN_keep hinj hl hc0 (q0 _ _ hσ0) with ⟨q, _⟩ | ⟨k0, j', j, p1, p2, p3, p4⟩
      · rw [z2] at q; cases q
      · rw [z2] at p1; cases p1
        obtain ⟨t', _, p2⟩ := bindO_some p2
        cases p2
        have hj : ∃ t2, j = .ro t2 := by cases j <;> first | exact ⟨_, rfl⟩ | (have p4 : _ = _ := p4; cases p4)
        obtain ⟨t2, rfl⟩ := hj
        refine ⟨t2, ?_, by rw [hgl]; exact p3⟩
        rw [p_old _ (σ_told _ _ hσ0).2.2.1]; exact y1
  cases u0 with
  | ret v0 =>
    obtain ⟨u', p1, p2⟩ := bindO_some hu
    cases p2
    obtain ⟨ρ2', v, w', F', e1, e2, e3, e4⟩ := s2
    obtain ⟨ρ', k1, k2, k3⟩ := key e1 e3
    exact ⟨ρ', v, w', F', k1, (mapA_VR k3 _ _ p1 v).2 e2, k2, e4⟩
  | pn c0 =>
    obtain ⟨u', p1, p2⟩ := bindO_some hu
    cases p2
    obtain ⟨ρ2', ch, w', F', e1, e2, e3, e4⟩ := s2
    obtain ⟨ρ', k1, k2, k3⟩ := key e1 e3
    exact ⟨ρ', ch, w', F', k1, (mapC_ChR k3 p1 ch).2 e2, k2, e4⟩
end put
end Go.Kx

/- Calls that are known: the search for names and bases, and the answer. -/
namespace Go.Kx
noncomputable section
def nameA (a : AV) : Option Pth := match a with | .ptr b _ => some b | .sl b _ _ _ _ _ => some b | .mp b => some b | .yld b => some b | .sls b _ _ => some b | _ => none
def zipA : List AV → List AV → List (AV × AV) → List (AV × AV)
  | a :: l, b :: m, t => (a, b) :: zipA l m t
  | _, _, t => t
def zipT : Tr AV → Tr AV → List (AV × AV) → List (AV × AV)
  | .n u x y z q, .n v a b c d, l =>
    let l := zipT x a (zipT y b (zipT z c (zipT q d l)))
    match u, v with | some u, some v => (u, v) :: l | _, _ => l
  | _, _, l => l
def zipM : List (AV × AV) → List (AV × AV) → List (AV × AV) → List (AV × AV)
  | (a, b) :: l, (c, d) :: m, t => (a, c) :: (b, d) :: zipM l m t
  | _, _, t => t
def zipK (k j : Bk) (l : List (AV × AV)) : List (AV × AV) := match k with
  | .own t => (match j with | .own u => zipT t u l | _ => l)
  | .ro t => (match j with | .ro u => zipT t u l | _ => l)
  | .mp t => (match j with | .mp u => zipM t u l | _ => l)
  | _ => l
def thOf (s : SI) (a : AV) : Option TH := match s.neg with
  | true => none
  | false => match a with
    | .int .i64 z => some (.cz (toI .i64 z - s.off))
    | .sym t => some (.si { t with off := t.off - s.off })
    | _ => none
def setTH (s : SI) (a : AV) (θ : Tr TH) : Tr TH := match Tr.get (pth s.i) θ with
  | some _ => θ
  | none => Tr.set (pth s.i) (thOf s a) θ
/-- is it the same at the first sight? -/
def sight (a b : AV) : Bool := match a with
  | .int k z => (match b with | .int j y => Nat.beq z y | _ => false)
  | .str k z => (match b with | .str j y => Nat.beq z y | _ => false)
  | .ifc k _ => (match b with | .ifc j _ => Nat.beq k j | _ => false)
  | .nils => (match b with | .nils => true | _ => false)
  | .nilp => (match b with | .nilp => true | _ => false)
  | _ => true
def subs (a b : AV) (l : List (AV × AV)) : List (AV × AV) := match a with
  | .ifc _ v => (match b with | .ifc _ w => (v, w) :: l | _ => l)
  | .agg v => (match b with | .agg w => zipA v w l | _ => l)
  | .tup v => (match b with | .tup w => zipA v w l | _ => l)
  | .fn _ v c => (match b with | .fn _ w d => zipA v w (zipA c d l) | _ => l)
  | _ => l
def baseA (a b : AV) (θ : Tr TH) : Tr TH := match a with | .sym s => setTH s b θ | .sls _ s _ => (match b with | .sls _ t _ => setTH s (.sym t) θ | _ => θ) | _ => θ
structure Sx where
  σ : Tr Pth
  inv : Tr Pth
  θ : Tr TH
/-- the names and the bases of an entry are looked for -/
def srch (t0 t : Tr Bk) : Nat → List (AV × AV) → Tr Pth → Tr Pth → Tr TH → Option Sx
  | 0, _, _, _, _ => none
  | n + 1, l, σ, inv, θ => match l with
    | [] => some ⟨σ, inv, θ⟩
    | p :: l => match sight p.1 p.2 with
      | false => none
      | true => match nameA p.1 with
        | none => srch t0 t n (subs p.1 p.2 l) σ inv (baseA p.1 p.2 θ)
        | some b => match nameA p.2 with
          | none => none
          | some c => match Tr.get b σ with
            | some c' => (match Pth.same c c' with | true => srch t0 t n l σ inv (baseA p.1 p.2 θ) | false => none)
            | none => match Tr.get b t0 with
              | none => srch t0 t n l σ inv (baseA p.1 p.2 θ)
              | some k0 => match Tr.get c t with
                | none => none
                | some k => srch t0 t n (zipK k0 k l) (Tr.set b (some c) σ) (Tr.set c (some b) inv) (baseA p.1 p.2 θ)
def putR (m : Memo) (args : List AV) (h : H) : Option CR :=
  match srch (trOf m.h0) (trOf h) 1000000 (zipA m.as args []) (Tr.set .z (some .z) .e) (Tr.set .z (some .z) .e) .e with
  | none => none
  | some s => match appOK m args h s.σ s.inv s.θ with
    | false => none
    | true => bindO (mapR (nmE s.σ (hnx m.h0).num (hnx h).num) s.θ m.u) fun u => bindO (mapN (nmE s.σ (hnx m.h0).num (hnx h).num) s.θ m.news) fun l =>
      some (u.cr (addH l (pth ((hnx h).num + (m.nx.num - (hnx m.h0).num))) h))
def putP : List Memo → List AV → H → Option CR
  | [], _, _ => none
  | m :: l, args, h => match putR m args h with | some r => some r | none => putP l args h
def Env.put (E : Env) (f : Nat) (l : List Memo) : Env := { E with pr := Tr.set (pth f) (some (putP l)) E.pr }
end
def anyS : (Nat → Int) → Prop := fun _ => True
section ok
variable {P : Program} {T : TT} {g : Nat} {ro : Option (Nat × Obj)} {S : (Nat → Int) → Prop}
theorem putR_ok (hro : ∀ B o, ro = some (B, o) → B = 0) (hg1 : g ≤ 1) {m : Memo} {f : Nat} (hm : EntOK (theLp T g ro anyS) P g f m) {args : List AV} {h : H} {cr : CR} (hc : putR m args h = some cr)
    {ρ : Rho} {w : World} {args' : Array Value} (hr : HR (theLp T g ro S) ρ h w) (hg : GR ρ g) (ha : VRs ρ args args'.toList) :
    (callFunc f args').run P w = .ok (.enter f args') w ∧ ∀ cs, LG (theLp T g ro S) P f (Frame.enter P f args' .normal) cs ρ h w cr := by
  unfold putR at hc
  split at hc
  · cases hc
  · split at hc
    · cases hc
    · rename_i s _ _ h2
      obtain ⟨u, q1, hc⟩ := bindO_some hc
      obtain ⟨l, q2, hc⟩ := bindO_some hc
      cases hc
      exact put_ok hro hg1 hm h2 (fun _ _ => trivial) q1 q2 hr hg ha
theorem putP_ok (hro : ∀ B o, ro = some (B, o) → B = 0) (hg1 : g ≤ 1) {f : Nat} : ∀ {l : List Memo}, (∀ m ∈ l, EntOK (theLp T g ro anyS) P g f m) → ∀ {args : List AV} {h : H} {cr : CR}, putP l args h = some cr →
    ∀ {ρ : Rho} {w : World} {args' : Array Value}, HR (theLp T g ro S) ρ h w → GR ρ g → VRs ρ args args'.toList →
    (callFunc f args').run P w = .ok (.enter f args') w ∧ ∀ cs, LG (theLp T g ro S) P f (Frame.enter P f args' .normal) cs ρ h w cr
  | [], _, args, h, cr, e, _, _, _, _, _, _ => by cases e
  | m :: l, hl, args, h, cr, e, ρ, w, args', hr, hg, ha => by
    unfold putP at e
    split at e
    · rename_i r hr'
      cases e
      exact putR_ok hro hg1 (hl m (by simp)) hr' hr hg ha
    · exact putP_ok hro hg1 (fun m hm => hl m (by simp [hm])) e hr hg ha
theorem put_env (hro : ∀ B o, ro = some (B, o) → B = 0) (hg1 : g ≤ 1) {E : Env} (hE : EnvOK (theLp T g ro S) E P T g) {f : Nat} {l : List Memo} (hl : ∀ m ∈ l, EntOK (theLp T g ro anyS) P g f m) : EnvOK (theLp T g ro S) (E.put f l) P T g :=
  tell_ok hE fun args h cr hcr ρ w args' hr hg ha => .inr (putP_ok hro hg1 hl hcr hr hg ha)
theorem ent_of_run (hT : TOK T P) {E : Env} (hE : EnvOK (theLp T g ro anyS) E P T g) {k f : Nat} {m : Memo} (hc : memoC E k f m = true) : EntOK (theLp T g ro anyS) P g f m := by
  refine ⟨?_, fun ρ w args' hr hg ha => memo_ok hT hE hc ⟨fun b => ?_, rfl⟩ hr hg ha⟩
  · simp only [memoC, Bool.and_eq_true] at hc; exact hc.2
  · cases hget b m.h0 with
    | none => trivial
    | some k => exact BkE.rfl' k
end ok
end Go.Kx

/- States told anew, by more than one name; a loop of which the rounds are alike. -/
namespace Go.Kx
/-! ### Names by pairs -/
def preOf : List (Pth × Pth) → Pth → Option Pth
  | [], _ => none
  | (b, c') :: l, c => match Pth.same c c' with | true => some b | false => preOf l c
def okPs (n : Nat) : List (Pth × Pth) → Bool
  | [] => true
  | (b, c) :: l => Nat.ble n b.num && Nat.ble n c.num && l.all (fun q => !Pth.same q.2 c) && okPs n l
theorem preOf_mem : ∀ {ps : List (Pth × Pth)} {c b : Pth}, preOf ps c = some b → (b, c) ∈ ps
  | (b', c') :: l, c, b, h => by
    unfold preOf at h
    split at h
    · rename_i hs
      cases h
      rw [Pth.same_iff.1 hs]; simp
    · exact List.mem_cons_of_mem _ (preOf_mem h)
theorem okPs_mem {n : Nat} : ∀ {ps : List (Pth × Pth)}, okPs n ps = true → ∀ {b c : Pth}, (b, c) ∈ ps → n ≤ b.num ∧ n ≤ c.num ∧ preOf ps c = some b
  | (b', c') :: l, h, b, c, hm => by
    simp only [okPs, Bool.and_eq_true] at h
    obtain ⟨⟨⟨h1, h2⟩, h3⟩, h4⟩ := h
    rcases List.mem_cons.1 hm with e | hm
    · cases e
      exact ⟨Nat.le_of_ble_eq_true h1, Nat.le_of_ble_eq_true h2, by unfold preOf; rw [Pth.same_iff.2 rfl]⟩
    · obtain ⟨q1, q2, q3⟩ := okPs_mem h4 hm
      refine ⟨q1, q2, ?_⟩
      unfold preOf
      have := List.all_eq_true.1 h3 _ hm
      cases hs : Pth.same c c' with
      | true => rw [show Pth.same (b, c).2 c' = Pth.same c c' from rfl, hs] at this; cases this
      | false => exact q3
theorem nameOf_spec {n : Nat} : ∀ {ps : List (Pth × Pth)} {b c : Pth}, nameOf n ps b = some c → (b = c ∧ c.num < n) ∨ ((b, c) ∈ ps ∧ ¬ b.num < n)
  | [], b, c, h => by
    unfold nameOf at h
    split at h
    · rename_i hlt; cases h; exact .inl ⟨rfl, blt_true hlt⟩
    · cases h
  | (b', c') :: l, b, c, h => by
    have h0 := h
    unfold nameOf at h
    split at h
    · rename_i hlt; cases h; exact .inl ⟨rfl, blt_true hlt⟩
    · rename_i hlt
      dsimp only at h
      have hn : ¬ b.num < n := by have := blt_false hlt; omega
      split at h
      · rename_i hs; cases h; exact .inr ⟨by rw [Pth.same_iff.1 hs]; simp, hn⟩
      · rcases nameOf_spec h with q | q
        · exact .inl q
        · exact .inr ⟨List.mem_cons_of_mem _ q.1, hn⟩
/-- New names: those from n on are told by the pairs. -/
def Rho.rn (ρ : Rho) (n : Nat) (ps : List (Pth × Pth)) (sy : Nat → Int) : Rho := ⟨fun c => if c.num < n then ρ.blk c else match preOf ps c with | some b => ρ.blk b | none => none, sy⟩
theorem rn_lt {ρ : Rho} {n : Nat} {ps : List (Pth × Pth)} {sy : Nat → Int} {c : Pth} (h : c.num < n) : (ρ.rn n ps sy).blk c = ρ.blk c := if_pos h
theorem rn_in {ρ : Rho} {n : Nat} {ps : List (Pth × Pth)} {sy : Nat → Int} {b c : Pth} (h : okPs n ps = true) (hm : (b, c) ∈ ps) : (ρ.rn n ps sy).blk c = ρ.blk b := by
  obtain ⟨_, q2, q3⟩ := okPs_mem h hm
  show (if c.num < n then _ else match preOf ps c with | some b => ρ.blk b | none => none) = _
  rw [if_neg (by omega), q3]
theorem rn_name {ρ : Rho} {n : Nat} {ps : List (Pth × Pth)} {sy : Nat → Int} {b c : Pth} (h : okPs n ps = true) (hb : nameOf n ps b = some c) : (ρ.rn n ps sy).blk c = ρ.blk b := by
  rcases nameOf_spec hb with ⟨rfl, q⟩ | ⟨q, _⟩
  · exact rn_lt q
  · exact rn_in h q
theorem rn_back {ρ : Rho} {n : Nat} {ps : List (Pth × Pth)} {sy : Nat → Int} {c : Pth} {x} (hx : (ρ.rn n ps sy).blk c = some x) : (c.num < n ∧ ρ.blk c = some x) ∨ ∃ b, (b, c) ∈ ps ∧ ¬ c.num < n ∧ ρ.blk b = some x := by
  have hx : (if c.num < n then ρ.blk c else match preOf ps c with | some b => ρ.blk b | none => none) = some x := hx
  by_cases h : c.num < n
  · rw [if_pos h] at hx; exact .inl ⟨h, hx⟩
  · rw [if_neg h] at hx
    split at hx
    · rename_i b hb; exact .inr ⟨b, preOf_mem hb, h, hx⟩
    · cases hx
theorem tell_rn {n : Nat} {ps : List (Pth × Pth)} {τ : SI → SI → Bool} {ρ : Rho} {sy : Nat → Int} (hp : okPs n ps = true) (hs : ∀ s t, τ s t = true → t.val sy = s.val ρ.sy) : Tell n ps τ ρ (ρ.rn n ps sy) :=
  ⟨fun b c hb x hx => by rw [rn_name hp hb]; exact hx, hs⟩
noncomputable section
/-- what the second memory tells, the first tells, but for names and bases -/
def rlH (n : Nat) (ps : List (Pth × Pth)) (τ : SI → SI → Bool) (h h2 : H) : Bool := allP (fun c k2 => match (match Nat.blt c.num n with | true => some c | false => preOf ps c) with
  | none => false
  | some b => isName n ps b c && Nat.blt c.num (hnx h2).num && (match hget b h with | some k => rlK n ps τ k k2 | none => false)) id (trOf h2)
def isRo (k : Option Bk) : Bool := match k with | some (.ro _) => true | _ => false
/-- all that is asked of a state that is told anew -/
def okRn (n : Nat) (ps : List (Pth × Pth)) (τ : SI → SI → Bool) (fr : Fr) (h : H) (fr2 : Fr) (h2 : H) : Bool :=
  okPs n ps && ps.all (fun q => Nat.blt q.2.num (hnx h2).num) && Nat.ble n (hnx h2).num && Nat.blt 0 n && isRo (hget .z h2) && rlT n ps τ fr fr2 && rlH n ps τ h h2
end
theorem pth_zero : pth 0 = .z := rfl
theorem SR.rn {L : Lp} {g m n : Nat} {ρ : Rho} {fr fr2 : Fr} {h h2 : H} {ro' : Option Nat} {a : Act} {w : World} (s : SR L g m ρ fr (.l []) h ro' a w) {ps : List (Pth × Pth)} {τ : SI → SI → Bool} {sy : Nat → Int} (hg : g ≤ 1)
    (hk : okRn n ps τ fr h fr2 h2 = true) (hs : ∀ s t, τ s t = true → t.val sy = s.val ρ.sy) (hro : ∀ B o, L.ro = some (B, o) → B = 0) {S : (Nat → Int) → Prop} (hS : S sy) : SR { L with S := S } g m (ρ.rn n ps sy) fr2 (.l []) h2 ro' a w := by
  simp only [okRn, Bool.and_eq_true] at hk
  obtain ⟨⟨⟨⟨⟨⟨k1, k2⟩, k3⟩, k4⟩, k5⟩, k6⟩, k7⟩ := hk
  have k4 := blt_true k4
  have k3 := Nat.le_of_ble_eq_true k3
  have ht := tell_rn (ρ := ρ) k1 hs
  have hh : ∀ c kk, hget c h2 = some kk → c.num < (hnx h2).num ∧ ∃ b k, nameOf n ps b = some c ∧ hget b h = some k ∧ rlK n ps τ k kk = true := by
    intro c kk hc
    have := allP_get (trOf h2) id k7 c kk (by cases h2; exact hc)
    dsimp only [id] at this
    split at this
    · cases this
    · rename_i b hb
      simp only [Bool.and_eq_true] at this
      obtain ⟨⟨q1, q2⟩, q3⟩ := this
      refine ⟨blt_true q2, ?_⟩
      unfold isName at q1
      split at q1
      · rename_i d hd
        have := Pth.same_iff.1 q1; subst this
        split at q3
        · rename_i k hk; exact ⟨b, k, hd, hk, q3⟩
        · cases q3
      · cases q1
  refine ⟨⟨fun c x k2 hc hkk => ?_, fun c c' x x' hc hc' e g1 g2 => ?_, fun c x hc => ?_, fun c hc => ?_, fun B o e => ?_, hS⟩, fun i hi => ?_, ⟨s.fr.size, fun p v hv => ?_⟩, s.df⟩
  · obtain ⟨_, b, k, h1, h2', h3⟩ := hh c k2 hkk
    rw [rn_name k1 h1] at hc
    obtain ⟨o, q1, q2⟩ := s.hr.blk b x k hc h2'
    exact ⟨o, q1, BkR.withS (rlK_ok ht h3 q2)⟩
  · cases hk : hget c h2 with
    | none => exact absurd hk g1
    | some k =>
      cases hk' : hget c' h2 with
      | none => exact absurd hk' g2
      | some k' =>
        obtain ⟨_, b, j, p1, p2, _⟩ := hh c k hk
        obtain ⟨_, b', j', p1', p2', _⟩ := hh c' k' hk'
        rw [rn_name k1 p1] at hc
        rw [rn_name k1 p1'] at hc'
        have := s.hr.inj b b' x x' hc hc' e (by rw [p2]; simp) (by rw [p2']; simp)
        subst this
        rw [p1] at p1'; cases p1'; rfl
  · rcases rn_back hc with ⟨q1, q2⟩ | ⟨b, q1, q2, q3⟩
    · exact ⟨(s.hr.lt c x q2).1, by omega⟩
    · exact ⟨(s.hr.lt b x q3).1, blt_true (List.all_eq_true.1 k2 _ q1)⟩
  · cases hq : hget c h2 with
    | none => rfl
    | some kk => have := (hh c kk hq).1; omega
  · obtain rfl := hro B o e
    obtain ⟨q0, n', t, q1, q2⟩ := s.hr.ro 0 o e
    have : isRo (hget (pth 0) h2) = true := k5
    cases hq : hget (pth 0) h2 with
    | none => rw [hq] at this; cases this
    | some kk =>
      rw [hq] at this
      cases kk <;> first | (cases this; done) | skip
      exact ⟨q0, n', _, by rw [rn_lt (by rw [pth_num]; exact k4)]; exact q1, rfl⟩
  · obtain ⟨m, hm⟩ := s.gr i hi
    exact ⟨m, by rw [rn_lt (by rw [pth_num]; omega)]; exact hm⟩
  · obtain ⟨x, hx, hxv, _⟩ := rlT_get _ _ k6 p v hv
    obtain ⟨y, hy, hvy⟩ := s.fr.slot p x hx
    exact ⟨y, hy, rl_VR ht _ _ _ hxv hvy⟩
theorem Acc.rn {ρ0 ρ : Rho} {w0 w : World} {n0 : Nat} (A : Acc ρ0 w0 n0 ρ w) {ps : List (Pth × Pth)} {n : Nat} (hn : n0 ≤ n) (hp : okPs n ps = true) (sy : Nat → Int) : Acc ρ0 w0 n0 (ρ.rn n ps sy) w := by
  refine ⟨fun b hb => by rw [rn_lt (by omega)]; exact A.old b hb, fun b x hb hnb => ?_, A.size, A.keep, A.os, A.out⟩
  rcases rn_back hb with ⟨q1, q2⟩ | ⟨b', q1, q2, q3⟩
  · exact A.new b x q2 hnb
  · exact A.new b' x q3 (by have := (okPs_mem hp q1).1; omega)

/-! ### A loop -/
/-- What is said of a loop: bases (each with its start and its step); how many states; the state behind a round; names behind the first round, behind each other one; the last state, with numbers: its frame, what is turned in the memory. -/
structure Hint where
  bs : List (Nat × Int × Int)
  m : Nat
  p1 : List (Pth × Pth)
  frI : Fr
  hI : H
  pR : List (Pth × Pth)
  frX : Fr
  newsX : List (Pth × Option Bk)
  nxX : Pth
noncomputable section
def bsOf (bs : List (Nat × Int × Int)) (i : Nat) : Option (Int × Int) := match bs with
  | [] => none
  | (j, v, c) :: l => match Nat.beq i j with | true => some (v, c) | false => bsOf l i
def syAt (bs : List (Nat × Int × Int)) (sy : Nat → Int) (j : Nat) (i : Nat) : Int := match bsOf bs i with | some (v, c) => v + c * j | none => sy i
def constS (s : SI) : Option Int := match s.isC && s.ok with | true => some s.mn | false => none
def valAt (bs : List (Nat × Int × Int)) (j : Nat) (t : SI) : Option Int := match bsOf bs t.i with
  | some (v, c) => some (sgnI t.neg (clampI t.lo t.hi (v + c * j)) + t.off)
  | none => constS t
def noneOf {α : Type} (o : Option α) : Bool := match o with | none => true | some _ => false
def sameO' (a b : Option Int) : Bool := match a with | some x => (match b with | some y => decide (x = y) | none => false) | none => false
def keptS (bs : List (Nat × Int × Int)) (s t : SI) : Bool := sameSI s t && noneOf (bsOf bs s.i)
/-- to the first state -/
def tauE (bs : List (Nat × Int × Int)) (s t : SI) : Bool := sameO' (constS s) (valAt bs 0 t) || keptS bs s t
/-- from state to state -/
def tauR (bs : List (Nat × Int × Int)) (m : Nat) (s t : SI) : Bool := (match bsOf bs s.i with
  | some (v, c) => !s.neg && !t.neg && Nat.beq s.i t.i && decide (s.lo = t.lo) && decide (s.hi = t.hi) && decide (s.off = t.off + c) && decide (s.lo ≤ v) && decide (0 ≤ c) && decide (v + c * m ≤ s.hi)
  | none => false) || sameO' (constS s) (constS t) || keptS bs s t
/-- from the last state on -/
def tauX (bs : List (Nat × Int × Int)) (m : Nat) (s t : SI) : Bool := sameO' (valAt bs m s) (constS t) || keptS bs s t
end
theorem constS_val {s : SI} {z : Int} (h : constS s = some z) (x : Nat → Int) : s.val x = z := by
  unfold constS at h
  split at h
  · rename_i hc; cases h
    simp only [Bool.and_eq_true] at hc
    exact SI.isC_val hc.1 x
  · cases h
theorem valAt_val {bs : List (Nat × Int × Int)} {j : Nat} {t : SI} {z : Int} (h : valAt bs j t = some z) (sy : Nat → Int) : t.val (syAt bs sy j) = z := by
  unfold valAt at h
  split at h
  · rename_i v c hb
    cases h
    unfold SI.val syAt
    rw [hb]
  · exact constS_val h _
theorem sameO'_eq {a b : Option Int} (h : sameO' a b = true) : ∃ z, a = some z ∧ b = some z := by
  cases a with
  | none => cases h
  | some x =>
    cases b with
    | none => cases h
    | some y => exact ⟨y, by rw [show x = y from of_decide_eq_true h], rfl⟩
theorem keptS_val {bs : List (Nat × Int × Int)} {s t : SI} (h : keptS bs s t = true) {x y : Nat → Int} (hxy : ∀ i, bsOf bs i = none → y i = x i) : t.val y = s.val x := by
  simp only [keptS, sameSI, SI.same, Bool.and_eq_true, beq_iff_eq, decide_eq_true_eq] at h
  obtain ⟨⟨⟨⟨⟨h1, h2⟩, h3⟩, h4⟩, h5⟩, h6⟩ := h
  have h2 := Nat.eq_of_beq_eq_true h2
  have hn : bsOf bs s.i = none := by
    cases hq : bsOf bs s.i with
    | none => rfl
    | some _ => rw [hq] at h6; cases h6
  unfold SI.val
  rw [← h1, ← h2, ← h3, ← h4, ← h5, hxy s.i hn]
theorem syAt_out {bs : List (Nat × Int × Int)} {sy : Nat → Int} {j i : Nat} (h : bsOf bs i = none) : syAt bs sy j i = sy i := by
  unfold syAt; rw [h]
theorem tauE_val {bs : List (Nat × Int × Int)} {s t : SI} (h : tauE bs s t = true) (sy : Nat → Int) : t.val (syAt bs sy 0) = s.val sy := by
  simp only [tauE, Bool.or_eq_true] at h
  rcases h with h | h
  · obtain ⟨z, q1, q2⟩ := sameO'_eq h
    rw [constS_val q1, valAt_val q2]
  · exact keptS_val h fun i hi => syAt_out hi
theorem tauX_val {bs : List (Nat × Int × Int)} {m : Nat} {s t : SI} (h : tauX bs m s t = true) (sy : Nat → Int) : t.val sy = s.val (syAt bs sy m) := by
  simp only [tauX, Bool.or_eq_true] at h
  rcases h with h | h
  · obtain ⟨z, q1, q2⟩ := sameO'_eq h
    rw [constS_val q2, valAt_val q1]
  · exact keptS_val h fun i hi => (syAt_out hi).symm
theorem tauR_val {bs : List (Nat × Int × Int)} {m j : Nat} (hj : j + 1 ≤ m) {s t : SI} (h : tauR bs m s t = true) (sy : Nat → Int) : t.val (syAt bs sy (j + 1)) = s.val (syAt bs sy j) := by
  simp only [tauR, Bool.or_eq_true] at h
  rcases h with (h | h) | h
  · split at h
    · rename_i v c hb
      simp only [Bool.and_eq_true, Bool.not_eq_true', decide_eq_true_eq] at h
      obtain ⟨⟨⟨⟨⟨⟨⟨⟨h1, h2⟩, h3⟩, h4⟩, h5⟩, h6⟩, h7⟩, h8⟩, h9⟩ := h
      have h3 := Nat.eq_of_beq_eq_true h3
      have e1 : syAt bs sy j s.i = v + c * j := by unfold syAt; rw [hb]
      have e2 : syAt bs sy (j + 1) t.i = v + c * (j + 1) := by unfold syAt; rw [← h3, hb]; simp
      have m1 : c * (j : Int) ≤ c * m := Int.mul_le_mul_of_nonneg_left (by omega) h8
      have m2 : c * ((j : Int) + 1) ≤ c * m := Int.mul_le_mul_of_nonneg_left (by omega) h8
      have m3 : 0 ≤ c * (j : Int) := Int.mul_nonneg h8 (by omega)
      have m4 : c * ((j : Int) + 1) = c * j + c := by rw [Int.mul_add, Int.mul_one]
      unfold SI.val
      rw [h1, h2, e1, e2, ← h4, ← h5, clampI_in (by omega) (by omega), clampI_in (by omega) (by omega)]
      show v + c * (j + 1) + t.off = v + c * j + s.off
      omega
    · cases h
  · obtain ⟨z, q1, q2⟩ := sameO'_eq h
    rw [constS_val q1, constS_val q2]
  · exact keptS_val h fun i hi => by rw [syAt_out hi, syAt_out hi]
noncomputable section
def isNrm (r : R) (f : Fr → H → Bool) : Bool := match r with | .nrm fr (.l []) h => f fr h | _ => false
/-- what is come to from a frame -/
def reachT (fr : Fr) (h : H) : Tr Bk := markF h 1000000 (blksT fr []) .e
def hintOK (ex : EX) (t : Hint) (a : FC) (fr : Fr) (h : H) : Bool :=
  isNrm (ex a fr (.l []) h) (fun fr1 h1 => okRn (hnx h).num t.p1 (tauE t.bs) fr1 h1 t.frI t.hI) &&
  isNrm (ex a t.frI (.l []) t.hI) (fun fr2 h2 => okRn (hnx h).num t.pR (tauR t.bs t.m) fr2 h2 t.frI t.hI) &&
  okRn (hnx t.hI).num [] (tauX t.bs t.m) t.frI t.hI t.frX (addH t.newsX t.nxX h) && newN (hnx h).num (reachT fr h) t.newsX && Nat.ble (hnx h).num (hnx t.hI).num && Nat.ble (hnx h).num t.nxX.num
def isL0 (df : Df) : Bool := match df with | .l [] => true | _ => false
def loopH (ex : EX) (t : Hint) (a : FC) (fr : Fr) (df : Df) (h : H) : R := match isL0 df && hintOK ex t a fr h with
  | true => ex (.lop a) t.frX (.l []) (addH t.newsX t.nxX h)
  | false => .bad 330
def exH (ex : EX) (t : Hint) : FC → Fr → Df → H → R
  | .seq a b, fr, df, h => (match exH ex t a fr df h with | .nrm fr df h => exH ex t b fr df h | r => r)
  | .blk i a, fr, df, h => blkK i (exH ex t a fr df h)
  | .lop a, fr, df, h => loopH ex t a fr df h
  | c, fr, df, h => ex c fr df h
end
theorem isNrm_ok {r : R} {f : Fr → H → Bool} (h : isNrm r f = true) : ∃ fr h', r = .nrm fr (.l []) h' ∧ f fr h' = true := by
  unfold isNrm at h
  split at h
  · exact ⟨_, _, rfl, h⟩
  · cases h
section hint
variable {P : Program} {T : TT} {g : Nat} {ro : Option (Nat × Obj)} (hT : TOK T P) (hg1 : g ≤ 1) (hro : ∀ B o, ro = some (B, o) → B = 0) {ex : EX} (hi : ∀ S, ExS (theLp T g ro S) P T g ex)
include hT hg1 hro hi
theorem loopH_ok {S : (Nat → Int) → Prop} (t : Hint) (n : Nat) (x : Code) (b : Frame) (k : List Item) (cs : List Frame) (ρ : Rho) (fr : Fr) (df : Df) (h : H) (a : Act) (w : World)
    (s : SR (theLp T g ro S) g n ρ fr df h b.roundOf a w) : RG (theLp T g ro S) P g n b k cs (lone (b.atR a (.code (.loop x) :: k)) cs w) ρ h w (loopH ex t (cCode T g n x) fr df h) := by
  unfold loopH
  split
  case h_2 => trivial
  rename_i hq
  simp only [Bool.and_eq_true] at hq
  obtain ⟨hdf, hq⟩ := hq
  have hdf : df = .l [] := by
    unfold isL0 at hdf
    split at hdf
    · rfl
    · cases hdf
  subst hdf
  simp only [hintOK, Bool.and_eq_true] at hq
  obtain ⟨⟨⟨⟨⟨c1, c2⟩, c3⟩, c4⟩, c5⟩, c6⟩ := hq
  have c5 := Nat.le_of_ble_eq_true c5
  have c6 := Nat.le_of_ble_eq_true c6
  obtain ⟨fr1, h1, e1, d1⟩ := isNrm_ok c1
  obtain ⟨fr2, h2, e2, d2⟩ := isNrm_ok c2
  have hro' : ∀ (S' : (Nat → Int) → Prop), ∀ B o, (theLp T g ro S').ro = some (B, o) → B = 0 := fun S' B o e => hro B o e
  have okp : ∀ {n ps τ fr h fr2 h2}, okRn n ps τ fr h fr2 h2 = true → okPs n ps = true := fun hk => by
    simp only [okRn, Bool.and_eq_true] at hk; exact hk.1.1.1.1.1.1
  -- the first round
  have r1 := (hi S).code n x b (.inLoop x :: k) cs ρ fr (.l []) h a w s
  rw [e1] at r1
  obtain ⟨ρ1, a1, w1, x1, s1, st1⟩ := r1
  have A1 : Acc ρ w (hnx h).num ρ1 w1 := (Acc.refl s.hr).step x1 (Nat.le_refl _)
  have I0 : SR (theLp T g ro (fun y => y = syAt t.bs ρ.sy 0)) g n (ρ1.rn (hnx h).num t.p1 (syAt t.bs ρ.sy 0)) t.frI (.l []) t.hI b.roundOf a1 w1 :=
    s1.rn hg1 d1 (fun s u hu => by rw [x1.le.sy]; exact tauE_val hu ρ.sy) (hro' S) rfl
  have A0 := A1.rn (Nat.le_refl _) (okp d1) (syAt t.bs ρ.sy 0)
  -- the others
  have rds : ∀ j, j ≤ t.m → ∃ ρ' a' w', Acc ρ w (hnx h).num ρ' w' ∧ ρ'.sy = syAt t.bs ρ.sy j ∧ SR (theLp T g ro (fun y => y = syAt t.bs ρ.sy j)) g n ρ' t.frI (.l []) t.hI b.roundOf a' w' ∧
      Steps P (lone (b.atR a (.code (.loop x) :: k)) cs w) (lone (b.atR a' (.inLoop x :: k)) cs w') := by
    intro j
    induction j with
    | zero => exact fun _ => ⟨_, a1, w1, A0, rfl, I0, (Steps.one stepR_loop).trans st1⟩
    | succ j ih =>
      intro hj
      obtain ⟨ρ', a', w', A', y', s', st'⟩ := ih (by omega)
      have r2 := (hi _).code n x b (.inLoop x :: k) cs ρ' t.frI (.l []) t.hI a' w' s'
      rw [e2] at r2
      obtain ⟨ρ2, a2, w2, x2, s2, st2⟩ := r2
      refine ⟨ρ2.rn (hnx h).num t.pR (syAt t.bs ρ.sy (j + 1)), a2, w2, (A'.step x2 c5).rn (Nat.le_refl _) (okp d2) _, rfl, ?_, st'.trans (.head stepR_inLoop st2)⟩
      exact s2.rn hg1 d2 (fun s u hu => by rw [x2.le.sy, y']; exact tauR_val hj hu ρ.sy) (hro' _) rfl
  obtain ⟨ρ', a', w', A', y', s', st'⟩ := rds t.m (Nat.le_refl _)
  have sX : SR (theLp T g ro S) g n (ρ'.rn (hnx t.hI).num [] ρ.sy) t.frX (.l []) (addH t.newsX t.nxX h) b.roundOf a' w' :=
    s'.rn hg1 c3 (fun s u hu => by rw [y']; exact tauX_val hu ρ.sy) (hro' _) s.hr.sy
  have AX := A'.rn (n := (hnx t.hI).num) (ps := []) c5 rfl ρ.sy
  have hb : ∀ b, Tr.get b (reachT fr h) ≠ none → ρ.blk b ≠ none := fun b hb => by
    refine mark_bound s.hr _ _ _ (fun c hc => ?_) (fun c hc => by rw [Tr.get_e] at hc; exact absurd rfl hc) b hb
    rcases blksT_bound fr [] c (fun p v hp => let ⟨y, _, hy⟩ := s.fr.slot p v hp; ⟨y, hy⟩) hc with q | q
    · exact q
    · cases q
  have eX : Ext ρ h w (ρ'.rn (hnx t.hI).num [] ρ.sy) (addH t.newsX t.nxX h) w' := AX.ext (fun b x hx => (s.hr.lt b x hx).2) rfl c6 fun b hlt hn => by
    have := addN_old (t := trOf h) c4 (b := b) hlt (by
      cases hq : Tr.get b (reachT fr h) with
      | none => rfl
      | some _ => exact absurd hn (hb b (by rw [hq]; simp)))
    cases h; exact this
  exact RG.head eX st' ((hi S).loop n x b k cs _ t.frX (.l []) _ a' w' sX)
theorem exH_other {t : Hint} {X : FC} (h1 : ∀ a b, X ≠ .seq a b) (h2 : ∀ i a, X ≠ .blk i a) (h3 : ∀ a, X ≠ .lop a) (fr : Fr) (df : Df) (h : H) : exH ex t X fr df h = ex X fr df h := by
  cases X <;> first | rfl | exact absurd rfl (h1 _ _) | exact absurd rfl (h2 _ _) | exact absurd rfl (h3 _)
theorem exH_ok {S : (Nat → Int) → Prop} (t : Hint) (n : Nat) (c : Code) : ∀ (b : Frame) (k : List Item) (cs : List Frame) (ρ : Rho) (fr : Fr) (df : Df) (h : H) (a : Act) (w : World),
    SR (theLp T g ro S) g n ρ fr df h b.roundOf a w → RG (theLp T g ro S) P g n b k cs (lone (b.atR a (.code c :: k)) cs w) ρ h w (exH ex t (cCode T g n c) fr df h) := by
  have other : ∀ (c : Code), (∀ x y, cCode T g n c ≠ .seq x y) → (∀ i x, cCode T g n c ≠ .blk i x) → (∀ x, cCode T g n c ≠ .lop x) → ∀ (b : Frame) (k : List Item) (cs : List Frame) (ρ : Rho) (fr : Fr) (df : Df) (h : H) (a : Act) (w : World),
      SR (theLp T g ro S) g n ρ fr df h b.roundOf a w → RG (theLp T g ro S) P g n b k cs (lone (b.atR a (.code c :: k)) cs w) ρ h w (exH ex t (cCode T g n c) fr df h) := by
    intro c h1 h2 h3 b k cs ρ fr df h a w s
    rw [exH_other hT hg1 hro hi h1 h2 h3]
    exact (hi S).code n c b k cs ρ fr df h a w s
  induction c with
  | seq x y ihx ihy =>
    intro b k cs ρ fr df h a w s
    refine RG.head (.refl _ _ _) (.one stepR_seq) ?_
    have h1 := ihx b (.code y :: k) cs ρ fr df h a w s
    show RG _ _ _ _ _ _ _ _ _ _ _ (match exH ex t (cCode T g n x) fr df h with | .nrm fr df h => exH ex t (cCode T g n y) fr df h | r => r)
    generalize exH ex t (cCode T g n x) fr df h = r at h1
    cases r with
    | nrm fr' df' h' => obtain ⟨ρ', a', w', e, s', st⟩ := h1; exact RG.head e st (ihy b k cs ρ' fr' df' h' a' w' s')
    | ex i fr' df' h' => obtain ⟨ρ', a', w', k', e, s', q, st⟩ := h1; exact ⟨ρ', a', w', k', e, s', q, st⟩
    | rt fr' df' h' => exact h1
    | pn c fr' df' h' => exact h1
    | bad _ => trivial
  | block id x ihx =>
    intro b k cs ρ fr df h a w s
    refine RG.head (.refl _ _ _) (.one stepR_block) ?_
    show RG _ _ _ _ _ _ _ _ _ _ _ (blkK id (exH ex t (cCode T g n x) fr df h))
    have h1 := ihx b (.inBlock id :: k) cs ρ fr df h a w s
    generalize exH ex t (cCode T g n x) fr df h = r at h1
    cases r with
    | nrm fr' df' h' => obtain ⟨ρ', a', w', e, s', st⟩ := h1; exact ⟨ρ', a', w', e, s', st.trans (.one stepR_inBlock)⟩
    | ex i fr' df' h' =>
      obtain ⟨ρ', a', w', k', e, s', q, st⟩ := h1
      show RG _ _ _ _ _ _ _ _ _ _ _ (match Nat.beq id i with | true => R.nrm fr' df' h' | false => .ex i fr' df' h')
      split
      · rename_i hq
        obtain rfl := Nat.eq_of_beq_eq_true hq
        exact ⟨ρ', a', w', e, s', st.trans (.one (stepR_exit (by rw [q]; simp [exitTo])))⟩
      · rename_i hq
        exact ⟨ρ', a', w', k', e, s', by rw [q, exit_one (fun e => by subst e; simp at hq)], st⟩
    | rt fr' df' h' => exact h1
    | pn c fr' df' h' => exact h1
    | bad _ => trivial
  | loop x _ =>
    intro b k cs ρ fr df h a w s
    exact loopH_ok hT hg1 hro hi t n x b k cs ρ fr df h a w s
  | cond c x y _ _ => refine other _ ?_ ?_ ?_ <;> (intros; simp only [cCode]; split <;> exact nofun)
  | region id ops draw =>
    cases draw with
    | false => exact other _ nofun nofun nofun
    | true => refine other _ ?_ ?_ ?_ <;> (intros; simp only [cCode]; dsimp only [cDrw]; split <;> exact nofun)
  | rangeFunc f ps x y _ _ => refine other _ ?_ ?_ ?_ <;> (intros; simp only [cCode]; split <;> exact nofun)
  | skip => exact other _ nofun nofun nofun
  | exit i => exact other _ nofun nofun nofun
  | scope x _ => exact other _ nofun nofun nofun
  | label l => exact other _ nofun nofun nofun
  | goto l => exact other _ nofun nofun nofun
  | ret => exact other _ nofun nofun nofun
  | refuse y => exact other _ nofun nofun nofun
end hint
end Go.Kx

/- From runs to entries, and from two runs to a law. -/
namespace Go.Kx
open Go.ChangeShapes Go.WideShapes
/-- Where a frame of a function comes to, from any machine. -/
def LGm (L : Lp) (P : Program) (f : Nat) (cs : List Frame) (M : Machine) (ρ : Rho) (h : H) (w : World) : CR → Prop
  | .ret u h' => ∃ ρ' v w' F', Ext ρ h w ρ' h' w' ∧ VR ρ' u v ∧ HR L ρ' h' w' ∧ Steps P M (lone F' cs w') ∧ F'.fn = f ∧ F'.leaving P w' (.returned v)
  | .pn c h' => ∃ ρ' ch w' F', Ext ρ h w ρ' h' w' ∧ ChR ρ' c ch ∧ HR L ρ' h' w' ∧ Steps P M (lone F' cs w') ∧ F'.fn = f ∧ F'.leaving P w' (.panicked ch)
  | .bad _ => True
theorem LG.m {L P f F cs ρ h w r} (hl : LG L P f F cs ρ h w r) {M : Machine} {ρ0 : Rho} {h0 : H} {w0 : World} (e : Ext ρ0 h0 w0 ρ h w) (hs : Steps P M (lone F cs w)) : LGm L P f cs M ρ0 h0 w0 r := by
  cases r with
  | ret u h' => obtain ⟨ρ', v, w', F', q1, q2, q3, q4, q5⟩ := hl; exact ⟨ρ', v, w', F', e.trans q1, q2, q3, hs.trans q4, q5⟩
  | pn c h' => obtain ⟨ρ', v, w', F', q1, q2, q3, q4, q5⟩ := hl; exact ⟨ρ', v, w', F', e.trans q1, q2, q3, hs.trans q4, q5⟩
  | bad _ => trivial
section fin
variable {L : Lp} {P : Program} {T : TT} {g : Nat} (hT : TOK T P) {ih : EX} (hi : ExS L P T g ih) {call : CallF} (hc : CallS L P g call) (hbad : ∀ w fr df h, ∃ q, ih (.bad w) fr df h = .bad q) {E : Env} (hE : EnvOK L E P T g)
include hT hi hc hbad hE
/-- A frame's end. -/
theorem fin_ok {f : Nat} {fd : Func} (p1 : P.funcs[f]? = some fd) {rd : List (Bool × Pth × Nat)} (p3 : cRes T fd.results.toList = some rd) {b : Frame} (hb : b = { (default : Frame) with fn := f, kind := .normal }) {n : Nat} {cs : List Frame} {M : Machine} {ρ : Rho} {h : H} {w : World} {r : R}
    (h1 : RG L P g n b [] cs M ρ h w r) : LGm L P f cs M ρ h w (finK E ih call rd r) := by
  have fin : ∀ {fr : Fr} {df : List (DF ⊕ Pth)} {h' : H} {ρ' : Rho} {a : Act} {w' : World} {md : Md} {F : Frame}, Ext ρ h w ρ' h' w' → SR L g n ρ' fr (.l df) h' b.roundOf a w' → F.tmps = a.tmps → F.defers = a.defers → F.fn = f → F.kind = .normal → MdR ρ' md F.mode →
      Steps P M (lone F cs w') → LGm L P f cs M ρ h w (leave E ih call rd fr df md h') := by
    intro fr df h' ρ' a w' md F e s' q1 q2 q3 q4 hm st
    exact LG.m (leave_ok hT hi hc hbad hE p1 p3 df md h' ρ' w' F cs s'.hr s'.gr (by rw [q1]; exact s'.fr) (by rw [q2]; exact s'.df.2) hm q3 q4) e st
  subst hb
  cases r with
  | nrm fr df h' =>
    obtain ⟨ρ', a, w', e, s', st⟩ := h1
    cases df with
    | no p => trivial
    | l df => exact fin (F := { Frame.atR { (default : Frame) with fn := f, kind := .normal } a [] with mode := .returning }) e s' rfl rfl rfl rfl (rfl : MdR ρ' .ret .returning) (st.trans (.one (stepR_end rfl)))
  | rt fr df h' =>
    obtain ⟨ρ', a, w', k', e, s', st⟩ := h1
    cases df with
    | no p => trivial
    | l df => exact fin (F := { Frame.atR { (default : Frame) with fn := f, kind := .normal } a (.code .ret :: k') with mode := .returning }) e s' rfl rfl rfl rfl (rfl : MdR ρ' .ret .returning) (st.trans (.one (stepR_ret rfl)))
  | pn c fr df h' =>
    obtain ⟨ρ', a, w', k', ch, e, s', hch, _, st⟩ := h1
    cases df with
    | no p => trivial
    | l df => exact fin (md := .pan c) e s' rfl rfl rfl rfl ⟨ch, rfl, hch⟩ st
  | ex i fr df h' => trivial
  | bad _ => trivial
end fin
/-! ### Entries -/
section ent
variable {P : Program} {T : TT} (hT : TOK T P)
/-- An environment that serves each state. -/
def OKE (P : Program) (T : TT) (E : Env) : Prop := ∀ (ro : Option (Nat × Obj)) (S : (Nat → Int) → Prop), (∀ B o, ro = some (B, o) → B = 0) → EnvOK (theLp T 1 ro S) E P T 1
/-- An entry that serves each state. -/
def OKM (P : Program) (T : TT) (f : Nat) (m : Memo) : Prop := ∀ ro : Option (Nat × Obj), (∀ B o, ro = some (B, o) → B = 0) → EntOK (theLp T 1 ro anyS) P 1 f m
include hT
theorem okm_run {E : Env} (hE : OKE P T E) {k f : Nat} {m : Memo} (hc : memoC E k f m = true) : OKM P T f m := fun ro hro => ent_of_run hT (hE ro anyS hro) hc
omit hT in
theorem oke_put {E : Env} (hE : OKE P T E) {f : Nat} {l : List Memo} (hl : ∀ m ∈ l, OKM P T f m) : OKE P T (E.put f l) := fun ro S hro => put_env hro (Nat.le_refl 1) (hE ro S hro) fun m hm => hl m hm ro hro
omit hT in
theorem oke_base (hn : P.funcs.toList.all (fun f => !(f.name == "runtime.NumGoroutine")) = true) {E : Env} (hE : E.fns = ofList (P.funcs.toList.map (cFn T 1))) (hp : E.pr = .e) : OKE P T E := fun ro S _ => env_ok hn hE hp
omit hT in
theorem oke_gc {E : Env} (hE : OKE P T E) (gc : Tr Unit) : OKE P T { E with gc := gc } := fun ro S hro => ⟨(hE ro S hro).fns, (hE ro S hro).prs⟩
/-- An entry, of which less is told than the run says. -/
theorem ent_of_LG {f : Nat} {m : Memo} {r : CR} (hsim : simCR 1000000000 (tauI []) r (m.u.cr (addH m.news m.nx m.h0)) = true) (hnew : newN (hnx m.h0).num (reach m.as m.h0) m.news = true) (hz : m.news.all (fun p => Nat.blt 0 p.1.num) = true)
    {ro : Option (Nat × Obj)} (hro : ∀ B o, ro = some (B, o) → B = 0) (hfn : ∀ ρ w (args' : Array Value), HR (theLp T 1 ro anyS) ρ m.h0 w → GR ρ 1 → VRs ρ m.as args'.toList →
      (callFunc f args').run P w = .ok (.enter f args') w ∧ ∀ cs, LG (theLp T 1 ro anyS) P f (Frame.enter P f args' .normal) cs ρ m.h0 w r) : EntOK (theLp T 1 ro anyS) P 1 f m := by
  refine ⟨hnew, fun ρ w args' hr hg ha => ?_⟩
  obtain ⟨c1, c2⟩ := hfn ρ w args' hr hg ha
  refine ⟨c1, fun cs => ?_⟩
  have hold : ∀ b, b.num < (hnx m.h0).num → ρ.blk b = none → hget b (addH m.news m.nx m.h0) = hget b m.h0 := fun b hb hn => by
    have := addN_old (t := trOf m.h0) hnew (b := b) hb (by
      cases hq : Tr.get b (reach m.as m.h0) with
      | none => rfl
      | some _ => exact absurd hn (reach_bound hr ha (by rw [hq]; simp)))
    cases hm : m.h0; rw [hm] at this; exact this
  have key : ∀ {ρ' : Rho} {h' : H} {w' : World}, Ext ρ m.h0 w ρ' h' w' → HR (theLp T 1 ro anyS) ρ' h' w' → simH 1000000000 (tauI []) h' (addH m.news m.nx m.h0) = true → Ext ρ m.h0 w ρ' (addH m.news m.nx m.h0) w' ∧ HR (theLp T 1 ro anyS) ρ' (addH m.news m.nx m.h0) w' ∧ Tell 1000000000 [] (tauI []) ρ' ρ' := by
    intro ρ' h' w' e1 e3 hs
    simp only [simH, Bool.and_eq_true] at hs
    have hnx : hnx h' = m.nx := Pth.same_iff.1 hs.2
    have ht : Tell 1000000000 [] (tauI []) ρ' ρ' := tell_id fun s t hst => tauI_val hst (fun i a b hm => by cases hm)
    have mid : HR (theLp T 1 ro anyS) ρ' (addH m.news m.nx m.h0) w' := by
      refine e3.sim ht (fun c k2 hk => ?_) hnx fun B o e => ?_
      · obtain ⟨x, hx, hxk⟩ := simT_get _ _ hs.1 c k2 hk
        refine ⟨x, ?_, hxk⟩
        cases h'; exact hx
      · obtain rfl := hro B o e
        obtain ⟨_, n, t, _, q2⟩ := hr.ro 0 o e
        refine ⟨t, ?_⟩
        show Tr.get (pth 0) (addN m.news (trOf m.h0)) = _
        rw [addN_zero hz]
        cases hm : m.h0; rw [hm] at q2; exact q2
    exact ⟨e1.he (fun b hb hn => hold b hb hn) rfl hnx, mid, ht⟩
  have := c2 cs
  generalize hu : m.u = u at hsim ⊢
  cases u with
  | ret u0 =>
    cases r with
    | pn c h' => cases hsim
    | bad _ => cases hsim
    | ret u' h' =>
      simp only [MRes.cr, simCR, Bool.and_eq_true] at hsim
      obtain ⟨ρ', v, w', F', e1, e2, e3, e4⟩ := this
      obtain ⟨k1, k2, k3⟩ := key e1 e3 hsim.2
      exact ⟨ρ', v, w', F', k1, rl_VR k3 _ _ _ hsim.1 e2, k2, e4⟩
  | pn c0 =>
    cases r with
    | ret u' h' => cases hsim
    | bad _ => cases hsim
    | pn c h' =>
      simp only [MRes.cr, simCR, Bool.and_eq_true] at hsim
      obtain ⟨ρ', v, w', F', e1, e2, e3, e4⟩ := this
      obtain ⟨k1, k2, k3⟩ := key e1 e3 hsim.2
      exact ⟨ρ', v, w', F', k1, simCh_ok k3 hsim.1 e2, k2, e4⟩
noncomputable section
/-- a run, of which less is told -/
def simC (E : Env) (k f : Nat) (m : Memo) : Bool := simCR 1000000000 (tauI []) ((runF E (k + 1)).call none (pth f) m.as m.h0) (m.u.cr (addH m.news m.nx m.h0)) && newN (hnx m.h0).num (reach m.as m.h0) m.news && m.news.all (fun p => Nat.blt 0 p.1.num)
end
theorem okm_sim {E : Env} (hE : OKE P T E) {k f : Nat} {m : Memo} (hc : simC E k f m = true) : OKM P T f m := by
  intro ro hro
  simp only [simC, Bool.and_eq_true] at hc
  obtain ⟨⟨hc, hnew⟩, hz⟩ := hc
  refine ent_of_LG hT hc hnew hz hro fun ρ w args' hr hg ha => ?_
  have hES := hE ro anyS hro
  obtain ⟨q1, q2, q3⟩ := runF_ok hT hES (fun call hc => drw_ok hT hc) k
  have hfn := fn_ok hT q1 q2 q3 hES (f := pth f) hr hg ha
  rw [pth_num] at hfn
  rcases hfn with ⟨q, hq⟩ | q
  · exfalso
    have hq : (runF E (k + 1)).call none (pth f) m.as m.h0 = .bad q := hq
    rw [hq] at hc
    cases hu : m.u <;> rw [hu] at hc <;> cases hc
  · exact q
noncomputable section
/-- a run with a loop by a hint -/
def hintR (E : Env) (k : Nat) (t : Hint) (fi : FI) (m : Memo) : CR := match fi with | .mk body res => finK E (runF E k).ex (runF E k).call res (exH (runF E k).ex t body (initFr m.as) (.l []) m.h0)
def hintC (E : Env) (k f : Nat) (t : Hint) (m : Memo) : Bool := (match Tr.get (pth f) E.fns with | some fi => simCR 1000000000 (tauI []) (hintR E k t fi m) (m.u.cr (addH m.news m.nx m.h0)) | none => false) && newN (hnx m.h0).num (reach m.as m.h0) m.news && m.news.all (fun p => Nat.blt 0 p.1.num)
end
theorem okm_hint {E : Env} (hE : OKE P T E) {k f : Nat} {t : Hint} {m : Memo} (hc : hintC E k f t m = true) : OKM P T f m := by
  intro ro hro
  simp only [hintC, Bool.and_eq_true] at hc
  obtain ⟨⟨hc, hnew⟩, hz⟩ := hc
  split at hc
  case h_2 => cases hc
  rename_i fi hfi
  refine ent_of_LG hT hc hnew hz hro fun ρ w args' hr hg ha => ?_
  have hES := hE ro anyS hro
  obtain ⟨q1, q2, q3⟩ := runF_ok hT hES (fun call hc => drw_ok hT hc) k
  have hi : ∀ S, ExS (theLp T 1 ro S) P T 1 (runF E k).ex := fun S => (runF_ok hT (hE ro S hro) (fun call hc => drw_ok hT hc) k).1
  rcases hES.fns _ _ hfi with ⟨wb, rfl⟩ | ⟨fd, cd, rd, p1, p2, p3, rfl, p5⟩
  · exfalso
    obtain ⟨q, hq⟩ := q3 wb (initFr m.as) (.l []) m.h0
    have : hintR E k t (.mk (.bad wb) []) m = .bad q := by
      show finK E (runF E k).ex (runF E k).call [] ((runF E k).ex (.bad wb) (initFr m.as) (.l []) m.h0) = _
      rw [hq]; rfl
    rw [this] at hc
    cases hu : m.u <;> rw [hu] at hc <;> cases hc
  · rw [pth_num] at p1
    refine ⟨callFunc_ok p1 p2 p5 args' w, fun cs => ?_⟩
    let b : Frame := { (default : Frame) with fn := f, kind := .normal }
    have henter : Frame.enter P f args' .normal = b.atR { tmps := args' ++ Array.replicate (fd.ntmps - args'.size) undef, defers := [] } [.code cd] := by
      simp [Frame.enter, Frame.atR, p1, p2, b]
      rfl
    have s0 : SR (theLp T 1 ro anyS) 1 fd.ntmps ρ (initFr m.as) (.l []) m.h0 b.roundOf { tmps := args' ++ Array.replicate (fd.ntmps - args'.size) undef, defers := [] } w := ⟨hr, hg, initFr_ok ha _, rfl, rfl⟩
    have h1 := exH_ok hT (Nat.le_refl 1) hro hi (S := anyS) t fd.ntmps cd b [] cs ρ (initFr m.as) (.l []) m.h0 _ w s0
    rw [← henter] at h1
    have := fin_ok hT q1 q2 q3 hES p1 p3 (b := b) rfl h1
    show LG _ _ _ _ _ _ _ _ (finK E (runF E k).ex (runF E k).call rd (exH (runF E k).ex t (cCode T 1 fd.ntmps cd) (initFr m.as) (.l []) m.h0))
    generalize finK E (runF E k).ex (runF E k).call rd (exH (runF E k).ex t (cCode T 1 fd.ntmps cd) (initFr m.as) (.l []) m.h0) = cr at this
    cases cr <;> exact this
end ent

/-! ### The spine of a function's code -/
noncomputable section
def spineA (ex : EX) : Nat → FC → Fr → H → Option (Fr × H)
  | 0, _, fr, h => some (fr, h)
  | n + 1, .seq a b, fr, h => (match ex a fr (.l []) h with | .nrm fr (.l []) h => spineA ex n b fr h | _ => none)
  | _ + 1, _, _, _ => none
def spineC : Nat → FC → FC
  | 0, c => c
  | n + 1, .seq _ b => spineC n b
  | _ + 1, _ => .bad 0
end
theorem spine_ok {L : Lp} {P : Program} {T : TT} {g : Nat} {ex : EX} (hi : ExC L P T g ex) {m : Nat} : ∀ (n : Nat) (c : Code) (b : Frame) (k : List Item) (cs : List Frame) (ρ : Rho) (fr : Fr) (h : H) (a : Act) (w : World) (fr' : Fr) (h' : H),
    SR L g m ρ fr (.l []) h b.roundOf a w → spineA ex n (cCode T g m c) fr h = some (fr', h') →
    ∃ c' ρ' a' w', spineC n (cCode T g m c) = cCode T g m c' ∧ Ext ρ h w ρ' h' w' ∧ SR L g m ρ' fr' (.l []) h' b.roundOf a' w' ∧ Steps P (lone (b.atR a (.code c :: k)) cs w) (lone (b.atR a' (.code c' :: k)) cs w')
  | 0, c, b, k, cs, ρ, fr, h, a, w, fr', h', s, e => by
    cases e
    exact ⟨c, ρ, a, w, rfl, .refl _ _ _, s, .refl _ _⟩
  | n + 1, c, b, k, cs, ρ, fr, h, a, w, fr', h', s, e => by
    cases c with
    | seq x y =>
      have e : (match ex (cCode T g m x) fr (.l []) h with | .nrm fr (.l []) h => spineA ex n (cCode T g m y) fr h | _ => none) = some (fr', h') := e
      have h1 := hi m x b (.code y :: k) cs ρ fr (.l []) h a w s
      generalize ex (cCode T g m x) fr (.l []) h = r at e h1
      split at e
      · obtain ⟨ρ1, a1, w1, e1, s1, st1⟩ := h1
        obtain ⟨c', ρ', a', w', q1, q2, q3, q4⟩ := spine_ok hi n y b k cs ρ1 _ _ a1 w1 fr' h' s1 e
        exact ⟨c', ρ', a', w', q1, e1.trans q2, q3, (Steps.one stepR_seq).trans (st1.trans q4)⟩
      · cases e
    | cond c x y => exfalso; simp only [cCode] at e; split at e <;> cases e
    | region id ops draw =>
      exfalso
      cases draw with
      | false => cases e
      | true => simp only [cCode] at e; dsimp only [cDrw] at e; split at e <;> cases e
    | rangeFunc f ps x y => exfalso; simp only [cCode] at e; split at e <;> cases e
    | skip => cases e
    | block id x => cases e
    | loop x => cases e
    | exit i => cases e
    | scope x => cases e
    | label l => cases e
    | goto l => cases e
    | ret => cases e
    | refuse y => cases e
/-- The memory at the start. -/
theorem start_ok {T : TT} {S : (Nat → Int) → Prop} {l : List AV} {ys : List Value} (hl : ∀ ρ, VRs ρ l ys) (ho : l.all oneC = true) {W : World} {c : Array Value} {e : TypeId} {fz : Nat × Nat} (h0 : W.heap[0]? = some (.cells c e fz)) (hc : c.toList = ys) {sy : Nat → Int} (hS : S sy) :
    HR (theLp T 1 (some (0, .cells c e fz)) S) ⟨fun p => if p = pth 0 then some (0, 0, c.size) else none, sy⟩ (hG l) W ∧ GR ⟨fun p => if p = pth 0 then some (0, 0, c.size) else none, sy⟩ 1 := by
  generalize hρe : (⟨fun p => if p = pth 0 then some (0, 0, c.size) else none, sy⟩ : Rho) = ρ
  have hρ : ∀ p x, ρ.blk p = some x → p = pth 0 ∧ x = (0, 0, c.size) := fun p x hp => by
    subst hρe
    by_cases hq : p = pth 0
    · have hp : (if p = pth 0 then some (0, 0, c.size) else none) = some x := hp
      rw [if_pos hq] at hp; cases hp; exact ⟨hq, rfl⟩
    · have hp : (if p = pth 0 then some (0, 0, c.size) else none) = some x := hp
      rw [if_neg hq] at hp; cases hp
  have hρ0 : ρ.blk (pth 0) = some (0, 0, c.size) := by subst hρe; show (if pth 0 = pth 0 then some (0, 0, c.size) else none) = _; rw [if_pos rfl]
  have hsy : ρ.sy = sy := by subst hρe; rfl
  have hget0 : hget (pth 0) (hG l) = some (Bk.ro (putL l 0 .e)) := by
    show Tr.get (pth 0) (Tr.set (pth 0) (some (Bk.ro (putL l 0 .e))) .e) = _
    exact Tr.get_set_same _ _ _
  have hgetn : ∀ p, p ≠ pth 0 → hget p (hG l) = none := fun p hp => by
    show Tr.get p (Tr.set (pth 0) (some (Bk.ro (putL l 0 .e))) .e) = _
    rw [Tr.get_set_ne hp, Tr.get_e]
  have hnx : (hnx (hG l)).num = 1 := pth_num 1
  have hsz : 0 < W.heap.size := (Array.getElem?_eq_some_iff.1 h0).1
  have hbk : BkR (theLp T 1 (some (0, .cells c e fz)) S) ρ (0, 0, c.size) (.ro (putL l 0 .e)) (.cells c e fz) := by
    refine ⟨c, e, fz, rfl, rfl, fun p v hp => ?_⟩
    rw [get_putL] at hp
    by_cases hq : 0 ≤ p.num ∧ p.num < 0 + l.length
    · rw [if_pos hq] at hp
      have hp : l[p.num]? = some v := by simpa using hp
      refine ⟨List.all_eq_true.1 ho v (List.mem_of_getElem? hp), ?_⟩
      obtain ⟨y, hy, hvy⟩ := (hl ρ).get _ hp
      refine ⟨y, ?_, hvy⟩
      rw [← hc] at hy
      simpa using hy
    · rw [if_neg hq, Tr.get_e] at hp; cases hp
  refine ⟨⟨fun p x kk hp hk => ?_, fun p p' x x' hp hp' _ _ _ => ?_, fun p x hp => ?_, fun p hp => ?_, fun B o e => ?_, by rw [hsy]; exact hS⟩, fun i hi => ?_⟩
  · obtain ⟨rfl, rfl⟩ := hρ p x hp
    rw [hget0] at hk; cases hk
    exact ⟨_, h0, hbk⟩
  · rw [(hρ p x hp).1, (hρ p' x' hp').1]
  · obtain ⟨rfl, rfl⟩ := hρ p x hp
    exact ⟨hsz, by rw [hnx, pth_num]; exact Nat.one_pos⟩
  · refine hgetn p fun e => ?_
    rw [e, hnx, pth_num] at hp; omega
  · cases e
    exact ⟨h0, c.size, _, hρ0, hget0⟩
  · obtain rfl : i = 0 := by omega
    exact ⟨_, hρ0⟩
noncomputable section
def okCut (r : Option (Fr × H)) (n : Nat) (ps : List (Pth × Pth)) (frX : Fr) (hX : H) : Bool := match r with | some (fr, h) => okRn n ps sameSI fr h frX hX | none => false
def fiOf (E : Env) (f : Nat) : Option FI := Tr.get (pth f) E.fns
def cutC (E : Env) (k f n : Nat) (ps : List (Pth × Pth)) (as : List AV) (l : List AV) (frX : Fr) (hX : H) : Bool := match Tr.get (pth f) E.fns with
  | some fi => (match fi with | .mk body _ => okCut (spineA (runF E k).ex n body (initFr as) (hG l)) 1 ps frX hX)
  | none => false
def restC (E : Env) (k f n : Nat) (frX : Fr) (hX : H) : Bool := match Tr.get (pth f) E.fns with
  | some fi => (match fi with | .mk body res => isTrueR (finK E (runF E k).ex (runF E k).call res ((runF E k).ex (spineC n body) frX (.l []) hX)))
  | none => false
end
/-- A LAW, IN TWO RUNS: up to a cut, whence the state is told anew, and from there on. -/
theorem law3 {P : Program} {T : TT} (hT : TOK T P) {l : List AV} {ys : List Value} (hl : ∀ ρ, VRs ρ l ys) (ho : l.all oneC = true) {W : World} {c : Array Value} {e : TypeId} {fz : Nat × Nat} (h0 : W.heap[0]? = some (.cells c e fz)) (hc : c.toList = ys)
    {sy : Nat → Int} {EA EB : Env} (hEA : ∀ ro, (∀ B o, ro = some (B, o) → B = 0) → EnvOK (theLp T 1 ro (fun y => y = sy)) EA P T 1) (hEB : ∀ ro, (∀ B o, ro = some (B, o) → B = 0) → EnvOK (theLp T 1 ro (fun y => y = sy)) EB P T 1) (hfns : EB.fns = EA.fns)
    {kA kB F n : Nat} {ps : List (Pth × Pth)} {frX : Fr} {hX : H} (hA : cutC EA kA F n ps [.sym (argI 0), .sym (argI 1)] l frX hX = true) (hB : restC EB kB F n frX hX = true)
    {a b : Int} (ha1 : -9223372036854775808 ≤ a) (ha2 : a ≤ 9223372036854775807) (hb1 : -9223372036854775808 ≤ b) (hb2 : b ≤ 9223372036854775807) (hs0 : sy 0 = a) (hs1 : sy 1 = b) :
    Calls P F #[.int .i64 a, .int .i64 b] W fun e w' => e = .returned (.bool true) ∧ KeptAll W w' := by
  intro cs
  have hro : ∀ B o, (some (0, Obj.cells c e fz) : Option (Nat × Obj)) = some (B, o) → B = 0 := fun B o e => by cases e; rfl
  obtain ⟨hr0, hg0⟩ := start_ok (T := T) (S := fun y => y = sy) hl ho h0 hc (sy := sy) rfl
  generalize hρ0 : (⟨fun p => if p = pth 0 then some (0, 0, c.size) else none, sy⟩ : Rho) = ρ0 at hr0 hg0
  have hsy0 : ρ0.sy = sy := by subst hρ0; rfl
  have hblk0 : ∀ p x, ρ0.blk p = some x → x.1 = 0 := fun p x hp => by
    subst hρ0
    have hp : (if p = pth 0 then some (0, 0, c.size) else none) = some x := hp
    split at hp
    · cases hp; rfl
    · cases hp
  have hsa : (argI 0).val ρ0.sy = a := by rw [hsy0, argI_val (x := sy) (by rw [hs0]; exact ha1) (by rw [hs0]; exact ha2)]; exact hs0
  have hsb : (argI 1).val ρ0.sy = b := by rw [hsy0, argI_val (x := sy) (by rw [hs1]; exact hb1) (by rw [hs1]; exact hb2)]; exact hs1
  have ha : VRs ρ0 [.sym (argI 0), .sym (argI 1)] (#[Value.int .i64 a, .int .i64 b] : Array Value).toList :=
    ⟨_, _, rfl, (by show Value.int .i64 a = .int .i64 ((argI 0).val ρ0.sy); rw [hsa]), _, _, rfl, (by show Value.int .i64 b = .int .i64 ((argI 1).val ρ0.sy); rw [hsb]), rfl⟩
  have hEA' := hEA _ hro
  have hEB' := hEB _ hro
  obtain ⟨qa1, _, _⟩ := runF_ok hT hEA' (fun call hc => drw_ok hT hc) kA
  obtain ⟨qb1, qb2, qb3⟩ := runF_ok hT hEB' (fun call hc => drw_ok hT hc) kB
  unfold cutC at hA
  unfold restC at hB
  rw [hfns] at hB
  split at hA
  case h_2 => cases hA
  rename_i fi hfi
  rw [hfi] at hB
  rcases hEA'.fns _ _ hfi with ⟨wb, rfl⟩ | ⟨fd, cd, rd, p1, p2, p3, rfl, p5⟩
  · exfalso
    cases n with
    | zero =>
      obtain ⟨q, hq⟩ := qb3 wb frX (.l []) hX
      have hB : isTrueR (finK EB (runF EB kB).ex (runF EB kB).call [] ((runF EB kB).ex (.bad wb) frX (.l []) hX)) = true := hB
      rw [hq] at hB; cases hB
    | succ n => cases hA
  rw [pth_num] at p1
  have hA : okCut (spineA (runF EA kA).ex n (cCode T 1 fd.ntmps cd) (initFr [.sym (argI 0), .sym (argI 1)]) (hG l)) 1 ps frX hX = true := hA
  have hB : isTrueR (finK EB (runF EB kB).ex (runF EB kB).call rd ((runF EB kB).ex (spineC n (cCode T 1 fd.ntmps cd)) frX (.l []) hX)) = true := hB
  let fb : Frame := { (default : Frame) with fn := F, kind := .normal }
  have henter : Frame.enter P F #[.int .i64 a, .int .i64 b] .normal = fb.atR { tmps := #[.int .i64 a, .int .i64 b] ++ Array.replicate (fd.ntmps - (#[.int .i64 a, .int .i64 b] : Array Value).size) undef, defers := [] } [.code cd] := by
    simp [Frame.enter, Frame.atR, p1, p2, fb]
    rfl
  have s0 : SR (theLp T 1 (some (0, .cells c e fz)) (fun y => y = sy)) 1 fd.ntmps ρ0 (initFr [.sym (argI 0), .sym (argI 1)]) (.l []) (hG l) fb.roundOf { tmps := #[.int .i64 a, .int .i64 b] ++ Array.replicate (fd.ntmps - (#[.int .i64 a, .int .i64 b] : Array Value).size) undef, defers := [] } W := ⟨hr0, hg0, initFr_ok ha _, rfl, rfl⟩
  unfold okCut at hA
  split at hA
  case h_2 => cases hA
  rename_i fr1 h1 hsp
  obtain ⟨c', ρ1, a1, w1, z1, e1, s1, st1⟩ := spine_ok (P := P) qa1.code n cd fb [] cs ρ0 _ (hG l) _ W fr1 h1 s0 hsp
  have sX := s1.rn (S := fun y => y = sy) (sy := sy) (Nat.le_refl 1) hA (fun s t hst => by
    rw [e1.le.sy, hsy0]
    simp only [sameSI, Bool.and_eq_true, decide_eq_true_eq] at hst
    have := SI.same_val hst.1 sy
    omega) hro rfl
  have A1 : Acc ρ0 W 1 ρ1 w1 := by
    have := (Acc.refl hr0).step e1 (Nat.le_refl _)
    rw [show (hnx (hG l)).num = 1 from pth_num 1] at this
    exact this
  have okp : okPs 1 ps = true := by simp only [okRn, Bool.and_eq_true] at hA; exact hA.1.1.1.1.1.1
  have hnX : 1 ≤ (hnx hX).num := by simp only [okRn, Bool.and_eq_true] at hA; exact Nat.le_of_ble_eq_true hA.1.1.1.1.2
  have AX := A1.rn (Nat.le_refl 1) okp sy
  have rB := qb1.code fd.ntmps c' fb [] cs (ρ1.rn 1 ps sy) frX (.l []) hX a1 w1 sX
  rw [z1] at hB
  have fB := fin_ok hT qb1 qb2 qb3 hEB' p1 p3 (b := fb) rfl rB
  generalize finK EB (runF EB kB).ex (runF EB kB).call rd ((runF EB kB).ex (cCode T 1 fd.ntmps c') frX (.l []) hX) = cr at hB fB
  cases cr with
  | pn c h => cases hB
  | bad _ => cases hB
  | ret u h' =>
    have hu : u = .bool true := by cases u <;> first | (cases hB; done) | skip; rename_i z; cases z <;> first | (cases hB; done) | rfl
    subst hu
    obtain ⟨ρ', v, w', F', g1, g2, g3, g4, g5, g6⟩ := fB
    have hv : v = .bool true := g2
    subst hv
    have AE := AX.step g1 hnX
    refine ⟨.returned (.bool true), w', F', ⟨rfl, AE.os, AE.out, AE.size, fun B hB => ?_⟩, ?_, g5, g6⟩
    · by_cases hB0 : B = 0
      · subst hB0
        rw [(g3.ro 0 _ rfl).1, h0]
      · exact AE.keep B hB fun p x hp e => hB0 (by rw [← e]; exact hblk0 p x hp)
    · rw [henter]; exact st1.trans g4
end Go.Kx
