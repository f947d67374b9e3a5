/- A verified evaluator of the model, that the kernel runs: part 3 of 6. Conditions: none. -/
import Derived.Test.YtibhfcbgmlhojaaGreatDoorK2
import Derived.RangeFuncRecord
import Derived.RangeFuncIn
import Derived.RangeFuncNested
import Derived.Recover
import Derived.Orders
set_option linter.unusedVariables false
set_option linter.unusedSimpArgs false
set_option linter.unusedSectionVars false
/- Regions in their order; code. -/
namespace Go.Kx
theorem gB_ok {g : Nat} {o : Operand} (h : gB g o = true) : gOK g o := by
  cases o <;> first | trivial | exact Nat.le_of_ble_eq_true h
def asB : Value → Option Bool | .bool b => some b | _ => none
theorem told_ok {ρ : Rho} {v : AV} {x : Value} (h : VR ρ v x) (p : Pth) (w : Bool) : gTold (p, w) v = (asB x == some w) := by
  cases v with
  | bool b => cases h; cases b <;> cases w <;> rfl
  | agg cs => obtain ⟨x, rfl, _⟩ := h; rfl
  | tup vs => obtain ⟨x, rfl, _⟩ := h; rfl
  | int k z => obtain ⟨hz, rfl⟩ := h; rfl
  | sym i => cases h; rfl
  | flt k b => cases h; rfl
  | str l z => obtain ⟨s, rfl, h⟩ := h; rfl
  | ptr b o => obtain ⟨x, hx, rfl⟩ := h; rfl
  | nilp => cases h; rfl
  | sl b o len lb ex es => obtain ⟨x, off, cap, hx, rfl, h⟩ := h; rfl
  | nils => cases h; rfl
  | mp b => obtain ⟨x, hx, rfl⟩ := h; rfl
  | nilm => cases h; rfl
  | fn f x c => obtain ⟨a', c', rfl, h⟩ := h; rfl
  | yld b => obtain ⟨x, hx, rfl⟩ := h; rfl
  | nilf => cases h; rfl
  | ifc t x => obtain ⟨y, rfl, h⟩ := h; rfl
  | sls b s es => obtain ⟨x, off, cap, hx, rfl, h⟩ := h; rfl
  | nili => cases h; rfl
section steps
variable {L : Lp} {P : Program} {T : TT} {g n : Nat} (hT : TOK T P) {b : Frame} {k kk : List Item} {cs : List Frame} {ops : Array Oper}
include hT
/-- An operation that is not wanted. -/
theorem st_skip {call : CallF} {ih : KK} {i : Nat} {rest : List Nat} {o : Oper} (ho : ops[i]? = some o) {d : Option Pth} (hd : cDst n o.dst = some d)
    {ρ : Rho} {fr : Fr} {df : Df} {h : H} {a : Act} {w : World} (s : SR L g n ρ fr df h b.roundOf a w)
    (hw : Region.wanted o (yielded ops a.tmps) = false) (hk : KOK L P g n b kk k cs ops rest call ih ρ h w) :
    RG L P g n b kk cs (lone (b.atR a (.inRegion ops (i :: rest) :: k)) cs w) ρ h w (ih call (setd d undefA fr) df h) := by
  have hs := stepR_op_skip (P := P) (b := b) (a := a) (k := k) (cs := cs) (w := w) (ops := ops) (i := i) (rest := rest) (by rw [ho]; simpa using hw)
  rw [ho] at hs
  exact RG.head (.refl _ _ _) (.one hs) (hk ρ _ w _ _ _ (.refl _ _ _) (s.put hT (.refl _ _ _) s.hr hd (v := undef) ⟨#[], rfl, rfl⟩))
/-- A guard. -/
theorem guard_ok {ρ : Rho} {fr : Fr} {tmps : Array Value} (hf : FrR ρ n fr tmps) {o : Oper} {j : Nat} {want : Bool} (hg : o.guard = some (j, want)) {pw : Pth × Bool} (hc : cGuard ops (some (j, want)) = some (some pw))
    {v : AV} (hv : Tr.get pw.1 fr = some v) : Region.wanted o (yielded ops tmps) = gTold pw v := by
  simp only [cGuard] at hc
  split at hc
  · rename_i q hq
    split at hc
    · rename_i dd hdd
      cases hc
      obtain ⟨x, hx, hvx⟩ := hf.slot _ _ hv
      rw [pth_num] at hx
      rw [told_ok hvx]
      have : yielded ops tmps j = asB x := by
        unfold yielded
        rw [hq]
        simp only [Option.bind_some, hdd, hx]
        cases x <;> rfl
      unfold Region.wanted
      rw [hg]
      simp only [this]
    · cases hc
  · cases hc
theorem st_F {call : CallF} (hc : CallS L P g call) {ih : KK} {i : Nat} {rest : List Nat} {o : Oper} (ho : ops[i]? = some o)
    {ρ : Rho} {fr : Fr} {df : Df} {h : H} {a : Act} {w : World} (s : SR L g n ρ fr df h b.roundOf a w) (hk : KOK L P g n b kk k cs ops rest call ih ρ h w) :
    RG L P g n b kk cs (lone (b.atR a (.inRegion ops (i :: rest) :: k)) cs w) ρ h w (stepF (cStep T g n ops o) ih call fr df h) := by
  unfold cStep
  split
  · rename_i d gd hd hgd
    split
    · rename_i hall
      have hgo : ∀ x ∈ o.op.operands, gOK g x := fun x hx => gB_ok (List.all_eq_true.1 hall x (by simpa using hx))
      have hx : ∀ x ∈ o.op.operands, EvR ρ fr (cX x) (a.eval x) := fun x hx => ev_cX s.fr s.gr x (hgo x hx)
      cases hg : o.guard with
      | none =>
        rw [hg] at hgd; cases hgd
        exact st_go hT hc ho hd hgo s hx (by unfold Region.wanted; rw [hg]) hk
      | some jw =>
        obtain ⟨j, want⟩ := jw
        rw [hg] at hgd
        cases gd with
        | none =>
          simp only [cGuard] at hgd
          split at hgd
          · split at hgd <;> cases hgd
          · cases hgd
        | some pw =>
          show RG _ _ _ _ _ _ _ _ _ _ _ (optK (Tr.get pw.1 fr) (.bad 301) fun v => ifB (gTold pw v) (stepGo d (cOp T o.op) ih call fr df h) (ih call (setd d undefA fr) df h))
          rcases optK_cases (Tr.get pw.1 fr) (R.bad 301) (fun v => ifB (gTold pw v) (stepGo d (cOp T o.op) ih call fr df h) (ih call (setd d undefA fr) df h)) with ⟨v, hv, e⟩ | ⟨_, e⟩ <;> rw [e]
          · have hw := guard_ok (o := o) hT s.fr hg hgd hv
            rcases ifB_cases (gTold pw v) (stepGo d (cOp T o.op) ih call fr df h) (ih call (setd d undefA fr) df h) with ⟨e1, e2⟩ | ⟨e1, e2⟩ <;> rw [e2]
            · exact st_go hT hc ho hd hgo s hx (hw.trans e1) hk
            · exact st_skip hT ho hd s (hw.trans e1) hk
          · trivial
    · trivial
  · trivial
/-- The operations of a region, in their order, from one on. -/
theorem seq_ok {call : CallF} (hc : CallS L P g call) : ∀ (m i : Nat) (ρ : Rho) (fr : Fr) (df : Df) (h : H) (a : Act) (w : World), i + m = ops.size → SR L g n ρ fr df h b.roundOf a w →
    RG L P g n b k cs (lone (b.atR a (.inRegion ops (List.range' i m) :: k)) cs w) ρ h w (execK (cSteps T g n ops (ops.toList.drop i)) execL0 call fr df h)
  | 0, i, ρ, fr, df, h, a, w, hi, s => by
    rw [List.drop_eq_nil_of_le (by simp; omega)]
    exact ⟨ρ, a, w, .refl _ _ _, s, .one stepR_region_end⟩
  | m + 1, i, ρ, fr, df, h, a, w, hi, s => by
    have hlt : i < ops.size := by omega
    rw [List.drop_eq_getElem_cons (by simpa using hlt)]
    have ho : ops[i]? = some ops[i] := Array.getElem?_eq_getElem hlt
    show RG _ _ _ _ _ _ _ _ _ _ _ (stepF (cStep T g n ops ops.toList[i]) (execK (cSteps T g n ops (ops.toList.drop (i + 1))) execL0) call fr df h)
    rw [Array.getElem_toList]
    exact st_F hT hc ho s fun ρ' a' w' fr' df' h' e s' => seq_ok hc m (i + 1) ρ' fr' df' h' a' w' (by omega) s'
theorem reg_ok {call : CallF} (hc : CallS L P g call) {id : Nat} {ρ : Rho} {fr : Fr} {df : Df} {h : H} {a : Act} {w : World} (s : SR L g n ρ fr df h b.roundOf a w) :
    RG L P g n b k cs (lone (b.atR a (.code (.region id ops false) :: k)) cs w) ρ h w (execL (cSteps T g n ops ops.toList) call fr df h) := by
  refine RG.head (.refl _ _ _) (.one stepR_region) ?_
  rw [List.range_eq_range']
  exact seq_ok hT hc ops.size 0 ρ fr df h a w (by simp) s
end steps

/-! ### Code -/
/-- Code is sound. -/
def ExC (L : Lp) (P : Program) (T : TT) (g : Nat) (ex : EX) : Prop := ∀ (n : Nat) (c : Code) (b : Frame) (k : List Item) (cs : List Frame) (ρ : Rho) (fr : Fr) (df : Df) (h : H) (a : Act) (w : World),
  SR L g n ρ fr df h b.roundOf a w → RG L P g n b k cs (lone (b.atR a (.code c :: k)) cs w) ρ h w (ex (cCode T g n c) fr df h)
/-- So is a loop behind a round. -/
def ExL (L : Lp) (P : Program) (T : TT) (g : Nat) (ex : EX) : Prop := ∀ (n : Nat) (c : Code) (b : Frame) (k : List Item) (cs : List Frame) (ρ : Rho) (fr : Fr) (df : Df) (h : H) (a : Act) (w : World),
  SR L g n ρ fr df h b.roundOf a w → RG L P g n b k cs (lone (b.atR a (.inLoop c :: k)) cs w) ρ h w (ex (.lop (cCode T g n c)) fr df h)
structure ExS (L : Lp) (P : Program) (T : TT) (g : Nat) (ex : EX) : Prop where
  code : ExC L P T g ex
  loop : ExL L P T g ex
/-- Drawn regions are sound. -/
def DrS (L : Lp) (P : Program) (T : TT) (g : Nat) (call : CallF) : Prop := ∀ (n id : Nat) (ops : Array Oper) (b : Frame) (k : List Item) (cs : List Frame) (ρ : Rho) (fr : Fr) (df : Df) (h : H) (a : Act) (w : World) (fd : List Pth) (p : List FSt) (l : List FSeg) (ds : List Pth),
  cDrw T g n ops = .drw fd p l ds → SR L g n ρ fr df h b.roundOf a w → RG L P g n b k cs (lone (b.atR a (.code (.region id ops true) :: k)) cs w) ρ h w (drwK ds (execK p (execS l) call (eraseL fd fr) df h))
/-- Loops over functions are sound. -/
def RfS (L : Lp) (P : Program) (T : TT) (g : Nat) (ih : EX) (call : CallF) : Prop := ∀ (n : Nat) (f : Operand) (ps : Array Tmp) (x y : Code) (b : Frame) (k : List Item) (cs : List Frame) (ρ : Rho) (fr : Fr) (df : Df) (h : H) (a : Act) (w : World),
  gB g f = true → (∀ t ∈ ps, t < n) → SR L g n ρ fr df h b.roundOf a w →
  RG L P g n b k cs (lone (b.atR a (.code (.rangeFunc f ps x y) :: k)) cs w) ρ h w (xRf (cX f) (ps.toList.map pth) (cCode T g n x) (cCode T g n y) ih call fr df h)
theorem exit_one {id : Nat} {k : List Item} {i : Nat} (h : id ≠ i) : exitTo i (.inBlock id :: k) = exitTo i k := by simp [exitTo, h]
section code
variable {L : Lp} {P : Program} {T : TT} {g : Nat} (hT : TOK T P)
include hT
theorem lop_ok {ih : EX} (hi : ExS L P T g ih) {n : Nat} {x : Code} {b : Frame} {k : List Item} {cs : List Frame} {ρ : Rho} {fr : Fr} {df : Df} {h : H} {a : Act} {w : World} (s : SR L g n ρ fr df h b.roundOf a w) :
    RG L P g n b k cs (lone (b.atR a (.code x :: .inLoop x :: k)) cs w) ρ h w (seqK (ih (cCode T g n x) fr df h) (.lop (cCode T g n x)) ih) := by
  have h1 := hi.code n x b (.inLoop x :: k) cs ρ fr df h a w s
  generalize ih (cCode T g n x) fr df h = r at h1
  cases r with
  | nrm fr' df' h' => obtain ⟨ρ', a', w', e, s', st⟩ := h1; exact RG.head e st (hi.loop n x b k cs ρ' fr' df' h' a' w' s')
  | ex i fr' df' h' => obtain ⟨ρ', a', w', k', e, s', q, st⟩ := h1; exact ⟨ρ', a', w', k', e, s', q, st⟩
  | rt fr' df' h' => exact h1
  | pn c fr' df' h' => exact h1
  | bad _ => trivial
theorem ex_ok {ih : EX} (hi : ExS L P T g ih) {call : CallF} (hc : CallS L P g call) (hd : DrS L P T g call) (hf : RfS L P T g ih call) : ExS L P T g (fun c => xDisp c ih call) := by
  refine ⟨?_, fun n x b k cs ρ fr df h a w s => RG.head (.refl _ _ _) (.one stepR_inLoop) (lop_ok hT hi s)⟩
  intro n c b k cs ρ fr df h a w s
  cases c with
  | skip => exact ⟨ρ, a, w, .refl _ _ _, s, .one stepR_skip⟩
  | region id ops draw =>
    cases draw with
    | false => exact reg_ok hT hc s
    | true =>
      show RG _ _ _ _ _ _ _ _ _ _ _ (xDisp (cDrw T g n ops) ih call fr df h)
      generalize hq : cDrw T g n ops = q
      cases q with
      | drw fd p l ds => exact hd n id ops b k cs ρ fr df h a w fd p l ds hq s
      | bad _ => trivial
      | _ => dsimp only [cDrw] at hq; split at hq <;> cases hq
  | seq x y =>
    refine RG.head (.refl _ _ _) (.one stepR_seq) ?_
    show RG _ _ _ _ _ _ _ _ _ _ _ (seqK (ih (cCode T g n x) fr df h) (cCode T g n y) ih)
    have h1 := hi.code n x b (.code y :: k) cs ρ fr df h a w s
    generalize ih (cCode T g n x) fr df h = r at h1
    cases r with
    | nrm fr' df' h' => obtain ⟨ρ', a', w', e, s', st⟩ := h1; exact RG.head e st (hi.code n y b k cs ρ' fr' df' h' a' w' s')
    | ex i fr' df' h' => obtain ⟨ρ', a', w', k', e, s', q, st⟩ := h1; exact ⟨ρ', a', w', k', e, s', q, st⟩
    | rt fr' df' h' => exact h1
    | pn c fr' df' h' => exact h1
    | bad _ => trivial
  | cond c x y =>
    unfold cCode
    split
    · rename_i hg
      show RG _ _ _ _ _ _ _ _ _ _ _ (cndK (ev (cX c) fr) (cCode T g n x) (cCode T g n y) ih fr df h)
      have hev := ev_cX s.fr s.gr c (gB_ok hg)
      cases hv : ev (cX c) fr with
      | none => trivial
      | some v =>
        have hv' := hev v hv
        cases v <;> try exact trivial
        rename_i t
        have hv' : a.eval c = .bool t := hv'
        cases t
        · exact RG.head (.refl _ _ _) (.one (stepR_cond hv')) (hi.code n y b k cs ρ fr df h a w s)
        · exact RG.head (.refl _ _ _) (.one (stepR_cond hv')) (hi.code n x b k cs ρ fr df h a w s)
    · trivial
  | block id x =>
    refine RG.head (.refl _ _ _) (.one stepR_block) ?_
    show RG _ _ _ _ _ _ _ _ _ _ _ (blkK id (ih (cCode T g n x) fr df h))
    have h1 := hi.code n x b (.inBlock id :: k) cs ρ fr df h a w s
    generalize ih (cCode T g n x) fr df h = r at h1
    cases r with
    | nrm fr' df' h' => obtain ⟨ρ', a', w', e, s', st⟩ := h1; exact ⟨ρ', a', w', e, s', st.trans (.one stepR_inBlock)⟩
    | ex i fr' df' h' =>
      obtain ⟨ρ', a', w', k', e, s', q, st⟩ := h1
      show RG _ _ _ _ _ _ _ _ _ _ _ (match Nat.beq id i with | true => R.nrm fr' df' h' | false => .ex i fr' df' h')
      split
      · rename_i hq
        obtain rfl := Nat.eq_of_beq_eq_true hq
        exact ⟨ρ', a', w', e, s', st.trans (.one (stepR_exit (by rw [q]; simp [exitTo])))⟩
      · rename_i hq
        exact ⟨ρ', a', w', k', e, s', by rw [q, exit_one (fun e => by subst e; simp at hq)], st⟩
    | rt fr' df' h' => exact h1
    | pn c fr' df' h' => exact h1
    | bad _ => trivial
  | loop x =>
    refine RG.head (.refl _ _ _) (.one stepR_loop) ?_
    show RG _ _ _ _ _ _ _ _ _ _ _ (seqK (ih (cCode T g n x) fr df h) (cCode T g n (.loop x)) ih)
    exact lop_ok hT hi s
  | exit i => exact ⟨ρ, a, w, k, .refl _ _ _, s, rfl, .refl _ _⟩
  | ret => exact ⟨ρ, a, w, k, .refl _ _ _, s, .refl _ _⟩
  | rangeFunc f ps x y =>
    unfold cCode
    split
    · rename_i hg
      simp only [Bool.and_eq_true, List.all_eq_true] at hg
      exact hf n f ps x y b k cs ρ fr df h a w hg.1 (fun t ht => Nat.le_of_ble_eq_true (hg.2 t (by simpa using ht))) s
    · trivial
  | scope x => trivial
  | label l => trivial
  | goto l => trivial
  | refuse y => trivial
end code
end Go.Kx

/- Loops over functions. -/
namespace Go.Kx

/-- How a loop's record stands. -/
def peR (pe : Option (Option Nat)) (r : Loop) : Prop := match pe with
  | none => r.state = .ready ∧ r.pending = none
  | some none => r.state = .done ∧ r.pending = some .ret
  | some (some i) => if i = 1000000000 then r.state = .busy else r.state = .done ∧ r.pending = some (.exit i)
/-- A loop's record. -/
def lpRel (T : TT) (g : Nat) (ρ : Rho) (fr : Fr) (ps : List Pth) (a b : FC) (pe : Option (Option Nat)) (o : Obj) : Prop :=
  ∃ n r, o = .loop r ∧ FrR ρ n fr r.tmps ∧ ps = r.params.toList.map pth ∧ (∀ t ∈ r.params, t < n) ∧ a = cCode T g n r.assign ∧ b = cCode T g n r.body ∧ peR pe r
def theLp (T : TT) (g : Nat) (ro : Option (Nat × Obj)) (S : (Nat → Int) → Prop) : Lp := ⟨lpRel T g, fun h fr ps a b pe o ⟨n, r, h1, h2, h3⟩ => ⟨n, r, h1, h2.mono h, h3⟩, ro, S⟩

section strike
variable {L : Lp} {ρ : Rho} {h : H} {w w' : World}
/-- A block is struck, while it is turned in the model. -/
theorem HR.strike (hr : HR L ρ h w) {b x k} (hb : ρ.blk b = some x) (hk : hget b h = some k) (hoth : ∀ B, B ≠ x.1 → w'.heap[B]? = w.heap[B]?) (hsz : w'.heap.size = w.heap.size) (hro : ∀ t, k ≠ .ro t := by intro _ h; cases h) :
    HR L ρ (hset b none h) w' where
  sy := hr.sy
  ro := fun B o e => by
    obtain ⟨h1, h2⟩ := hr.ro_ne hb hk hro e
    obtain ⟨q0, n, t, q1, q2⟩ := hr.ro B o e
    exact ⟨by rw [hoth B (Ne.symm h2)]; exact q0, n, t, q1, by rw [hget_hset_ne h1]; exact q2⟩
  blk := fun c y j hc hj => by
    by_cases hcb : c = b
    · subst hcb; rw [hget_hset_same] at hj; cases hj
    · rw [hget_hset_ne hcb] at hj
      obtain ⟨o, h1, h2⟩ := hr.blk c y j hc hj
      refine ⟨o, ?_, h2⟩
      rw [hoth _ fun e => hcb (hr.inj c b y x hc hb e (by rw [hj]; simp) (by rw [hk]; simp))]
      exact h1
  inj := (hr.del b (fun t e => by rw [hk] at e; cases e; exact hro t rfl)).inj
  lt := fun c y hc => by rw [hnx_hset, hsz]; exact hr.lt c y hc
  wf := (hr.del b (fun t e => by rw [hk] at e; cases e; exact hro t rfl)).wf
end strike
theorem putObj_oth (w : World) (r : Nat) (o : Obj) : ∀ B, B ≠ r → (w.putObj r o).heap[B]? = w.heap[B]? := fun B hB => World.putObj_heap_other hB

section rf
variable {P : Program} {T : TT} {g : Nat} {ro : Option (Nat × Obj)} {S : (Nat → Int) → Prop} (hT : TOK T P)
include hT
/-- Behind the call of the function that is ranged over. -/
theorem rfK_ok {n : Nat} {b : Frame} {k : List Item} {cs : List Frame} {ρ : Rho} {fr : Fr} {df : Df} {h : H} {a : Act} {w : World} (s : SR (theLp T g ro S) g n ρ fr df h b.roundOf a w)
    {l : Pth} {x : Nat × Nat × Nat} (hl : ρ.blk l = some x) {m0 : Frame} {cr : CR} (hcg : CG (theLp T g ro S) P m0 ρ h w cr) :
    RG (theLp T g ro S) P g n b k cs (lone m0 (b.atR a (.inRangeFunc x.1 :: k) :: cs) w) ρ h w (rfK cr l fr df) := by
  cases cr with
  | bad q => trivial
  | pn c h' =>
    obtain ⟨ρ', ch', w', q1, q2, q3, q4⟩ := hcg (b.atR a (.inRangeFunc x.1 :: k)) cs
    exact ⟨ρ', a, w', .inRangeFunc x.1 :: k, ch', q1, ⟨q3, s.gr.mono q1.le, s.fr.mono q1.le, s.df.mono q1.le⟩, q2, trivial, q4⟩
  | ret u h' =>
    obtain ⟨ρ', v, w', q1, q2, q3, q4⟩ := hcg (b.atR a (.inRangeFunc x.1 :: k)) cs
    rw [finish_atR_inRangeFunc] at q4
    have hl' := q1.le.mono _ _ hl
    show RG _ _ _ _ _ _ _ _ _ _ _ (match hget l h' with
      | some (.lp _ _ _ _ none) => R.nrm fr df (hset l none h')
      | some (.lp _ _ _ _ (some none)) => .rt fr df (hset l none h')
      | some (.lp _ _ _ _ (some (some i))) => (match Nat.beq i 1000000000 with | true => .bad 304 | false => .ex i fr df (hset l none h'))
      | _ => .bad 304)
    have key : ∀ {f ps a' b' pe}, hget l h' = some (.lp f ps a' b' pe) → pe ≠ some (some 1000000000) →
        ∃ r w'', peR pe r ∧ Ext ρ h w ρ' (hset l none h') w'' ∧ SR (theLp T g ro S) g n ρ' fr df (hset l none h') b.roundOf a w'' ∧
          Steps P (lone m0 (b.atR a (.inRangeFunc x.1 :: k) :: cs) w) (lone (b.atR a ((r.pending.map Item.code).toList ++ k)) cs w'') := by
      intro f ps a' b' pe hg hne
      obtain ⟨o, h1, h2⟩ := q3.blk l x _ hl' hg
      obtain ⟨n', r, rfl, p1, p2, p3, p4, p5, p6⟩ := h2
      have hb : r.state ≠ .busy := by
        cases pe with
        | none => rw [p6.1]; exact nofun
        | some pe => cases pe with
          | none => rw [p6.1]; exact nofun
          | some i =>
            simp only [peR] at p6
            rw [if_neg (fun e => hne (by rw [e]))] at p6
            rw [p6.1]; exact nofun
      have he := run_endLoop (P := P) h1 hb
      have hext : Ext ρ' h' w' ρ' (hset l none h') (w'.putObj x.1 (.loop { r with state := .exhausted })) := Ext.upd hl' (putObj_oth _ _ _) (by simp) rfl rfl
      have hhr := q3.strike (w' := w'.putObj x.1 (.loop { r with state := .exhausted })) hl' hg (putObj_oth _ _ _) (by simp)
      exact ⟨r, _, p6, q1.trans hext, ⟨hhr, s.gr.mono q1.le, s.fr.mono q1.le, s.df.mono q1.le⟩, q4.trans (.one (stepR_endRangeFunc he))⟩
    split
    · rename_i hg
      obtain ⟨r, w'', p, e, s', st⟩ := key hg nofun
      rw [p.2] at st
      exact ⟨ρ', a, w'', e, s', st⟩
    · rename_i hg
      obtain ⟨r, w'', p, e, s', st⟩ := key hg nofun
      rw [p.2] at st
      exact ⟨ρ', a, w'', k, e, s', st⟩
    · rename_i i hg
      split
      · trivial
      · rename_i hi
        have hi' : i ≠ 1000000000 := fun e => by subst e; simp at hi
        obtain ⟨r, w'', p, e, s', st⟩ := key hg (fun e => hi' (by cases e; rfl))
        simp only [peR, if_neg hi'] at p
        rw [p.2] at st
        exact ⟨ρ', a, w'', k, e, s', rfl, st⟩
    · trivial
theorem rf_ok {ih : EX} {call : CallF} (hc : CallS (theLp T g ro S) P g call) : RfS (theLp T g ro S) P T g ih call := by
  intro n f ps x y b k cs ρ fr df h a w hg hps s
  have hev := ev_cX s.fr s.gr f (gB_ok hg)
  show RG _ _ _ _ _ _ _ _ _ _ _ (optK (ev (cX f) fr) (.bad 306) (rfN (ps.toList.map pth) (cCode T g n x) (cCode T g n y) call fr df h))
  rcases optK_cases (ev (cX f) fr) (R.bad 306) (rfN (ps.toList.map pth) (cCode T g n x) (cCode T g n y) call fr df h) with ⟨v, hv, e⟩ | ⟨_, e⟩ <;> rw [e]
  case inr => trivial
  have hv' := hev v hv
  -- the call, once the record is laid
  have key : ∀ (l : Pth) (h1 : H) (w1 : World) (ρ1 : Rho) (df1 : Df) (mark : List Deferred) (z : Nat × Nat × Nat), Ext ρ h w ρ1 h1 w1 → HR (theLp T g ro S) ρ1 h1 w1 → ρ1.blk l = some z →
      DfR ρ1 b.roundOf df1 (mark ++ a.defers) → (Instr.enterLoop b.fn a.tmps ps x y b.roundOf).run P w = .ok (z.1, mark) w1 →
      RG (theLp T g ro S) P g n b k cs (lone (b.atR a (.code (.rangeFunc f ps x y) :: k)) cs w) ρ h w (rfB v l call fr df1 h1) := by
    intro l h1 w1 ρ1 df1 mark z e1 hr1 hl1 hd1 hen
    cases v <;> try exact trivial
    rename_i fn fa fc
    obtain ⟨a', c', ef, ha, hcc⟩ := hv'
    have hargs : VRs ρ1 (fa ++ [.yld l] ++ fc) (a' ++ #[Value.func (.yield z.1) #[] #[]] ++ c').toList := by
      simp only [Array.toList_append]
      have hy : VRs ρ1 [AV.yld l] [Value.func (.yield z.1) #[] #[]] := ⟨_, _, rfl, ⟨z, hl1, rfl⟩, rfl⟩
      exact ((ha.mono e1.le).append hy).append (hcc.mono e1.le)
    show RG _ _ _ _ _ _ _ _ _ _ _ (rfK (call none (pth fn) (fa ++ [.yld l] ++ fc) h1) l fr df1)
    rcases hc.fn (pth fn) _ h1 ρ1 w1 _ hr1 (s.gr.mono e1.le) hargs with ⟨q, hq⟩ | ⟨hcf, hcg⟩
    · rw [hq]; trivial
    rw [pth_num] at hcf hcg
    have hstep := stepR_rangeFunc (P := P) (b := b) (a := a) (k := k) (cs := cs) (g := f) hen
      (d := { target := .fn (.func fn) c', args := a' ++ #[Value.func (.yield z.1) #[] #[]] }) (w₁' := w1) (f := fn) (args := a' ++ #[Value.func (.yield z.1) #[] #[]] ++ c') (w₂ := w1)
      (by simp only [resolve, ef, Deferred.ofValue]; simp [Act.eval]) (by simp only [invoke]; exact hcf)
    have s1 : SR (theLp T g ro S) g n ρ1 fr df1 h1 b.roundOf { a with defers := mark ++ a.defers } w1 := ⟨hr1, s.gr.mono e1.le, s.fr.mono e1.le, hd1⟩
    exact RG.head e1 (.one hstep) (rfK_ok hT s1 hl1 hcg)
  have mk : ∀ (ρ1 : Rho) (w1 : World) (h1 : H), ρ.le ρ1 → HR (theLp T g ro S) ρ1 h1 w1 → ∀ dn, BkR (theLp T g ro S) (ρ1.put (hnx h1) (w1.heap.size, 0, 0)) (w1.heap.size, 0, 0) (.lp fr (ps.toList.map pth) (cCode T g n x) (cCode T g n y) none)
      (.loop { state := .ready, pending := none, fn := b.fn, tmps := a.tmps, params := ps, assign := x, body := y, defers := dn }) := by
    intro ρ1 w1 h1 hle hr1 dn
    exact ⟨n, _, rfl, (s.fr.mono hle).mono (hr1.le_put _), rfl, hps, rfl, rfl, rfl, rfl⟩
  cases df with
  | no p =>
    obtain ⟨⟨z, hz, hro⟩, hde⟩ := s.df
    show RG _ _ _ _ _ _ _ _ _ _ _ (match hget p h with | some (.lp ..) => rfB v (hnx h) call fr (.no p) (hput (.lp fr (ps.toList.map pth) (cCode T g n x) (cCode T g n y) none) h) | _ => .bad 324)
    split
    · rename_i hg
      obtain ⟨o, h1, n', r, rfl, _⟩ := s.hr.blk p z _ hz hg
      have hen := run_enterLoop_inner (P := P) h1 b.fn a.tmps ps x y
      refine key (hnx h) _ _ (ρ.put (hnx h) (w.heap.size, 0, 0)) (.no p) [] (w.heap.size, 0, 0) (Ext.push s.hr) (s.hr.push (mk ρ w h (.refl _) s.hr _)) (Rho.put_same _ _ _) ?_ (by rw [hro]; exact hen)
      exact s.df.mono (s.hr.le_put _)
    · trivial
  | l ds =>
    obtain ⟨hro, hde⟩ := s.df
    have hr1 : HR (theLp T g ro S) (ρ.put (hnx h) (w.heap.size, 0, 0)) (hput .col h) { w with heap := w.heap.push (.deferred (some [])) } := s.hr.push rfl
    have e1 : Ext ρ h w (ρ.put (hnx h) (w.heap.size, 0, 0)) (hput .col h) { w with heap := w.heap.push (.deferred (some [])) } := Ext.push s.hr
    have hnx1 : hnx (hput .col h) = Pth.inc (hnx h) := by cases h; rfl
    have hen := run_enterLoop_outer (P := P) (w := w) b.fn a.tmps ps x y
    have hr2 := hr1.push (mk _ _ _ e1.le hr1 w.heap.size)
    have e2 := Ext.push (k := .lp fr (ps.toList.map pth) (cCode T g n x) (cCode T g n y) none) (n := 0) (o := .loop { state := .ready, pending := none, fn := b.fn, tmps := a.tmps, params := ps, assign := x, body := y, defers := w.heap.size }) hr1
    rw [hnx1] at hr2 e2
    refine key (Pth.inc (hnx h)) _ _ _ (.l (.inr (hnx h) :: ds)) [{ target := .collected w.heap.size, args := #[] }] (w.heap.size + 1, 0, 0) (e1.trans e2) hr2 ?_ ?_ ?_
    · have := Rho.put_same (ρ.put (hnx h) (w.heap.size, 0, 0)) (Pth.inc (hnx h)) (w.heap.size + 1, 0, 0)
      simpa using this
    · refine ⟨hro, _, _, rfl, ⟨(w.heap.size, 0, 0), ?_, rfl⟩, hde.mono (e1.trans e2).le⟩
      exact e2.le.mono _ _ (Rho.put_same _ _ _)
    · rw [hro]; exact hen
end rf
end Go.Kx

/- Results; deferred functions. -/
namespace Go.Kx

def MdR (ρ : Rho) : Md → FrameMode → Prop
  | .ret, u => u = .returning
  | .pan c, u => ∃ ch, u = .panicking ch ∧ ChR ρ c ch
theorem MdR.mono {ρ ρ' : Rho} (h : ρ.le ρ') {m u} (hm : MdR ρ m u) : MdR ρ' m u := by
  cases m with
  | ret => exact hm
  | pan c => obtain ⟨ch, h1, h2⟩ := hm; exact ⟨ch, h1, h2.mono h⟩
theorem MdR.ne {ρ : Rho} {m u} (hm : MdR ρ m u) : u ≠ .run := by
  cases m with
  | ret => rw [show u = .returning from hm]; exact nofun
  | pan c => obtain ⟨ch, h1, h2⟩ := hm; rw [h1]; exact nofun
theorem ChR.noexit {ρ : Rho} : ∀ {c l}, ChR ρ c l → l.dropWhile (fun e : PanicEntry => !e.goexit) = []
  | [], _, rfl => rfl
  | p :: c, _, ⟨e, l', h1, h2, h3, h4, h5⟩ => by subst h1; simp [List.dropWhile, h4, ChR.noexit h5]
theorem settle_ok {ρ : Rho} {m u} (hm : MdR ρ m u) : MdR ρ (settleM m) (settle u) := by
  cases m with
  | ret => rw [show u = .returning from hm]; rfl
  | pan c =>
    obtain ⟨ch, rfl, h2⟩ := hm
    cases c with
    | nil => rw [show ch = [] from h2]; exact ⟨[], rfl, rfl⟩
    | cons p c =>
      obtain ⟨e, l', rfl, h3, h4, h5, h6⟩ := h2
      obtain ⟨v, rc⟩ := p
      obtain ⟨ev, er, eg⟩ := e
      simp only at h4 h5
      subst h4 h5
      cases er with
      | true => simp [settle, settleM, ChR.noexit h6, MdR]
      | false => exact ⟨_, rfl, _, _, rfl, h3, rfl, rfl, h6⟩
theorem raised_ok {ρ : Rho} {m u c ch} (hm : MdR ρ m u) (hc : ChR ρ c ch) : MdR ρ (raisedM m c) (raised u ch) := by
  cases m with
  | ret => rw [show u = .returning from hm]; exact ⟨ch, rfl, hc⟩
  | pan d => obtain ⟨e, rfl, h2⟩ := hm; exact ⟨_, rfl, hc.append h2⟩

/-- One result. -/
def resV (tmps : Array Value) : ResultVar → Sem Value
  | .tmp t => pure (tmps.getD t undef)
  | .cell a t => do loadVar t (← asAddr (tmps.getD a undef))
theorem results_eq (fn : Func) (tmps : Array Value) : results fn tmps = (fn.results.mapM (resV tmps) >>= fun vs => pure (if h : vs.size = 1 then vs[0] else .tuple vs)) := by
  unfold results
  congr 1
section res
variable {L : Lp} {P : Program} {T : TT} {g n : Nat} (hT : TOK T P)
include hT
theorem resL_ok {ρ : Rho} {fr : Fr} {h : H} {w : World} {tmps : Array Value} (hr : HR L ρ h w) (hf : FrR ρ n fr tmps) : ∀ {rs : List ResultVar} {r : List (Bool × Pth × Nat)} {l : List AV}, cRes T rs = some r → readRes fr h r = some l →
    ∃ vs, (rs.mapM (resV tmps)).run P w = .ok vs w ∧ VRs ρ l vs
  | [], r, l, hr1, hl => by
    simp only [cRes] at hr1; cases hr1
    simp only [readRes] at hl; cases hl
    exact ⟨[], rfl, rfl⟩
  | .tmp t :: rs, r, l, hr1, hl => by
    simp only [cRes] at hr1
    split at hr1
    · rename_i r' h1
      cases hr1
      simp only [readRes] at hl
      split at hl
      · rename_i v r2 hv h2
        cases hl
        obtain ⟨vs, q1, q2⟩ := resL_ok hr hf h1 h2
        obtain ⟨x, hx, hvx⟩ := hf.slot _ _ hv
        rw [pth_num] at hx
        refine ⟨x :: vs, ?_, _, _, rfl, hvx, q2⟩
        have hh : (resV tmps (.tmp t)).run P w = .ok x w := by simp [resV, hx]
        simp only [List.mapM_cons, Sem.run_bind, hh, Result.andThen_ok, q1, Sem.run_pure]
      · cases hl
    · cases hr1
  | .cell a t :: rs, r, l, hr1, hl => by
    simp only [cRes] at hr1
    split at hr1
    · rename_i r' h0 h1
      cases hr1
      simp only [readRes] at hl
      split at hl
      · rename_i b o r2 hv h2
        split at hl
        · rename_i tr htr
          split at hl
          · rename_i v hvv
            cases hl
            obtain ⟨vs, q1, q2⟩ := resL_ok hr hf h1 h2
            obtain ⟨x, hx, z, hz, rfl⟩ := hf.slot _ _ hv
            rw [pth_num] at hx
            obtain ⟨_, y, hy, hvy⟩ := hr.cell hz htr hvv
            refine ⟨y :: vs, ?_, _, _, rfl, hvy, q2⟩
            have ho : (isAgg t).run P w = .ok false w := by simpa using one_ok hT h0 w
            have hgd : tmps.getD a undef = .pointer (some ⟨z.1, z.2.1 + o, none⟩) := by simp [hx]
            have hh : (resV tmps (.cell a t)).run P w = .ok y w := by
              show (asAddr (tmps.getD a undef) >>= fun x => loadVar t x : Sem Value).run P w = _; rw [hgd]; simp [asAddr, loadVar, ho, hy]
            simp only [List.mapM_cons, Sem.run_bind, hh, Result.andThen_ok, q1, Sem.run_pure]
          · cases hl
        · cases hl
      · cases hl
    · rename_i m r' h0 hs h1
      cases hr1
      simp only [readRes] at hl
      split at hl
      · rename_i b o r2 hv h2
        split at hl
        · rename_i tr htr
          split at hl
          · rename_i cs hvv
            cases hl
            obtain ⟨vs, q1, q2⟩ := resL_ok hr hf h1 h2
            obtain ⟨x, hx, z, hz, rfl⟩ := hf.slot _ _ hv
            rw [pth_num] at hx
            obtain ⟨c, hc, hvc, hall, _⟩ := hr.cells (P := P) hz htr hvv
            refine ⟨.agg c.toArray :: vs, ?_, _, _, rfl, ⟨c.toArray, rfl, by simpa using hvc, hall⟩, q2⟩
            have ho : (isAgg t).run P w = .ok true w := by simpa using one_ok hT h0 w
            have hgd : tmps.getD a undef = .pointer (some ⟨z.1, z.2.1 + o, none⟩) := by simp [hx]
            have hh : (resV tmps (.cell a t)).run P w = .ok (.agg c.toArray) w := by
              show (asAddr (tmps.getD a undef) >>= fun x => loadVar t x : Sem Value).run P w = _; rw [hgd]; simp [asAddr, loadVar, ho, siz_ok hT hs, hc w rfl]
            simp only [List.mapM_cons, Sem.run_bind, hh, Result.andThen_ok, q1, Sem.run_pure]
          · cases hl
        · cases hl
      · cases hl
    · cases hr1
theorem results_ok {ρ : Rho} {fr : Fr} {h : H} {w : World} {tmps : Array Value} (hr : HR L ρ h w) (hf : FrR ρ n fr tmps) {fn : Func} {r : List (Bool × Pth × Nat)} {l : List AV} (h1 : cRes T fn.results.toList = some r) (h2 : readRes fr h r = some l) :
    ∃ v, (results fn tmps).run P w = .ok v w ∧ VR ρ (mkRes l) v := by
  obtain ⟨vs, q1, q2⟩ := resL_ok (P := P) hT hr hf h1 h2
  have hm : (fn.results.mapM (resV tmps)).run P w = .ok vs.toArray w := by
    have e : fn.results.mapM (resV tmps) = (do let l ← fn.results.toList.mapM (resV tmps); pure l.toArray : Sem (Array Value)) := by
      conv => lhs; rw [← Array.toArray_toList (xs := fn.results), List.mapM_toArray]
      simp
    rw [e, Sem.run_bind, q1]; simp
  have hlen := q2.length
  refine ⟨if h : vs.toArray.size = 1 then vs.toArray[0] else .tuple vs.toArray, ?_, ?_⟩
  · rw [results_eq, Sem.run_bind, hm]; simp
  · cases l with
    | nil =>
      obtain rfl : vs = [] := by simpa [VRs] using q2
      exact ⟨#[], rfl, rfl⟩
    | cons u l =>
      obtain ⟨v, vs', rfl, hv, hl⟩ := q2
      cases l with
      | nil =>
        obtain rfl : vs' = [] := hl
        exact hv
      | cons u' l =>
        obtain ⟨v', vs'', rfl, hv', hl'⟩ := hl
        rw [dif_neg (by simp)]
        exact ⟨_, rfl, _, _, rfl, hv, _, _, rfl, hv', hl'⟩
end res
end Go.Kx

/- Deferred functions. -/
namespace Go.Kx
theorem cOp_recov {T : TT} {op : Op} (h : cOp T op = .recov) : ∃ c, op = .call c ∧ c.callee = .builtin .recover := by
  cases op
  case call c =>
    unfold cOp at h
    dsimp only at h
    split at h
    · rename_i b hb
      refine ⟨c, rfl, ?_⟩
      cases b <;> first | exact hb | exfalso
      all_goals (unfold cBuiltin at h; generalize c.args.toList = as at h; generalize c.argTypes.toList = ts at h)
      all_goals (
        rcases as with _ | ⟨a0, _ | ⟨a1, _ | ⟨a2, as⟩⟩⟩ <;> rcases ts with _ | ⟨t0, _ | ⟨t1, _ | ⟨t2, ts⟩⟩⟩ <;> dsimp only at h <;> first
          | (cases h; done)
          | ((repeat' split at h) <;> cases h; done))
    all_goals (cases h; done)
  all_goals exfalso
  case' unOp op t x => cases op
  case' makeFunc f a b => cases f
  case' makeMap t r => cases r
  all_goals unfold cOp at h
  all_goals try (dsimp only at h)
  all_goals try unfold cBin at h
  all_goals try unfold cConv at h
  all_goals try unfold cSlice at h
  all_goals ((repeat' split at h) <;> cases h)

/-- Where a deferred frame comes to: its caller's mode may have turned. -/
def DG (L : Lp) (P : Program) (g n : Nat) (b : Frame) (k : List Item) (c0 : Frame) (cs : List Frame) (m : Machine) (ρ : Rho) (h : H) (w : World) : R → Md → Prop
  | .nrm fr df h', md => ∃ ρ' a w' u, Ext ρ h w ρ' h' w' ∧ SR L g n ρ' fr df h' b.roundOf a w' ∧ MdR ρ' md u ∧ Steps P m (lone (b.atR a k) ({ c0 with mode := u } :: cs) w')
  | .rt fr df h', md => ∃ ρ' a w' u k', Ext ρ h w ρ' h' w' ∧ SR L g n ρ' fr df h' b.roundOf a w' ∧ MdR ρ' md u ∧ Steps P m (lone (b.atR a (.code .ret :: k')) ({ c0 with mode := u } :: cs) w')
  | .pn c fr df h', md => ∃ ρ' a w' u k' ch, Ext ρ h w ρ' h' w' ∧ SR L g n ρ' fr df h' b.roundOf a w' ∧ MdR ρ' md u ∧ ChR ρ' c ch ∧ Steps P m (lone { b.atR a k' with mode := .panicking ch } ({ c0 with mode := u } :: cs) w')
  | _, _ => True
theorem DG.head {L P g n b k c0 cs m m1 ρ h w ρ1 h1 w1 r md} (e : Ext ρ h w ρ1 h1 w1) (hs : Steps P m m1) (hr : DG L P g n b k c0 cs m1 ρ1 h1 w1 r md) : DG L P g n b k c0 cs m ρ h w r md := by
  cases r with
  | nrm fr df h' => obtain ⟨ρ', a, w', u, q1, q2, q3, q4⟩ := hr; exact ⟨ρ', a, w', u, e.trans q1, q2, q3, hs.trans q4⟩
  | rt fr df h' => obtain ⟨ρ', a, w', u, k', q1, q2, q3, q4⟩ := hr; exact ⟨ρ', a, w', u, k', e.trans q1, q2, q3, hs.trans q4⟩
  | pn c fr df h' => obtain ⟨ρ', a, w', u, k', ch, q1, q2, q3, q4, q5⟩ := hr; exact ⟨ρ', a, w', u, k', ch, e.trans q1, q2, q3, q4, hs.trans q5⟩
  | ex i fr df h' => trivial
  | bad _ => trivial
theorem DG.of_RG {L P g n b k c0 cs m ρ h w r md u} (hm : MdR ρ md u) (hr : RG L P g n b k ({ c0 with mode := u } :: cs) m ρ h w r) : DG L P g n b k c0 cs m ρ h w r md := by
  cases r with
  | nrm fr df h' => obtain ⟨ρ', a, w', q1, q2, q3⟩ := hr; exact ⟨ρ', a, w', u, q1, q2, hm.mono q1.le, q3⟩
  | rt fr df h' => obtain ⟨ρ', a, w', k', q1, q2, q3⟩ := hr; exact ⟨ρ', a, w', u, k', q1, q2, hm.mono q1.le, q3⟩
  | pn c fr df h' => obtain ⟨ρ', a, w', k', ch, q1, q2, q3, _, q4⟩ := hr; exact ⟨ρ', a, w', u, k', ch, q1, q2, hm.mono q1.le, q3, q4⟩
  | ex i fr df h' => trivial
  | bad _ => trivial
section defer
variable {L : Lp} {P : Program} {T : TT} {g n : Nat} (hT : TOK T P) {b : Frame} (hbk : b.kind = .deferred) (hbr : b.roundOf = none) {k : List Item} {c0 : Frame} {cs : List Frame} {ops : Array Oper}
include hT hbk hbr
/-- recover -/
theorem st_rec {i : Nat} {rest : List Nat} {o : Oper} (ho : ops[i]? = some o) {d : Option Pth} (hs : cStep T g n ops o = .op none d .recov)
    {ρ : Rho} {fr : Fr} {df : Df} {h : H} {a : Act} {w : World} (s : SR L g n ρ fr df h b.roundOf a w) {md : Md} {u : FrameMode} (hm : MdR ρ md u) :
    ∃ u' a', MdR ρ (recM md).2 u' ∧ SR L g n ρ (setd d (recM md).1 fr) df h b.roundOf a' w ∧
      step P (lone (b.atR a (.inRegion ops (i :: rest) :: k)) ({ c0 with mode := u } :: cs) w) = .next (lone (b.atR a' (.inRegion ops rest :: k)) ({ c0 with mode := u' } :: cs) w) := by
  unfold cStep at hs
  split at hs
  · rename_i d' gd hd hgd
    split at hs
    · have hop : cOp T o.op = .recov := by simp only [FSt.op.injEq] at hs; exact hs.2.2
      have hdd : d' = d := by simp only [FSt.op.injEq] at hs; exact hs.2.1
      have hg0 : gd = none := by simp only [FSt.op.injEq] at hs; exact hs.1
      subst hdd hg0
      have hg : o.guard = none := by
        cases hg : o.guard with
        | none => rfl
        | some jw =>
          obtain ⟨j, want⟩ := jw
          rw [hg] at hgd
          simp only [cGuard] at hgd
          split at hgd
          · split at hgd <;> cases hgd
          · cases hgd
      obtain ⟨c, hc1, hc2⟩ := cOp_recov hop
      have hw : Region.wanted o (yielded ops a.tmps) = true := by unfold Region.wanted; rw [hg]
      have hgo := stepGR_op (P := P) (b := b) (a := a) (k := k) (cs := { c0 with mode := u } :: cs) (w := w) (rest := rest) ho hw
      rw [hbr, Oper.semAt_none] at hgo
      have hrun : (execOp a.eval o).run P w = .ok .recover w := by
        unfold execOp; rw [hc1]; simp [resolve, hc2, invoke, builtin]
      have hfin : ∀ v, (b.atR a (.inRegion ops (i :: rest) :: k)).finish v = b.atR (a.put o.dst v) (.inRegion ops rest :: k) := by
        intro v; rw [Frame.finish_atR, ho]; rfl
      have hk : (b.atR a (.inRegion ops (i :: rest) :: k)).kind = .deferred := hbk
      have hro : (b.atR a (.inRegion ops (i :: rest) :: k)).roundOf = none := hbr
      have htr := tryRecover_deferred hk ({ c0 with mode := u } :: cs)
      have put : ∀ (x : AV) (v : Value), VR ρ x v → SR L g n ρ (setd d' x fr) df h b.roundOf (a.put o.dst v) w := fun x v hv => s.put hT (.refl _ _ _) s.hr hd hv
      have none_ : recoverD ({ c0 with mode := u } :: cs) = none → step P (lone (b.atR a (.inRegion ops (i :: rest) :: k)) ({ c0 with mode := u } :: cs) w) = .next (lone (b.atR (a.put o.dst .nilIface) (.inRegion ops rest :: k)) ({ c0 with mode := u } :: cs) w) := by
        intro hrec
        refine step_lone_go ?_
        rw [hgo, ← hfin]
        simp only [stepG.apply, hrun, Sem.runT_eq, hro, htr, hrec, GStep.bare_after]
        rfl
      cases md with
      | ret =>
        obtain rfl : u = .returning := hm
        exact ⟨_, _, (rfl : MdR ρ .ret .returning), put .nili .nilIface rfl, none_ rfl⟩
      | pan ch =>
        obtain ⟨chl, rfl, hch⟩ := hm
        cases ch with
        | nil =>
          obtain rfl : chl = [] := hch
          exact ⟨_, _, ⟨[], rfl, rfl⟩, put .nili .nilIface rfl, none_ rfl⟩
        | cons p older =>
          obtain ⟨e, l', rfl, h1, h2, h3, h4⟩ := hch
          obtain ⟨v, rc⟩ := p
          obtain ⟨ev, er, eg⟩ := e
          simp only at h2 h3
          subst h2 h3
          cases er with
          | true => exact ⟨_, _, ⟨_, rfl, _, _, rfl, h1, rfl, rfl, h4⟩, put .nili .nilIface rfl, none_ rfl⟩
          | false =>
            refine ⟨.panicking ({ v := ev, recovered := true } :: l'), a.put o.dst ev, ⟨_, rfl, _, _, rfl, h1, rfl, rfl, h4⟩, put v ev h1, ?_⟩
            refine step_lone_go ?_
            rw [hgo, ← hfin]
            simp only [stepG.apply, hrun, Sem.runT_eq, hro, htr, recoverD, GStep.bare_after]
            rfl
    · cases hs
  · cases hs
theorem dl_ok {call : CallF} (hc : CallS L P g call) : ∀ (m i : Nat) (ρ : Rho) (fr : Fr) (df : Df) (h : H) (a : Act) (w : World) (md : Md) (u : FrameMode), i + m = ops.size → SR L g n ρ fr df h b.roundOf a w → MdR ρ md u →
    DG L P g n b k c0 cs (lone (b.atR a (.inRegion ops (List.range' i m) :: k)) ({ c0 with mode := u } :: cs) w) ρ h w (execDL call (cSteps T g n ops (ops.toList.drop i)) md fr df h).1 (execDL call (cSteps T g n ops (ops.toList.drop i)) md fr df h).2
  | 0, i, ρ, fr, df, h, a, w, md, u, hi, s, hm => by
    rw [List.drop_eq_nil_of_le (by simp; omega)]
    exact ⟨ρ, a, w, u, .refl _ _ _, s, hm, .one stepR_region_end⟩
  | m + 1, i, ρ, fr, df, h, a, w, md, u, hi, s, hm => by
    have hlt : i < ops.size := by omega
    rw [List.drop_eq_getElem_cons (by simpa using hlt)]
    have ho : ops[i]? = some ops[i] := Array.getElem?_eq_getElem hlt
    simp only [cSteps, Array.getElem_toList]
    generalize hst : cStep T g n ops ops[i] = st
    have other : DG L P g n b k c0 cs (lone (b.atR a (.inRegion ops (List.range' i (m + 1)) :: k)) ({ c0 with mode := u } :: cs) w) ρ h w
        (match stepF st execL0 call fr df h with | .nrm fr df h => execDL call (cSteps T g n ops (ops.toList.drop (i + 1))) md fr df h | r => (r, md)).1
        (match stepF st execL0 call fr df h with | .nrm fr df h => execDL call (cSteps T g n ops (ops.toList.drop (i + 1))) md fr df h | r => (r, md)).2 := by
      have h1 := st_F hT hc (k := k) (kk := .inRegion ops (List.range' (i + 1) m) :: k) (cs := { c0 with mode := u } :: cs) (ih := execL0) (rest := List.range' (i + 1) m) ho s
        (fun ρ' a' w' fr' df' h' e s' => ⟨ρ', a', w', .refl _ _ _, s', .refl _ _⟩)
      rw [hst] at h1
      generalize stepF st execL0 call fr df h = r at h1
      cases r with
      | nrm fr' df' h' =>
        obtain ⟨ρ', a', w', e, s', st'⟩ := h1
        exact DG.head e st' (dl_ok hc m (i + 1) ρ' fr' df' h' a' w' md u (by omega) s' (hm.mono e.le))
      | rt fr' df' h' => obtain ⟨ρ', a', w', k', e, s', st'⟩ := h1; exact ⟨ρ', a', w', u, k', e, s', hm.mono e.le, st'⟩
      | pn c fr' df' h' => obtain ⟨ρ', a', w', k', ch, e, s', q, _, st'⟩ := h1; exact ⟨ρ', a', w', u, k', ch, e, s', hm.mono e.le, q, st'⟩
      | ex j fr' df' h' => trivial
      | bad _ => trivial
    unfold execDL
    split
    · rename_i d
      obtain ⟨u', a', h1, h2, h3⟩ := st_rec hT hbk hbr (k := k) (c0 := c0) (cs := cs) (rest := List.range' (i + 1) m) ho hst s hm
      exact DG.head (.refl _ _ _) (.one h3) (dl_ok hc m (i + 1) ρ _ df h a' w _ u' (by omega) h2 h1)
    · exact other
end defer
end Go.Kx

/- How a frame is left; calls. -/
namespace Go.Kx
theorem execD_other {ih : EX} {call : CallF} {X : FC} (h1 : ∀ a b, X ≠ .seq a b) (h2 : ∀ x a b, X ≠ .cnd x a b) (h3 : ∀ l, X ≠ .reg l) (m : Md) (fr : Fr) (df : Df) (h : H) :
    execD ih call X m fr df h = (ih X fr df h, m) := by
  cases X <;> first | rfl | exact absurd rfl (h1 _ _) | exact absurd rfl (h2 _ _ _) | exact absurd rfl (h3 _)
section dcode
variable {L : Lp} {P : Program} {T : TT} {g : Nat} (hT : TOK T P) {ih : EX} (hi : ExS L P T g ih) {call : CallF} (hc : CallS L P g call) (hbad : ∀ w fr df h, ∃ q, ih (.bad w) fr df h = .bad q)
include hT hi hc hbad
theorem execD_ok {n : Nat} (c : Code) : ∀ {b : Frame} (hbk : b.kind = .deferred) (hbr : b.roundOf = none) {k : List Item} {c0 : Frame} {cs : List Frame} {ρ : Rho} {fr : Fr} {df : Df} {h : H} {a : Act} {w : World} {md : Md} {u : FrameMode},
    SR L g n ρ fr df h b.roundOf a w → MdR ρ md u →
    DG L P g n b k c0 cs (lone (b.atR a (.code c :: k)) ({ c0 with mode := u } :: cs) w) ρ h w (execD ih call (cCode T g n c) md fr df h).1 (execD ih call (cCode T g n c) md fr df h).2 := by
  have other : ∀ (c : Code) {b : Frame} {k : List Item} {c0 : Frame} {cs : List Frame} {ρ : Rho} {fr : Fr} {df : Df} {h : H} {a : Act} {w : World} {md : Md} {u : FrameMode},
      (∀ x y, cCode T g n c ≠ .seq x y) → (∀ x a b, cCode T g n c ≠ .cnd x a b) → (∀ l, cCode T g n c ≠ .reg l) → SR L g n ρ fr df h b.roundOf a w → MdR ρ md u →
      DG L P g n b k c0 cs (lone (b.atR a (.code c :: k)) ({ c0 with mode := u } :: cs) w) ρ h w (execD ih call (cCode T g n c) md fr df h).1 (execD ih call (cCode T g n c) md fr df h).2 := by
    intro c b k c0 cs ρ fr df h a w md u h1 h2 h3 s hm
    rw [execD_other h1 h2 h3]
    exact DG.of_RG hm (hi.code n c b k _ ρ fr df h a w s)
  induction c with
  | seq x y ihx ihy =>
    intro b hbk hbr k c0 cs ρ fr df h a w md u s hm
    refine DG.head (.refl _ _ _) (.one stepR_seq) ?_
    have h1 := ihx hbk hbr (k := .code y :: k) (c0 := c0) (cs := cs) s hm
    simp only [cCode, execD]
    generalize execD ih call (cCode T g n x) md fr df h = r at h1
    obtain ⟨r, md'⟩ := r
    cases r with
    | nrm fr' df' h' => obtain ⟨ρ', a', w', u', e, s', q, st⟩ := h1; exact DG.head e st (ihy hbk hbr s' q)
    | rt fr' df' h' => exact h1
    | pn c fr' df' h' => exact h1
    | ex i fr' df' h' => trivial
    | bad _ => trivial
  | cond c x y ihx ihy =>
    intro b hbk hbr k c0 cs ρ fr df h a w md u s hm
    unfold cCode
    split
    · rename_i hg
      have hev := ev_cX s.fr s.gr c (gB_ok hg)
      simp only [execD]
      cases hv : ev (cX c) fr with
      | none => trivial
      | some v =>
        have hv' := hev v hv
        cases v <;> try exact trivial
        rename_i t
        have hv' : a.eval c = .bool t := hv'
        cases t
        · exact DG.head (.refl _ _ _) (.one (stepR_cond hv')) (ihy hbk hbr s hm)
        · exact DG.head (.refl _ _ _) (.one (stepR_cond hv')) (ihx hbk hbr s hm)
    · rw [execD_other (X := .bad 264) nofun nofun nofun]
      obtain ⟨q, hq⟩ := hbad 264 fr df h
      rw [hq]; trivial
  | region id ops draw =>
    intro b hbk hbr k c0 cs ρ fr df h a w md u s hm
    cases draw with
    | false =>
      refine DG.head (.refl _ _ _) (.one stepR_region) ?_
      rw [List.range_eq_range']
      exact dl_ok hT hbk hbr hc ops.size 0 ρ fr df h a w md u (by simp) s hm
    | true =>
      refine other _ ?_ ?_ ?_ s hm
      all_goals (intros; simp only [cCode]; dsimp only [cDrw]; split <;> exact nofun)
  | skip => intro b hbk hbr k c0 cs ρ fr df h a w md u s hm; exact other _ nofun nofun nofun s hm
  | block id x _ => intro b hbk hbr k c0 cs ρ fr df h a w md u s hm; exact other _ nofun nofun nofun s hm
  | loop x _ => intro b hbk hbr k c0 cs ρ fr df h a w md u s hm; exact other _ nofun nofun nofun s hm
  | rangeFunc f ps x y _ _ =>
    intro b hbk hbr k c0 cs ρ fr df h a w md u s hm
    refine other _ ?_ ?_ ?_ s hm
    all_goals (intros; simp only [cCode]; split <;> exact nofun)
  | exit i => intro b hbk hbr k c0 cs ρ fr df h a w md u s hm; exact other _ nofun nofun nofun s hm
  | scope x _ => intro b hbk hbr k c0 cs ρ fr df h a w md u s hm; exact other _ nofun nofun nofun s hm
  | label l => intro b hbk hbr k c0 cs ρ fr df h a w md u s hm; exact other _ nofun nofun nofun s hm
  | goto l => intro b hbk hbr k c0 cs ρ fr df h a w md u s hm; exact other _ nofun nofun nofun s hm
  | ret => intro b hbk hbr k c0 cs ρ fr df h a w md u s hm; exact other _ nofun nofun nofun s hm
  | refuse y => intro b hbk hbr k c0 cs ρ fr df h a w md u s hm; exact other _ nofun nofun nofun s hm
end dcode

/-- The functions of the evaluator are the program's. -/
def FnsOK (E : Env) (P : Program) (T : TT) (g : Nat) : Prop := ∀ f fi, Tr.get f E.fns = some fi → (∃ w, fi = .mk (.bad w) []) ∨
  ∃ fn c r, P.funcs[f.num]? = some fn ∧ fn.body = some c ∧ cRes T fn.results.toList = some r ∧ fi = .mk (cCode T g fn.ntmps c) r ∧ (fn.name == "runtime.NumGoroutine") = false
theorem callFunc_ok {P : Program} {f : Nat} {fn : Func} {c : Code} (h1 : P.funcs[f]? = some fn) (h2 : fn.body = some c) (h3 : (fn.name == "runtime.NumGoroutine") = false) (args : Array Value) (w : World) :
    (callFunc f args).run P w = .ok (.enter f args) w := by
  have h3' : ¬ fn.name = "runtime.NumGoroutine" := by simpa using h3
  simp [callFunc, h1, h2, h3']
theorem initFr_ok {ρ : Rho} {args : List AV} {args' : Array Value} (h : VRs ρ args args'.toList) (n : Nat) : FrR ρ n (initFr args) (args' ++ Array.replicate (n - args'.size) undef) := by
  refine ⟨by simp; omega, fun p v hp => ?_⟩
  have hp : Tr.get p (putL args 0 .e) = some v := hp
  rw [get_putL] at hp
  by_cases hq : 0 ≤ p.num ∧ p.num < 0 + args.length
  · rw [if_pos hq] at hp
    have hp : args[p.num]? = some v := by simpa using hp
    obtain ⟨y, hy, hv⟩ := h.get _ hp
    have hlen := h.length
    refine ⟨y, ?_, hv⟩
    rw [Array.getElem?_append_left (by simp at hlen; omega)]
    simpa using hy
  · rw [if_neg hq, Tr.get_e] at hp; cases hp

/-! ### Leaving -/
/-- A frame that is left, of a function. -/
def LG (L : Lp) (P : Program) (f : Nat) (F : Frame) (cs : List Frame) (ρ : Rho) (h : H) (w : World) : CR → Prop
  | .ret u h' => ∃ ρ' v w' F', Ext ρ h w ρ' h' w' ∧ VR ρ' u v ∧ HR L ρ' h' w' ∧ Steps P (lone F cs w) (lone F' cs w') ∧ F'.fn = f ∧ F'.leaving P w' (.returned v)
  | .pn c h' => ∃ ρ' ch w' F', Ext ρ h w ρ' h' w' ∧ ChR ρ' c ch ∧ HR L ρ' h' w' ∧ Steps P (lone F cs w) (lone F' cs w') ∧ F'.fn = f ∧ F'.leaving P w' (.panicked ch)
  | .bad _ => True
theorem LG.head {L P f F F1 cs ρ h w ρ1 h1 w1 r} (e : Ext ρ h w ρ1 h1 w1) (hs : Steps P (lone F cs w) (lone F1 cs w1)) (hr : LG L P f F1 cs ρ1 h1 w1 r) : LG L P f F cs ρ h w r := by
  cases r with
  | ret u h' => obtain ⟨ρ', v, w', F', q1, q2, q3, q4, q5⟩ := hr; exact ⟨ρ', v, w', F', e.trans q1, q2, q3, hs.trans q4, q5⟩
  | pn c h' => obtain ⟨ρ', v, w', F', q1, q2, q3, q4, q5⟩ := hr; exact ⟨ρ', v, w', F', e.trans q1, q2, q3, hs.trans q4, q5⟩
  | bad _ => trivial
/-- What is known of calls is so. -/
def PrsOK (L : Lp) (E : Env) (P : Program) (g : Nat) : Prop := ∀ f p args h cr, Tr.get f E.pr = some p → p args h = some cr → ∀ ρ w args', HR L ρ h w → GR ρ g → VRs ρ args args'.toList →
  (∃ q, cr = .bad q) ∨ ((callFunc f.num args').run P w = .ok (.enter f.num args') w ∧ ∀ cs, LG L P f.num (Frame.enter P f.num args' .normal) cs ρ h w cr)
structure EnvOK (L : Lp) (E : Env) (P : Program) (T : TT) (g : Nat) : Prop where
  fns : FnsOK E P T g
  prs : PrsOK L E P g
/-- Memory with fewer blocks. -/
theorem fewer_ne {h h2 : H} (hs : ∀ b k, hget b h2 = some k → hget b h = some k) {b : Pth} (g1 : hget b h2 ≠ none) : hget b h ≠ none := by
  cases hq : hget b h2 with
  | none => exact absurd hq g1
  | some k => rw [hs b k hq]; simp
theorem HR.fewer {L : Lp} {ρ : Rho} {h h2 : H} {w : World} (hr : HR L ρ h w) (hs : ∀ b k, hget b h2 = some k → hget b h = some k) (hn : hnx h2 = hnx h) (hk : ∀ B o, L.ro = some (B, o) → hget (pth B) h2 = hget (pth B) h) : HR L ρ h2 w where
  sy := hr.sy
  ro := fun B o e => by
    obtain ⟨q0, n, t, q1, q2⟩ := hr.ro B o e
    exact ⟨q0, n, t, q1, by rw [hk B o e]; exact q2⟩
  blk := fun b x k hb hk => hr.blk b x k hb (hs b k hk)
  inj := fun b b' x x' hb hb' e g1 g2 => hr.inj b b' x x' hb hb' e (fewer_ne hs g1) (fewer_ne hs g2)
  lt := fun b x hb => by rw [hn]; exact hr.lt b x hb
  wf := fun b hb => by
    cases hq : hget b h2 with
    | none => rfl
    | some k => have := hs b k hq; rw [hr.wf b (by rw [← hn]; exact hb)] at this; cases this
theorem meetT_get {α β : Type} : ∀ (s : Tr α) (t : Tr β) (p : Pth), Tr.get p (meetT s t) = (match Tr.get p s with | some _ => Tr.get p t | none => none)
  | .e, t, p => by cases t <;> (show Tr.get p (.e : Tr β) = _; rw [Tr.get_e, Tr.get_e])
  | .n v a b c d, .e, p => by
    show Tr.get p (.e : Tr β) = _
    rw [Tr.get_e]
    split <;> rfl
  | .n v a b c d, .n w a' b' c' d', p => by
    cases p with
    | z => rfl
    | a p => exact meetT_get a a' p
    | b p => exact meetT_get b b' p
    | c p => exact meetT_get c c' p
    | d p => exact meetT_get d d' p
theorem markF_get {h : H} : ∀ (n : Nat) (l : List Pth) (t : Tr Bk), (∀ b k, Tr.get b t = some k → hget b h = some k) → (∀ b k, Tr.get b (markF h n l t) = some k → hget b h = some k) ∧ ∀ b k, Tr.get b t = some k → Tr.get b (markF h n l t) = some k
  | 0, l, t, ht => ⟨ht, fun b k e => e⟩
  | n + 1, [], t, ht => ⟨ht, fun b k e => e⟩
  | n + 1, b :: l, t, ht => by
    unfold markF
    split
    · rename_i k h1 h2
      have ht' : ∀ b' k', Tr.get b' (Tr.set b (some k) t) = some k' → hget b' h = some k' := fun b' k' e => by
        by_cases hb : b' = b
        · subst hb; rw [Tr.get_set_same] at e; cases e; exact h2
        · rw [Tr.get_set_ne hb] at e; exact ht b' k' e
      obtain ⟨q1, q2⟩ := markF_get n (blksK k l) (Tr.set b (some k) t) ht'
      refine ⟨q1, fun b' k' e => q2 b' k' ?_⟩
      rw [Tr.get_set_ne (fun hb => by subst hb; rw [h1] at e; cases e)]
      exact e
    · exact markF_get n l t ht
theorem gcH_ok (h h' : H) (u : AV) : (∀ b k, hget b (gcH h h' u) = some k → hget b h' = some k) ∧ hnx (gcH h h' u) = hnx h' ∧ ∀ b k, hget b h ≠ none → hget b h' = some k → hget b (gcH h h' u) = some k := by
  have hm : ∀ b k, Tr.get b (meetT (trOf h) (trOf h')) = some k → hget b h' = some k := fun b k e => by
    rw [meetT_get] at e
    split at e
    · cases h'; exact e
    · cases e
  obtain ⟨q1, q2⟩ := markF_get (h := h') 1000000 (blksV u (blksO (meetT (trOf h) (trOf h')) [])) (meetT (trOf h) (trOf h')) hm
  refine ⟨q1, rfl, fun b k hb e => q2 b k ?_⟩
  rw [meetT_get]
  cases h; cases h'
  split
  · exact e
  · rename_i hn; exact absurd hn hb
theorem Ext.gc {ρ ρ' : Rho} {h h' : H} {w w' : World} (e : Ext ρ h w ρ' h' w') (u : AV) : Ext ρ h w ρ' (gcH h h' u) w' := by
  obtain ⟨g1, g2, g3⟩ := gcH_ok h h' u
  refine ⟨e.le, e.fresh, e.size, e.keep, by rw [g2]; exact e.nx, fun b hb hn => ?_, e.os, e.out⟩
  have := e.akeep b hb hn
  cases hq : hget b h with
  | none =>
    cases hq2 : hget b (gcH h h' u) with
    | none => rfl
    | some k => have := g1 b k hq2; rw [e.akeep b hb hn, hq] at this; cases this
  | some k => rw [g3 b k (by rw [hq]; simp) (by rw [this]; exact hq)]
theorem HR.gc {L : Lp} {ρ ρ' : Rho} {h h' : H} {w w' : World} (hr : HR L ρ h w) (hr' : HR L ρ' h' w') (u : AV) : HR L ρ' (gcH h h' u) w' := by
  obtain ⟨g1, g2, g3⟩ := gcH_ok h h' u
  refine hr'.fewer g1 g2 fun B o e => ?_
  obtain ⟨_, n, t, _, q2⟩ := hr.ro B o e
  obtain ⟨_, n', t', _, q2'⟩ := hr'.ro B o e
  rw [q2', g3 _ _ (by rw [q2]; simp) q2']
theorem LG.gc {L P f F cs ρ h w r} (hr : HR L ρ h w) (hl : LG L P f F cs ρ h w r) : LG L P f F cs ρ h w (gcC h r) := by
  cases r with
  | ret u h' =>
    obtain ⟨ρ', v, w', F', q1, q2, q3, q4⟩ := hl
    exact ⟨ρ', v, w', F', q1.gc u, q2, hr.gc q3 u, q4⟩
  | pn c h' =>
    obtain ⟨ρ', v, w', F', q1, q2, q3, q4⟩ := hl
    exact ⟨ρ', v, w', F', q1.gc _, q2, hr.gc q3 _, q4⟩
  | bad _ => trivial
theorem LG.cg {L P f F ρ h w r} (hl : ∀ c cs, LG L P f F (c :: cs) ρ h w r) : CG L P F ρ h w r := by
  cases r with
  | ret u h' => intro c cs; obtain ⟨ρ', v, w', F', q1, q2, q3, q4, q5, q6⟩ := hl c cs; exact ⟨ρ', v, w', q1, q2, q3, q4.trans (.one (step_leave_returned q6))⟩
  | pn ch h' => intro c cs; obtain ⟨ρ', v, w', F', q1, q2, q3, q4, q5, q6⟩ := hl c cs; exact ⟨ρ', v, w', q1, q2, q3, q4.trans (.one (step_leave_panicked q6))⟩
  | bad _ => trivial
theorem step_collected {P : Program} {fr : Frame} {cs : List Frame} {w w' : World} {B : Nat} {as : Array Value} {ds calls : List Deferred} (hm : fr.mode ≠ .run) (hd : fr.defers = { target := .collected B, args := as } :: ds)
    (ht : (Instr.takeDeferred B).run P w = .ok calls w') : step P (lone fr cs w) = .next (lone { fr with defers := calls ++ ds } cs w') := by
  refine step_lone_go ?_
  cases hmode : fr.mode with
  | run => exact absurd hmode hm
  | returning => simp [_root_.Go.stepG, unwind, hmode, hd, Sem.runT_eq, ht, GStep.bare_after]
  | panicking chain => simp [_root_.Go.stepG, unwind, hmode, hd, Sem.runT_eq, ht, GStep.bare_after]
section leave
variable {L : Lp} {P : Program} {T : TT} {g : Nat} (hT : TOK T P) {ih : EX} (hi : ExS L P T g ih) {call : CallF} (hc : CallS L P g call) (hbad : ∀ w fr df h, ∃ q, ih (.bad w) fr df h = .bad q) {E : Env} (hE : EnvOK L E P T g)
include hT hi hc hbad hE
theorem leave_ok {f : Nat} {fn : Func} (hfn : P.funcs[f]? = some fn) {res : List (Bool × Pth × Nat)} (hres : cRes T fn.results.toList = some res) {n : Nat} {fr : Fr} :
    ∀ (ds : List (DF ⊕ Pth)) (md : Md) (h : H) (ρ : Rho) (w : World) (F : Frame) (cs : List Frame), HR L ρ h w → GR ρ g → FrR ρ n fr F.tmps → DRs ρ ds F.defers → MdR ρ md F.mode → F.fn = f → F.kind = .normal →
      LG L P f F cs ρ h w (leave E ih call res fr ds md h) := by
  intro ds
  induction ds with
  | nil =>
    intro md h ρ w F cs hr hg hf hd hm hff hk
    have hd : F.defers = [] := hd
    cases md with
    | ret =>
      have hm : F.mode = .returning := hm
      simp only [leave]
      split
      · rename_i l hl
        obtain ⟨v, q1, q2⟩ := results_ok (P := P) hT hr hf hres hl
        exact ⟨ρ, v, w, F, .refl _ _ _, q2, hr, .refl _ _, hff, hm, hd, hk, fn, by rw [hff]; exact hfn, q1⟩
      · trivial
    | pan c =>
      obtain ⟨ch, hm, hch⟩ := hm
      exact ⟨ρ, ch, w, F, .refl _ _ _, hch, hr, .refl _ _, hff, hm, hd, fn, by rw [hff]; exact hfn⟩
  | cons d ds IH =>
    intro md h ρ w F cs hr hg hf hd hm hff hk
    obtain ⟨e, l', hde, hd1, hd2⟩ := hd
    cases d with
    | inr p =>
      obtain ⟨x, hx, rfl⟩ := hd1
      simp only [leave]
      split
      · rename_i hcol
        obtain ⟨o, h1, rfl⟩ := hr.blk p x _ hx hcol
        have ht := run_takeDeferred (P := P) h1
        have hst := step_collected (cs := cs) hm.ne hde ht
        have hext : Ext ρ h w ρ (hset p none h) (w.putObj x.1 (.deferred none)) := Ext.upd hx (putObj_oth _ _ _) (by simp) rfl rfl
        exact LG.head hext (.one hst) (IH md _ ρ _ { F with defers := [] ++ l' } cs (hr.strike hx hcol (putObj_oth _ _ _) (by simp)) hg hf hd2 hm hff hk)
      · trivial
    | inl d =>
      obtain ⟨c, args, rfl, hargs⟩ := hd1
      simp only [leave]
      split
      · rename_i body r hfi
        rcases hE.fns _ _ hfi with ⟨wb, hb⟩ | ⟨fd, cd, rd, p1, p2, p3, p4, p5⟩
        · cases hb
          rw [execD_other (X := .bad wb) nofun nofun nofun]
          obtain ⟨q, hq⟩ := hbad wb (initFr d.args) (.l []) h
          rw [hq]; trivial
        · cases p4
          rw [pth_num] at p1
          have hcf := callFunc_ok (P := P) p1 p2 p5 (args ++ c) w
          have h1 := step_defer (P := P) (cs := cs) (fv := .func d.f) (cap := c) (f := d.f) (args := args ++ c) hm.ne hde rfl (by simp only [invoke]; exact hcf)
          -- the frame
          let b : Frame := { (default : Frame) with fn := d.f, kind := .deferred }
          have henter : Frame.enter P d.f (args ++ c) .deferred = b.atR { tmps := (args ++ c) ++ Array.replicate (fd.ntmps - (args ++ c).size) undef, defers := [] } [.code cd] := by
            simp [Frame.enter, Frame.atR, p1, p2, b]
            rfl
          have s0 : SR L g fd.ntmps ρ (initFr d.args) (.l []) h b.roundOf { tmps := (args ++ c) ++ Array.replicate (fd.ntmps - (args ++ c).size) undef, defers := [] } w := ⟨hr, hg, initFr_ok hargs _, rfl, rfl⟩
          have hdg := execD_ok hT hi hc hbad cd (n := fd.ntmps) (b := b) rfl rfl (k := []) (c0 := { F with defers := l' }) (cs := cs) s0 hm
          rw [← henter] at hdg
          have hc0 : ({ ({ F with defers := l' } : Frame) with mode := F.mode } : Frame) = { F with defers := l' } := rfl
          rw [hc0] at hdg
          generalize execD ih call (cCode T g fd.ntmps cd) md (initFr d.args) (.l []) h = rm at hdg
          obtain ⟨rr, md'⟩ := rm
          have done : ∀ {fr' : Fr} {df' : Df} {h' : H} {ρ' : Rho} {a : Act} {w' : World} {u : FrameMode} {todo : List Item}, Ext ρ h w ρ' h' w' → SR L g fd.ntmps ρ' fr' df' h' b.roundOf a w' → MdR ρ' md' u →
              Steps P (lone (Frame.enter P d.f (args ++ c) .deferred) ({ F with defers := l' } :: cs) w) (lone { b.atR a todo with mode := .returning } ({ ({ F with defers := l' } : Frame) with mode := u } :: cs) w') →
              LG L P f F cs ρ h w (match noDf df', readRes fr' h' r with | true, some _ => leave E ih call res fr ds (settleM md') h' | _, _ => .bad 309) := by
            intro fr' df' h' ρ' a w' u todo q1 q2 q3 q4
            split
            · rename_i hnd hrr
              have hdf : df' = .l [] := by
                cases df' with
                | no p => cases hnd
                | l ds => cases ds with | nil => rfl | cons _ _ => cases hnd
              subst hdf
              have had : a.defers = [] := q2.df.2
              obtain ⟨v, r1, _⟩ := results_ok (P := P) hT q2.hr q2.fr p3 hrr
              have hst := step_going_returned (P := P) (c := { ({ F with defers := l' } : Frame) with mode := u }) (cs := cs) (fr := { b.atR a todo with mode := .returning }) (w := w') (v := v) rfl ⟨rfl, had, fd, p1, r1⟩
              exact LG.head q1 (.head h1 (q4.trans (.one hst))) (IH _ h' ρ' w' _ cs q2.hr q2.gr (hf.mono q1.le) (hd2.mono q1.le) (settle_ok q3) hff hk)
            · trivial
          cases rr with
          | nrm fr' df' h' =>
            obtain ⟨ρ', a, w', u, q1, q2, q3, q4⟩ := hdg
            exact done (todo := []) q1 q2 q3 (q4.trans (.one (stepR_end rfl)))
          | rt fr' df' h' =>
            obtain ⟨ρ', a, w', u, k', q1, q2, q3, q4⟩ := hdg
            exact done q1 q2 q3 (q4.trans (.one (stepR_ret rfl)))
          | pn ch fr' df' h' =>
            obtain ⟨ρ', a, w', u, k', chl, q1, q2, q3, q4, q5⟩ := hdg
            show LG L P f F cs ρ h w (match noDf df' with | true => leave E ih call res fr ds (raisedM md' ch) h' | _ => .bad 309)
            split
            · rename_i hnd
              have hdf : df' = .l [] := by
                cases df' with
                | no p => cases hnd
                | l ds => cases ds with | nil => rfl | cons _ _ => cases hnd
              subst hdf
              have had : a.defers = [] := q2.df.2
              have hst := step_going_panicked (P := P) (c := { ({ F with defers := l' } : Frame) with mode := u }) (cs := cs) (fr := { b.atR a k' with mode := .panicking chl }) (w := w') (chain := chl) ⟨rfl, had, fd, p1⟩
              exact LG.head q1 (.head h1 (q5.trans (.one hst))) (IH _ h' ρ' w' _ cs q2.hr q2.gr (hf.mono q1.le) (hd2.mono q1.le) (raised_ok q3 q4) hff hk)
            · trivial
          | ex i fr' df' h' => trivial
          | bad _ => trivial
      · trivial
end leave
end Go.Kx

/- Calls, rounds; the evaluator is sound. -/
namespace Go.Kx
section fn
variable {L : Lp} {P : Program} {T : TT} {g : Nat} {ro : Option (Nat × Obj)} {S : (Nat → Int) → Prop} (hT : TOK T P) {ih : EX} (hi : ExS L P T g ih) {call : CallF} (hc : CallS L P g call) (hbad : ∀ w fr df h, ∃ q, ih (.bad w) fr df h = .bad q) {E : Env} (hE : EnvOK L E P T g)
include hT hi hc hbad hE
/-- A function, called. -/
theorem fn_ok {f : Pth} {args : List AV} {h : H} {ρ : Rho} {w : World} {args' : Array Value} (hr : HR L ρ h w) (hg : GR ρ g) (ha : VRs ρ args args'.toList) :
    (∃ q, callE E ih call none f args h = .bad q) ∨ ((callFunc f.num args').run P w = .ok (.enter f.num args') w ∧ ∀ cs, LG L P f.num (Frame.enter P f.num args' .normal) cs ρ h w (callE E ih call none f args h)) := by
  show (∃ q, optK (primR E f args h) (gcR E f h (optK (Tr.get f E.fns) (.bad 322) (callI E ih call args h))) (fun r => r) = .bad q) ∨ (_ ∧ ∀ cs, LG L P f.num _ cs ρ h w (optK (primR E f args h) (gcR E f h (optK (Tr.get f E.fns) (.bad 322) (callI E ih call args h))) (fun r => r)))
  rcases optK_cases (primR E f args h) (gcR E f h (optK (Tr.get f E.fns) (.bad 322) (callI E ih call args h))) (fun r => r) with ⟨cr, hcr, e⟩ | ⟨_, e⟩ <;> rw [e]
  · unfold primR at hcr
    rcases optK_cases (Tr.get f E.pr) none (fun p => p args h) with ⟨p, hp, e⟩ | ⟨_, e⟩ <;> rw [e] at hcr
    · exact hE.prs f p args h cr hp hcr ρ w args' hr hg ha
    · cases hcr
  suffices hmain : (∃ q, optK (Tr.get f E.fns) (.bad 322) (callI E ih call args h) = .bad q) ∨ ((callFunc f.num args').run P w = .ok (.enter f.num args') w ∧ ∀ cs, LG L P f.num (Frame.enter P f.num args' .normal) cs ρ h w (optK (Tr.get f E.fns) (.bad 322) (callI E ih call args h))) by
    unfold gcR
    rcases optK_cases (Tr.get f E.gc) (optK (Tr.get f E.fns) (.bad 322) (callI E ih call args h)) (fun _ => gcC h (optK (Tr.get f E.fns) (.bad 322) (callI E ih call args h))) with ⟨_, _, e⟩ | ⟨_, e⟩ <;> rw [e]
    · rcases hmain with ⟨q, hq⟩ | ⟨q1, q2⟩
      · exact .inl ⟨q, by rw [hq]; rfl⟩
      · exact .inr ⟨q1, fun cs => (q2 cs).gc hr⟩
    · exact hmain
  rcases optK_cases (Tr.get f E.fns) (CR.bad 322) (callI E ih call args h) with ⟨fi, hfi, e⟩ | ⟨_, e⟩ <;> rw [e]
  case inr => exact .inl ⟨_, rfl⟩
  rcases hE.fns _ _ hfi with ⟨wb, rfl⟩ | ⟨fd, cd, rd, p1, p2, p3, rfl, p5⟩
  · obtain ⟨q, hq⟩ := hbad wb (initFr args) (.l []) h
    refine .inl ⟨q, ?_⟩
    show finK E ih call [] (ih (.bad wb) (initFr args) (.l []) h) = _
    rw [hq]; rfl
  refine .inr ⟨callFunc_ok p1 p2 p5 args' w, fun cs => ?_⟩
  show LG L P f.num _ cs ρ h w (finK E ih call rd (ih (cCode T g fd.ntmps cd) (initFr args) (.l []) h))
  let b : Frame := { (default : Frame) with fn := f.num, kind := .normal }
  have henter : Frame.enter P f.num args' .normal = b.atR { tmps := args' ++ Array.replicate (fd.ntmps - args'.size) undef, defers := [] } [.code cd] := by
    simp [Frame.enter, Frame.atR, p1, p2, b]
    rfl
  have s0 : SR L g fd.ntmps ρ (initFr args) (.l []) h b.roundOf { tmps := args' ++ Array.replicate (fd.ntmps - args'.size) undef, defers := [] } w := ⟨hr, hg, initFr_ok ha _, rfl, rfl⟩
  have h1 := hi.code fd.ntmps cd b [] cs ρ (initFr args) (.l []) h _ w s0
  rw [← henter] at h1
  have fin : ∀ {fr : Fr} {df : List (DF ⊕ Pth)} {h' : H} {ρ' : Rho} {a : Act} {w' : World} {md : Md} {F : Frame}, Ext ρ h w ρ' h' w' → SR L g fd.ntmps ρ' fr (.l df) h' b.roundOf a w' → F.tmps = a.tmps → F.defers = a.defers → F.fn = f.num → F.kind = .normal → MdR ρ' md F.mode →
      Steps P (lone (Frame.enter P f.num args' .normal) cs w) (lone F cs w') → LG L P f.num (Frame.enter P f.num args' .normal) cs ρ h w (leave E ih call rd fr df md h') := by
    intro fr df h' ρ' a w' md F e s' q1 q2 q3 q4 hm st
    exact LG.head e st (leave_ok hT hi hc hbad hE p1 p3 df md h' ρ' w' F cs s'.hr s'.gr (by rw [q1]; exact s'.fr) (by rw [q2]; exact s'.df.2) hm q3 q4)
  generalize ih (cCode T g fd.ntmps cd) (initFr args) (.l []) h = r at h1
  cases r with
  | nrm fr df h' =>
    obtain ⟨ρ', a, w', e, s', st⟩ := h1
    cases df with
    | no p => trivial
    | l df => exact fin (F := { b.atR a [] with mode := .returning }) e s' rfl rfl rfl rfl (rfl : MdR ρ' .ret .returning) (st.trans (.one (stepR_end rfl)))
  | rt fr df h' =>
    obtain ⟨ρ', a, w', k', e, s', st⟩ := h1
    cases df with
    | no p => trivial
    | l df => exact fin (F := { b.atR a (.code .ret :: k') with mode := .returning }) e s' rfl rfl rfl rfl (rfl : MdR ρ' .ret .returning) (st.trans (.one (stepR_ret rfl)))
  | pn c fr df h' =>
    obtain ⟨ρ', a, w', k', ch, e, s', hch, _, st⟩ := h1
    cases df with
    | no p => trivial
    | l df => exact fin (md := .pan c) e s' rfl rfl rfl rfl ⟨ch, rfl, hch⟩ st
  | ex i fr df h' => trivial
  | bad _ => trivial
end fn

/-! ### Rounds -/
theorem setPs_ok {ρ : Rho} {n : Nat} : ∀ {ps : List Tmp} {args : List AV} {args' : List Value} {fr fr' : Fr} {tmps : Array Value}, (∀ t ∈ ps, t < n) → setPs (ps.map pth) args fr = some fr' → VRs ρ args args' → FrR ρ n fr tmps →
    args'.length = ps.length ∧ FrR ρ n fr' ((ps.zip args').foldl (fun tmps (t, a) => tmps.setIfInBounds t a) tmps)
  | [], [], args', fr, fr', tmps, hp, hs, ha, hf => by
    obtain rfl : args' = [] := ha
    simp only [List.map_nil, setPs] at hs; cases hs
    exact ⟨rfl, hf⟩
  | [], _ :: _, args', fr, fr', tmps, hp, hs, ha, hf => by simp [setPs] at hs
  | _ :: _, [], args', fr, fr', tmps, hp, hs, ha, hf => by simp [setPs] at hs
  | t :: ps, u :: args, args', fr, fr', tmps, hp, hs, ha, hf => by
    obtain ⟨v, l', rfl, hv, hl⟩ := ha
    simp only [List.map_cons, setPs] at hs
    obtain ⟨q1, q2⟩ := setPs_ok (fun t ht => hp t (by simp [ht])) hs hl (hf.put (hp t (by simp)) hv)
    exact ⟨by simp [q1], q2⟩
section round
variable {P : Program} {T : TT} {g : Nat} {ro : Option (Nat × Obj)} {S : (Nat → Int) → Prop} (hT : TOK T P) {ih : EX} (hi : ExS (theLp T g ro S) P T g ih)
include hT hi
/-- The end of a round. -/
theorem roundK_ok {ρ : Rho} {h : H} {w : World} (hr : HR (theLp T g ro S) ρ h w) {l : Pth} {x : Nat × Nat × Nat} (hx : ρ.blk l = some x) (v : Bool) (pe : Option (Option Nat)) (jump : Option Code)
    (hj : (pe = none ∧ jump = none ∧ v = true) ∨ (pe = some none ∧ jump = some .ret ∧ v = false) ∨ (∃ i, i ≠ 1000000000 ∧ pe = some (some i) ∧ jump = some (.exit i) ∧ v = false)) :
    (∃ q, roundK l h v pe = .bad q) ∨ ∃ h' w', roundK l h v pe = .ret (.bool v) h' ∧ Ext ρ h w ρ h' w' ∧ HR (theLp T g ro S) ρ h' w' ∧ (Instr.endRound x.1 jump).run P w = .ok (.bool v) w' := by
  unfold roundK
  split
  · rename_i fr ps a b pe' hg
    obtain ⟨o, h1, n', r, rfl, p1, p2, p3, p4, p5, p6⟩ := hr.blk l x _ hx hg
    have he := run_endRound (P := P) jump h1
    have hv : (.bool jump.isNone : Value) = .bool v := by
      rcases hj with ⟨_, rfl, rfl⟩ | ⟨_, rfl, rfl⟩ | ⟨i, _, _, rfl, rfl⟩ <;> rfl
    rw [hv] at he
    refine .inr ⟨_, _, rfl, ?_, ?_, he⟩
    · exact Ext.upd hx (putObj_oth _ _ _) (by simp) rfl rfl
    · refine hr.upd hx hg (World.putObj_heap_same (hr.lt l x hx).1) ?_ (putObj_oth _ _ _) (by simp)
      refine ⟨n', _, rfl, p1, p2, p3, p4, p5, ?_⟩
      rcases hj with ⟨rfl, rfl, rfl⟩ | ⟨rfl, rfl, rfl⟩ | ⟨i, hne, rfl, rfl, rfl⟩
      · exact ⟨rfl, rfl⟩
      · exact ⟨rfl, rfl⟩
      · unfold peR; dsimp only; rw [if_neg hne]; exact ⟨rfl, rfl⟩
  · exact .inl ⟨_, rfl⟩
theorem yl_ok {l : Pth} {args : List AV} {h : H} {ρ : Rho} {w : World} {args' : Array Value} {x : Nat × Nat × Nat} (hr : HR (theLp T g ro S) ρ h w) (hg : GR ρ g) (hx : ρ.blk l = some x) (ha : VRs ρ args args'.toList) :
    (∃ q, callY ih l args h = .bad q) ∨ ∃ y f tmps as bd, (Instr.yield x.1 args').run P w = .ok (.round y f tmps as bd) w ∧ CG (theLp T g ro S) P (Frame.round y f tmps as bd .normal) ρ h w (callY ih l args h) := by
  unfold callY
  split
  case h_2 => exact .inl ⟨_, rfl⟩
  rename_i fr ps A B pe hgl
  obtain ⟨o, h1, n, r, rfl, p1, p2, p3, p4, p5, p6⟩ := hr.blk l x _ hx hgl
  subst p2 p4 p5
  rcases optK_cases (setPs (r.params.toList.map pth) args fr) (CR.bad 320) (fun fr => roundE l (roundB ih l (cCode T g n r.assign) (cCode T g n r.body) (ih (cCode T g n r.assign) fr (.no l) h))) with ⟨fr0, hfr, e⟩ | ⟨_, e⟩ <;> rw [e]
  case inr => exact .inl ⟨_, rfl⟩
  obtain ⟨q1, q2⟩ := setPs_ok (fun t ht => p3 t (by simpa using ht)) hfr ha p1
  have hy := run_yield (P := P) (args := args') h1 (by simpa using q1)
  refine .inr ⟨_, _, _, _, _, hy, ?_⟩
  have hzip : (r.params.zip args').foldl (fun tmps (t, a) => tmps.setIfInBounds t a) r.tmps = (r.params.toList.zip args'.toList).foldl (fun tmps (t, a) => tmps.setIfInBounds t a) r.tmps := by
    rw [← Array.foldl_toList, Array.toList_zip]
  rw [hzip]
  generalize (r.params.toList.zip args'.toList).foldl (fun tmps (t, a) => tmps.setIfInBounds t a) r.tmps = tm at q2
  let b : Frame := { (default : Frame) with fn := r.fn, kind := .normal, roundOf := some x.1 }
  have hround : Frame.round x.1 r.fn tm r.assign r.body .normal = b.atR { tmps := tm, defers := [] } [.code r.assign, .beginRound, .code r.body] := rfl
  have s0 : SR (theLp T g ro S) g n ρ fr0 (.no l) h b.roundOf { tmps := tm, defers := [] } w := ⟨hr, hg, q2, ⟨x, hx, rfl⟩, rfl⟩
  -- a panic
  have pan : ∀ {c : Chain} {fr' : Fr} {df' : Df} {h' : H} {ρ' : Rho} {a : Act} {w' : World} {k' : List Item} {ch : List PanicEntry} {cc : Frame} {cs : List Frame}, Ext ρ h w ρ' h' w' → SR (theLp T g ro S) g n ρ' fr' df' h' b.roundOf a w' → ChR ρ' c ch → NC k' →
      Steps P (lone (Frame.round x.1 r.fn tm r.assign r.body .normal) (cc :: cs) w) (lone { b.atR a k' with mode := .panicking ch } (cc :: cs) w') →
      ∃ ρ' ch' w', Ext ρ h w ρ' h' w' ∧ ChR ρ' c ch' ∧ HR (theLp T g ro S) ρ' h' w' ∧ Steps P (lone (Frame.round x.1 r.fn tm r.assign r.body .normal) (cc :: cs) w) (lone (cc.raise ch') cs w') := by
    intro c fr' df' h' ρ' a w' k' ch cc cs e1 s1 hch hnc st
    refine ⟨ρ', ch, w', e1, hch, s1.hr, st.trans (.one ?_)⟩
    have had : a.defers = [] := by
      cases df' with
      | no p => exact s1.df.2
      | l ds => cases s1.df.1
    refine step_lone_go ?_
    have hcat : Frame.catches P { b.atR a k' with mode := .panicking ch } = false := by
      unfold Frame.catches
      split
      · rename_i heq; simp only [Frame.atR] at heq; rw [heq] at hnc; exact hnc.elim
      · rfl
    simp only [Frame.atR, had] at hcat
    simp [_root_.Go.stepG, unwind, Frame.atR, had, hcat]
  -- what is assigned, then the body
  have main : ∀ cs, RG (theLp T g ro S) P g n b [] cs (lone (Frame.round x.1 r.fn tm r.assign r.body .normal) cs w) ρ h w (roundB ih l (cCode T g n r.assign) (cCode T g n r.body) (ih (cCode T g n r.assign) fr0 (.no l) h)) := by
    intro cs
    have h2 := hi.code n r.assign b [.beginRound, .code r.body] cs ρ fr0 (.no l) h _ w s0
    rw [← hround] at h2
    generalize ih (cCode T g n r.assign) fr0 (.no l) h = R0 at h2
    cases R0 <;> try exact trivial
    rename_i fr1 df1 h1'
    obtain ⟨ρ', a, w', e1, s1, st⟩ := h2
    show RG _ _ _ _ _ _ _ _ _ _ _ (match hget l h1' with
      | some (.lp f ps a' b' none) => ih (cCode T g n r.body) fr1 df1 (hset l (some (.lp f ps a' b' busy)) h1')
      | _ => .bad 318)
    split
    · rename_i f2 ps2 A2 B2 hg2
      have hx' := e1.le.mono _ _ hx
      obtain ⟨o, k1, n2, r2, rfl, u1, u2, u3, u4, u5, u6⟩ := s1.hr.blk l x _ hx' hg2
      have hb := run_beginRound (P := P) k1 u6.1
      have e2 : Ext ρ' h1' w' ρ' (hset l (some (.lp f2 ps2 A2 B2 busy)) h1') (w'.putObj x.1 (.loop { r2 with state := .busy })) := Ext.upd hx' (putObj_oth _ _ _) (by simp) rfl rfl
      have hr2 : HR (theLp T g ro S) ρ' (hset l (some (.lp f2 ps2 A2 B2 busy)) h1') (w'.putObj x.1 (.loop { r2 with state := .busy })) :=
        s1.hr.upd hx' hg2 (World.putObj_heap_same (s1.hr.lt l x hx').1) ⟨n2, _, rfl, u1, u2, u3, u4, u5, by simp [peR, busy]⟩ (putObj_oth _ _ _) (by simp)
      exact RG.head (e1.trans e2) (st.trans (.one (stepR_beginRound rfl hb))) (hi.code n r.body b [] cs ρ' fr1 df1 _ a _ ⟨hr2, s1.gr, s1.fr, s1.df⟩)
    · trivial
  generalize roundB ih l (cCode T g n r.assign) (cCode T g n r.body) (ih (cCode T g n r.assign) fr0 (.no l) h) = R1 at main
  have nopn : ∀ {h' v pe c h''}, roundK l h' v pe ≠ .pn c h'' := by
    intro h' v pe c h'' q
    unfold roundK at q
    split at q <;> cases q
  have retv : ∀ {h' v pe u h''}, roundK l h' v pe = .ret u h'' → u = .bool v := by
    intro h' v pe u h'' q
    unfold roundK at q
    split at q <;> cases q
    rfl
  have exitNil : ∀ i, exitTo i [] = none := fun _ => rfl
  cases R1 with
  | nrm fr' df' h' =>
    cases df' with
    | l ds => trivial
    | no p =>
      show CG _ _ _ _ _ _ (roundK l h' true none)
      generalize hk : roundK l h' true none = cr
      cases cr with
      | bad q => trivial
      | pn c h'' => exact absurd hk nopn
      | ret u h'' =>
        intro c cs
        obtain ⟨ρ', a, w', e1, s1, st⟩ := main (c :: cs)
        have := retv hk; subst this
        rcases roundK_ok hT hi s1.hr (e1.le.mono _ _ hx) true none none (.inl ⟨rfl, rfl, rfl⟩) with ⟨q, hq⟩ | ⟨h3, w3, j1, j2, j3, j4⟩
        · rw [hq] at hk; cases hk
        · rw [j1] at hk; cases hk
          exact ⟨ρ', _, w3, e1.trans j2, rfl, j3, st.trans (.one (stepR_round_end rfl rfl j4))⟩
  | rt fr' df' h' =>
    cases df' with
    | l ds => trivial
    | no p =>
      show CG _ _ _ _ _ _ (roundK l h' false (some none))
      generalize hk : roundK l h' false (some none) = cr
      cases cr with
      | bad q => trivial
      | pn c h'' => exact absurd hk nopn
      | ret u h'' =>
        intro c cs
        obtain ⟨ρ', a, w', k', e1, s1, st⟩ := main (c :: cs)
        have := retv hk; subst this
        rcases roundK_ok hT hi s1.hr (e1.le.mono _ _ hx) false (some none) (some .ret) (.inr (.inl ⟨rfl, rfl, rfl⟩)) with ⟨q, hq⟩ | ⟨h3, w3, j1, j2, j3, j4⟩
        · rw [hq] at hk; cases hk
        · rw [j1] at hk; cases hk
          exact ⟨ρ', _, w3, e1.trans j2, rfl, j3, st.trans (.one (stepR_round_ret rfl rfl j4))⟩
  | ex i fr' df' h' =>
    cases df' with
    | l ds => trivial
    | no p =>
      show CG _ _ _ _ _ _ (match Nat.beq i 1000000000 with | true => .bad 316 | false => roundK l h' false (some (some i)))
      split
      · trivial
      rename_i hi9
      have hi' : i ≠ 1000000000 := fun e => by subst e; simp at hi9
      generalize hk : roundK l h' false (some (some i)) = cr
      cases cr with
      | bad q => trivial
      | pn c h'' => exact absurd hk nopn
      | ret u h'' =>
        intro c cs
        obtain ⟨ρ', a, w', k', e1, s1, hex, st⟩ := main (c :: cs)
        have := retv hk; subst this
        rcases roundK_ok hT hi s1.hr (e1.le.mono _ _ hx) false (some (some i)) (some (.exit i)) (.inr (.inr ⟨i, hi', rfl, rfl, rfl⟩)) with ⟨q, hq⟩ | ⟨h3, w3, j1, j2, j3, j4⟩
        · rw [hq] at hk; cases hk
        · rw [j1] at hk; cases hk
          exact ⟨ρ', _, w3, e1.trans j2, rfl, j3, st.trans (.one (stepR_round_exit rfl rfl (hex.trans (exitNil i)) j4))⟩
  | pn c fr' df' h' =>
    cases df' with
    | l ds => trivial
    | no p =>
      intro cc cs
      obtain ⟨ρ', a, w', k', ch, e1, s1, hch, hnc, st⟩ := main (cc :: cs)
      exact pan e1 s1 hch hnc st
  | bad _ => trivial
end round

/-! ### All of it -/
/-- THE EVALUATOR IS SOUND. -/
theorem runF_ok {ro : Option (Nat × Obj)} {S : (Nat → Int) → Prop} {P : Program} {T : TT} {g : Nat} (hT : TOK T P) {E : Env} (hE : EnvOK (theLp T g ro S) E P T g) (hd : ∀ call, CallS (theLp T g ro S) P g call → DrS (theLp T g ro S) P T g call) : ∀ k : Nat,
    ExS (theLp T g ro S) P T g (runF E k).ex ∧ CallS (theLp T g ro S) P g (runF E k).call ∧ ∀ w fr df h, ∃ q, (runF E k).ex (.bad w) fr df h = .bad q
  | 0 => ⟨⟨fun _ _ _ _ _ _ _ _ _ _ _ _ => trivial, fun _ _ _ _ _ _ _ _ _ _ _ _ => trivial⟩, ⟨fun _ _ _ _ _ _ _ _ _ => .inl ⟨_, rfl⟩, fun _ _ _ _ _ _ _ _ _ _ _ => .inl ⟨_, rfl⟩⟩, fun _ _ _ _ => ⟨_, rfl⟩⟩
  | k + 1 => by
    obtain ⟨h1, h2, h3⟩ := runF_ok hT hE hd k
    refine ⟨ex_ok hT h1 h2 (hd _ h2) (rf_ok hT h2), ⟨?_, ?_⟩, fun w fr df h => ⟨w, rfl⟩⟩
    · intro f args h ρ w args' hr hg ha
      rcases fn_ok hT h1 h2 h3 hE hr hg ha (f := f) with ⟨q, hq⟩ | ⟨q1, q2⟩
      · exact .inl ⟨q, hq⟩
      · exact .inr ⟨q1, LG.cg fun c cs => q2 (c :: cs)⟩
    · intro b args h ρ w args' x hr hg hx ha
      exact yl_ok hT h1 hr hg hx ha
end Go.Kx

/- Of the evaluator's result: what the kit asks of a call. -/
namespace Go.Kx
/-- A call that returns. -/
theorem calls_of_run {ro : Option (Nat × Obj)} {S : (Nat → Int) → Prop} {P : Program} {T : TT} {g : Nat} (hT : TOK T P) {E : Env} (hE : EnvOK (theLp T g ro S) E P T g) (hd : ∀ call, CallS (theLp T g ro S) P g call → DrS (theLp T g ro S) P T g call) (k f : Nat) {args : List AV} {args' : Array Value} {h h' : H} {u : AV} {ρ : Rho} {w : World}
    (hr : HR (theLp T g ro S) ρ h w) (hg : GR ρ g) (ha : VRs ρ args args'.toList) (he : (runF E (k + 1)).call none (pth f) args h = .ret u h') :
    Calls P f args' w (fun | .returned v, w' => ∃ ρ', Ext ρ h w ρ' h' w' ∧ VR ρ' u v ∧ HR (theLp T g ro S) ρ' h' w' | _, _ => False) := by
  obtain ⟨h1, h2, h3⟩ := runF_ok hT hE hd k
  have he : callE E (runF E k).ex (runF E k).call none (pth f) args h = .ret u h' := he
  rcases fn_ok hT h1 h2 h3 hE hr hg ha (f := pth f) with ⟨q, hq⟩ | ⟨_, q2⟩
  · rw [he] at hq; cases hq
  · intro cs
    have := q2 cs
    rw [he, pth_num] at this
    obtain ⟨ρ', v, w', F', e1, e2, e3, e4, e5, e6⟩ := this
    exact ⟨.returned v, w', F', ⟨ρ', e1, e2, e3⟩, e4, e5, e6⟩
end Go.Kx

/- Operations that hang on little. -/
namespace Go.Kx
/-- It leaves memory as it is, and says the same in related memory; or it is bad. -/
def St (Q : H → H → Prop) (F : H → AR) : Prop := ∀ h, (∃ n, F h = .bad n) ∨ ∃ v, F h = .val v h ∧ ∀ h2, Q h h2 → F h2 = .val v h2
/-- Memory with more blocks. -/
def Sub (h h2 : H) : Prop := ∀ b k, hget b h = some k → hget b h2 = some k
def Any (h h2 : H) : Prop := True
section comb
variable {Q : H → H → Prop}
theorem st_bad (n : Nat) : St Q (fun _ => .bad n) := fun h => .inl ⟨n, rfl⟩
theorem st_val (u : AV) : St Q (fun h => .val u h) := fun h => .inr ⟨u, rfl, fun _ _ => rfl⟩
theorem st_optK {α : Type} {o : Option α} {n : Nat} {F : α → H → AR} (hF : ∀ a, St Q (F a)) : St Q (fun h => optK o (.bad n) (fun a => F a h)) := by
  cases o with
  | none => exact st_bad n
  | some a => exact hF a
theorem st_ifB {b : Bool} {F G : H → AR} (hF : St Q F) (hG : St Q G) : St Q (fun h => ifB b (F h) (G h)) := by
  cases b with
  | false => exact hG
  | true => exact hF
theorem st_onInt {v : AV} {n : Nat} {F : IntKind → Nat → H → AR} (hF : ∀ j z, St Q (F j z)) : St Q (fun h => onInt v (.bad n) (fun j z => F j z h)) := by
  cases v <;> first | exact st_bad n | exact hF _ _
theorem st_onInt' {v : AV} {G : H → AR} {F : IntKind → Nat → H → AR} (hG : St Q G) (hF : ∀ j z, St Q (F j z)) : St Q (fun h => onInt v (G h) (fun j z => F j z h)) := by
  cases v <;> first | exact hG | exact hF _ _
theorem st_symV (s : SI) : St Q (fun h => symV s h) := st_ifB (st_val _) (st_bad _)
theorem st_symO (o : Option SI) : St Q (fun h => symO o h) := st_optK fun r => st_symV r
theorem st_symC (ng : Bool) (s t : SI) (o : Option Bool) : St Q (fun h => symC ng s t o h) := st_ifB (st_optK fun b => st_val _) (st_bad _)
theorem st_symB (op : BK) (a b : AV) : St Q (fun h => symB op a b h) := by
  unfold symB
  split
  · cases op <;> first | exact st_bad _ | exact st_symO _ | exact st_symC _ _ _ _
  · exact st_bad _
theorem st_onBool {v : AV} {n : Nat} {F : Bool → H → AR} (hF : ∀ z, St Q (F z)) : St Q (fun h => onBool v (.bad n) (fun z => F z h)) := by
  cases v <;> first | exact st_bad n | exact hF _
theorem st_onStr {v : AV} {n : Nat} {F : Nat → Nat → H → AR} (hF : ∀ j z, St Q (F j z)) : St Q (fun h => onStr v (.bad n) (fun j z => F j z h)) := by
  cases v <;> first | exact st_bad n | exact hF _ _
theorem st_onPtr {v : AV} {n : Nat} {F : Pth → Nat → H → AR} (hF : ∀ j z, St Q (F j z)) : St Q (fun h => onPtr v (.bad n) (fun j z => F j z h)) := by
  cases v <;> first | exact st_bad n | exact hF _ _
theorem st_onSl {v : AV} {n : Nat} {G : H → AR} {F : Pth → Nat → Nat → Nat → Bool → Nat → H → AR} (hG : St Q G) (hF : ∀ b o l c x e, St Q (F b o l c x e)) : St Q (fun h => onSl v (.bad n) (G h) (fun b o l c x e => F b o l c x e h)) := by
  cases v <;> first | exact st_bad n | exact hG | exact hF _ _ _ _ _ _
theorem st_onCells {b : Pth} {n : Nat} {F : Tr AV → H → AR} (hF : ∀ t, St Sub (F t)) : St Sub (fun h => onCells (hget b h) (.bad n) (fun t => F t h)) := by
  intro h
  dsimp only
  rcases onCells_cases (hget b h) (AR.bad n) (fun t => F t h) with ⟨t, ht, e'⟩ | e' <;> rw [e']
  · rcases hF t h with ⟨m, hm⟩ | ⟨v, q1, q2⟩
    · exact .inl ⟨m, hm⟩
    · refine .inr ⟨v, q1, fun h2 hs => ?_⟩
      rw [hs b _ ht]
      exact q2 h2 hs
  · exact .inl ⟨n, rfl⟩
theorem st_onCellsR {b : Pth} {n : Nat} {F : Tr AV → H → AR} (hF : ∀ t, St Sub (F t)) : St Sub (fun h => onCellsR (hget b h) (.bad n) (fun t => F t h)) := by
  intro h
  dsimp only
  rcases onCellsR_cases (hget b h) (AR.bad n) (fun t => F t h) with ⟨t, ht, e'⟩ | e' <;> rw [e']
  · rcases hF t h with ⟨m, hm⟩ | ⟨v, q1, q2⟩
    · exact .inl ⟨m, hm⟩
    · refine .inr ⟨v, q1, fun h2 hs => ?_⟩
      have : ∀ d, onCellsR (hget b h2) d (fun t => F t h2) = F t h2 := fun d => by
        rcases ht with ht | ht <;> (rw [hs b _ ht]; rfl)
      rw [this]
      exact q2 h2 hs
  · exact .inl ⟨n, rfl⟩
theorem st_onMap {b : Pth} {n : Nat} {F : List (AV × AV) → H → AR} (hF : ∀ t, St Sub (F t)) : St Sub (fun h => onMap (hget b h) (.bad n) (fun t => F t h)) := by
  intro h
  dsimp only
  rcases onMap_cases (hget b h) (AR.bad n) (fun t => F t h) with ⟨t, ht, e'⟩ | e' <;> rw [e']
  · rcases hF t h with ⟨m, hm⟩ | ⟨v, q1, q2⟩
    · exact .inl ⟨m, hm⟩
    · refine .inr ⟨v, q1, fun h2 hs => ?_⟩
      rw [hs b _ ht]
      exact q2 h2 hs
  · exact .inl ⟨n, rfl⟩
theorem st_found {z : AV} {ok : Bool} (r : Option AV) : St Q (fun h => found z ok h r) := by cases r <;> exact st_val _
theorem st_lenV (n : Nat) : St Q (fun h => lenV n h) := st_ifB (st_val _) (st_bad _)
end comb
section ops
variable {Q : H → H → Prop} {fr : Fr}
theorem st_ev1 {x : X} {F : AV → H → AR} (hF : ∀ a, St Q (F a)) : St Q (fun h => ev1 x fr (fun a => F a h)) := st_optK hF
theorem st_ev2 {x y : X} {F : AV → AV → H → AR} (hF : ∀ a b, St Q (F a b)) : St Q (fun h => ev2 x y fr (fun a b => F a b h)) := st_optK fun a => st_optK fun b => hF a b
theorem st_mov (x : X) : St Q (hMov x fr) := st_optK fun _ => st_val _
theorem st_ibin (op : BK) (k : IntKind) (a b : Nat) : St Q (ibin op k a b) := by
  cases op <;> first
    | exact st_val _
    | exact st_bad _
    | exact st_ifB (st_bad _) (st_val _)
    | exact st_ifB (st_bad _) (st_ifB (st_val _) (st_bad _))
theorem st_sbin (op : BK) (l a m b : Nat) : St Q (sbin op l a m b) := by
  cases op <;> first
    | exact st_val _
    | exact st_bad _
    | exact st_ifB (st_val _) (st_bad _)
theorem st_tass (t : Nat) (z v : AV) (ok : Bool) : St Q (fun h => match v with
  | .nili => ifB ok (found z ok h none) (.bad 100)
  | .ifc u v => ifB (Nat.beq u t) (found z ok h (some v)) (ifB ok (found z ok h none) (.bad 101))
  | _ => .bad 102) := by
  cases v <;> first
    | exact st_bad _
    | exact st_ifB (st_found _) (st_bad _)
    | exact st_ifB (st_found _) (st_ifB (st_found _) (st_bad _))
/-- Operations that hang on their operands alone. -/
theorem st_op0 {o : FOp} (ho : cls o = 0) : St Q (opAR o fr) := by
  cases o <;> first | (cases ho; done) | skip
  case mov x => exact st_mov x
  case pick c a b => exact st_ev1 fun _ => st_onBool fun z => st_ifB (st_mov a) (st_mov b)
  case build z ps => exact st_optK fun _ => st_optK fun _ => st_val _
  case nilc x => exact st_ev1 fun _ => st_ifB (st_bad _) (st_val _)
  case ibin op x y =>
    refine st_ev2 fun a b => st_onInt' (st_symB op a b) fun j za => st_onInt' (st_symB op a b) fun k zb => ?_
    cases op <;> first
      | exact st_ifB (st_ibin _ _ _ _) (st_bad _)
      | exact st_ifB (st_ifB (st_val _) (st_bad _)) (st_bad _)
  case sbin op x y => exact st_ev2 fun a b => st_onStr fun l a => st_onStr fun m b => st_sbin op l a m b
  case bbin ng x y => exact st_ev2 fun a b => st_onBool fun a => st_onBool fun b => st_val _
  case eq ng kd x y => exact st_ev2 fun a b => st_optK fun r => st_val _
  case neg x => exact st_ev1 fun a => st_onInt fun k a => st_val _
  case not x => exact st_ev1 fun a => st_onBool fun a => st_val _
  case conv k x => exact st_ev1 fun v => st_onInt' (by cases k <;> cases v <;> first | exact st_bad _ | exact st_symV _) fun j z => st_ifB (st_val _) (st_val _)
  case mkif t x => exact st_ev1 fun v => st_val _
  case mkfn f a c => exact st_optK fun a => st_optK fun c => st_val _
  case slS x lo hi => exact st_ev1 fun v => st_onStr fun l z => st_optK fun a => st_optK fun b => st_ifB (st_val _) (st_bad _)
  case slL es x lo hi mx =>
    exact st_ev1 fun v => st_optK fun a => st_ifB (by unfold slLS; split; exact st_optK fun e => st_ifB (st_val _) (st_bad _); exact st_bad _) <| st_onSl (st_optK fun e => st_optK fun m => st_ifB (st_val _) (st_bad _)) fun b o len lb ex es' => st_optK fun e => st_optK fun m => st_ifB (st_val _) (st_bad _)
  case fadr off x => exact st_ev1 fun v => st_onPtr fun b o => st_val _
  case fld off n one x =>
    refine st_ev1 fun v => ?_
    cases v <;> first | exact st_bad _ | exact st_optK fun v => st_val _
  case idxL es x i => exact st_ev2 fun v i => st_onInt fun j i => st_onSl (st_bad _) fun b o len _ _ es' => st_ifB (st_val _) (st_bad _)
  case idxA n es x i => exact st_ev2 fun v i => st_onInt fun j i => st_onPtr fun b o => st_ifB (st_val _) (st_bad _)
  case idxS x i => exact st_ev2 fun v i => st_onInt fun j i => st_onStr fun l z => st_ifB (st_val _) (st_bad _)
  case idxV n es one x i =>
    refine st_ev2 fun v i => st_onInt fun j i => ?_
    cases v <;> first | exact st_bad _ | exact st_ifB (st_optK fun v => st_val _) (st_bad _)
  case ext x i =>
    refine st_ev1 fun v => ?_
    cases v <;> first | exact st_bad _ | exact st_optK fun v => st_val _
  case tass t z x ok => exact st_ev1 fun v => st_tass t z v ok
  case lkl kd z es i ok => exact st_ev1 fun k => st_ifB (st_optK fun es => st_optK fun r => st_found r) (st_bad _)
  case len kd x =>
    refine st_ev1 fun v => ?_
    match kd, ho with
    | 0, _ => cases v <;> first | exact st_bad _ | exact st_lenV _
    | 1, _ => cases v <;> first | exact st_bad _ | exact st_lenV _ | exact st_symV _
    | k + 3, _ => cases v <;> exact st_bad _
  case cap x =>
    refine st_ev1 fun v => ?_
    cases v <;> first | exact st_bad _ | exact st_lenV _ | exact st_ifB (st_lenV _) (st_bad _)
  case max x y => exact st_ev2 fun a b => st_onInt fun j a => st_onInt fun k b => st_ifB (st_val _) (st_bad _)
  case min x y =>
    have hs : ∀ a b, St Q (fun h => symMin a b h) := fun a b => by
      unfold symMin
      split
      · exact st_ifB (st_optK fun c => st_val _) (st_bad _)
      · exact st_bad _
    exact st_ev2 fun a b => st_onInt' (hs a b) fun j za => st_onInt' (hs a b) fun k zb => st_ifB (st_val _) (st_bad _)
/-- Operations that read. -/
theorem st_op1 {o : FOp} (ho : cls o = 1) : St Sub (opAR o fr) := by
  cases o <;> first | (cases ho; done) | skip
  case ld1 a => exact st_ev1 fun a => st_onPtr fun b o => st_onCellsR fun t => st_optK fun v => st_val _
  case ldn n a => exact st_ev1 fun a => st_onPtr fun b o => st_onCellsR fun t => st_optK fun v => st_val _
  case slA n es x lo hi mx => exact st_ev1 fun v => st_optK fun a => st_optK fun e => st_optK fun m => st_onPtr fun b o => st_onCellsR fun t => st_optK fun _ => st_ifB (st_val _) (st_bad _)
  case look kd z x i ok =>
    refine st_ev2 fun m k => st_ifB ?_ (st_bad _)
    cases m <;> first | exact st_bad _ | exact st_found _ | exact st_onMap fun es => st_optK fun r => st_found r
  case len kd x =>
    refine st_ev1 fun v => ?_
    match kd, ho with
    | 2, _ => cases v <;> first | exact st_bad _ | exact st_lenV _ | exact st_onMap fun es => st_lenV _
end ops
end Go.Kx

/- New blocks, which may be bound late. -/
namespace Go.Kx
/-- A new object, that stands for a block under the old relation. -/
def ALOK (L : Lp) (ρ : Rho) (w : World) (res : Result Value) (mk : Pth → AV) (k : Bk) : Prop :=
  ∃ v w' o n, res = .ok v w' ∧ w'.heap = w.heap.push o ∧ w'.os = w.os ∧ w'.output = w.output ∧ BkR L ρ (w.heap.size, 0, n) k o ∧ ∀ ρ' b, ρ'.blk b = some (w.heap.size, 0, n) → VR ρ' (mk b) v
section ops
variable {L : Lp} {ρ : Rho} {w : World} {P : Program} {fr : Fr}
theorem row_BkR {cs : List AV} {c : Array Value} (hv : VRs ρ cs (c.toList.take cs.length)) (ho : cs.all oneC = true) (hoc : OC c) (e : TypeId) (fz : Nat × Nat) (hfz : fz.2 ≤ fz.1 ∨ c.size ≤ fz.1) :
    BkR L ρ (w.heap.size, 0, c.size) (.own (putL cs 0 .e)) (.cells c e fz) := by
  refine ⟨c, e, fz, rfl, rfl, fun i hi => by omega, fun p v hp => ?_, hoc⟩
  rw [get_putL] at hp
  by_cases hq : 0 ≤ p.num ∧ p.num < 0 + cs.length
  · rw [if_pos hq] at hp
    have hp : cs[p.num]? = some v := by simpa using hp
    refine ⟨List.all_eq_true.1 ho v (List.mem_of_getElem? hp), ?_⟩
    obtain ⟨y, hy, hvy⟩ := hv.get _ hp
    refine ⟨y, ?_, hvy⟩
    rw [List.getElem?_take_of_lt (by omega)] at hy
    simpa using hy
  · rw [if_neg hq, Tr.get_e] at hp; cases hp
theorem al_newRow {cs : List AV} {e : TypeId} {c : Array Value} (hv : VRs ρ cs c.toList) (ho : cs.all oneC = true) :
    ALOK L ρ w ((do pure (Value.pointer (some (← newRow e c))) : Sem Value).run P w) (fun b => .ptr b 0) (.own (putL cs 0 .e)) :=
  ⟨.pointer (some ⟨w.heap.size, 0, none⟩), { w with heap := w.heap.push (.cells c e (0, 0)) }, .cells c e (0, 0), c.size, by simp [newRow], rfl, rfl, rfl,
    row_BkR (by rw [hv.length, List.take_length]; exact hv) ho (OC.of_VRs hv ho) e (0, 0) (.inl (Nat.le_refl _)), fun ρ' b hb => ⟨_, hb, rfl⟩⟩
theorem al_box {t : TypeId} {l : List AV} {v : Value} (hz : (zeroValue t).run P w = .ok v w) (hv : VRs ρ l v.cells.toList) (ho : l.all oneC = true) :
    ALOK L ρ w ((Instr.alloc t true (.tuple #[])).run P w) (fun b => .ptr b 0) (.own (putL l 0 .e)) := by
  have := al_newRow (L := L) (w := w) (P := P) (e := t) hv ho
  simpa [Instr.alloc, hz, newVar] using this
theorem al_mkmap {t : TypeId} : ALOK L ρ w ((Instr.makeMap t none).run P w) .mp (.mp []) :=
  ⟨.map (some w.heap.size), { w with heap := w.heap.push (.map #[] 0) }, .map #[] 0, 0, rfl, rfl, rfl, rfl, ⟨_, _, rfl, rfl⟩, fun ρ' b hb => ⟨_, hb, rfl⟩⟩
theorem al_boxv {t : TypeId} {u : AV} {xv : Value} (hx : VR ρ u xv) (hk : okCells u = true) : ALOK L ρ w ((Instr.box t xv).run P w) (fun b => .ptr b 0) (.own (putL (cellsOf u) 0 .e)) := by
  obtain ⟨q1, q2⟩ := hx.cells hk
  exact al_newRow q1 q2
theorem al_bsl {t e : TypeId} {n : Nat} (hd : P.underlying t = some (.slice e)) {zv : Value} {z : List AV} (hz : ∀ w, (zeroValue e).run P w = .ok zv w) (hzr : VRs ρ z zv.cells.toList) (hzo : z.all oneC = true)
    {s : Nat} (hs : ∀ w, (sizeOf e).run P w = .ok (s + 1) w) (hzs : z.length = s + 1) (hle : n * (s + 1) ≤ 2 ^ 20) {aps : List (Nat × Nat × X)} {ps : Array (Nat × Operand)} (val : Operand → Value)
    (hps : ∀ (k : Nat) o m x, aps[k]? = some (o, m, x) → ∃ i y, ps.toList[k]? = some (i, y) ∧ (some (i * (s + 1), s + 1) : Option (Nat × Nat)) = some (o, m) ∧ EvR ρ fr x (val y)) (hlen : aps.length = ps.toList.length)
    {u : List (Nat × Nat × AV)} (hu : evParts aps fr = some u) {l : List AV} (hl : fillL u (repL z n) = some l) :
    ALOK L ρ w ((Instr.buildSlice t n (ps.map fun (i, x) => (i, val x))).run P w) (fun b => .sl b 0 n n true (s + 1)) (.own (putL l 0 .e)) := by
  have hp := evParts_ok (place := fun i => some (i * (s + 1), s + 1)) val hps hlen hu
  have hsz : zv.cells.size = s + 1 := by rw [← Array.length_toList, ← hzr.length, hzs]
  have hrel : VRs ρ (repL z n) ((Array.range (n * zv.cells.size)).map (fun i => zv.cells[i % zv.cells.size]!)).toList := by
    rw [range_rep]; exact repL_rel hzr n
  obtain ⟨cells, f1, f2, f3, f4⟩ := fill_ok hp hrel (repL_all hzo n) hl
  have hcs : cells.size = n * (s + 1) := by rw [← Array.length_toList, ← f2.length, f4, repL_len, hzs]
  refine ⟨Value.slice (some ⟨w.heap.size, 0, none⟩) n n, { w with heap := w.heap.push (.cells cells e (0, 0)) }, .cells cells e (0, 0), cells.size, ?_, rfl, rfl, rfl,
    row_BkR (by rw [f2.length, List.take_length]; exact f2) f3 (OC.of_VRs f2 f3) e (0, 0) (.inl (Nat.le_refl _)), fun ρ' b hb => ⟨_, 0, n, hb, rfl, Nat.le_refl _, fun _ => rfl, Nat.le_refl _, fun _ => ⟨rfl, ?_⟩⟩⟩
  · have h1 : ¬ n * (s + 1) > 2 ^ 24 := by omega
    have f1' : Instr.fill (fun i => some (i * (s + 1), s + 1)) ((Array.range (n * (s + 1))).map (fun i => zv.cells[i % zv.cells.size]!)) (ps.map fun (i, x) => (i, val x)).toList = some cells := by
      rw [hsz] at f1
      rw [hsz, Array.toList_map]
      exact f1
    have h2 : ∀ zA : Array Value, (Array.range (n * (s + 1))).map (fun i => zA[i % zA.size]!) = (Array.range (n * (s + 1))).map (fun i => zv.cells[i % zv.cells.size]!) →
        (do let some cells := Instr.fill (fun i => some (i * (s + 1), s + 1)) ((Array.range (n * (s + 1))).map (fun i => zA[i % zA.size]!)) (ps.map fun (i, x) => (i, val x)).toList | stuck "buildSlice: a part of the wrong size"
            pure (.slice (some (← newRow e cells)) n n) : Sem Value).run P w = .ok (Value.slice (some ⟨w.heap.size, 0, none⟩) n n) { w with heap := w.heap.push (.cells cells e (0, 0)) } := by
      intro zA hA
      rw [hA, f1']
      simp [newRow]
    simp only [Instr.buildSlice, Sem.run_bind, run_underlying hd, Result.andThen_ok, hs, if_neg h1]
    by_cases h0 : n * (s + 1) = 0
    · simp only [if_pos h0, Sem.run_pure, Result.andThen_ok]
      exact h2 #[] (by simp [h0])
    · simp only [if_neg h0, Sem.run_bind, hz, Result.andThen_ok, Sem.run_pure]
      exact h2 _ rfl
  · show 0 + 0 + n * (s + 1) ≤ cells.size
    omega
theorem al_mksl {t e : TypeId} (hd : P.underlying t = some (.slice e)) {n by' : Nat} (hs : ∀ w, (sizeOf e).run P w = .ok n w) {ie : TypeInfo} (hi : P.info? e = some ie) (hby : ie.bytes = by')
    {zv : Value} {z : List AV} (hz : ∀ w, (zeroValue e).run P w = .ok zv w) (hzr : VRs ρ z zv.cells.toList) (hzo : z.all oneC = true) {l c lv cv} (hl : EvR ρ fr l lv) (hc : EvR ρ fr c cv)
    {a b : Nat} (ha : evIx (some l) 0 fr = some a) (hb : evIx (some c) 0 fr = some b) (hcond : (Nat.ble a b && Nat.ble b 1000000 && Nat.ble by' 1000000 && Nat.beq (lenL z) n) = true) :
    ALOK L ρ w ((Instr.makeSlice t lv cv).run P w) (fun p => .sl p 0 a b true n) (.own (putL (repL z b) 0 .e)) := by
  simp only [Bool.and_eq_true, Nat.ble_eq, Nat.beq_eq, lenL_eq] at hcond
  obtain ⟨⟨⟨c1, c2⟩, c3⟩, c4⟩ := hcond
  have q1 := evIx_ok (v := some lv) (by rintro _ _ ⟨⟩ ⟨⟩; exact hl) (by simp) ha
  have q2 := evIx_ok (v := some cv) (by rintro _ _ ⟨⟩ ⟨⟩; exact hc) (by simp) hb
  rcases q1 with ⟨e1, _⟩ | ⟨k1, e1⟩
  · cases e1
  rcases q2 with ⟨e2, _⟩ | ⟨k2, e2⟩
  · cases e2
  cases e1; cases e2
  have hsz : zv.cells.size = n := by rw [← Array.length_toList, ← hzr.length, c4]
  have hrel : VRs ρ (repL z b) ((Array.range (b * zv.cells.size)).map (fun i => zv.cells[i % zv.cells.size]!)).toList := by
    rw [range_rep]; exact repL_rel hzr b
  have hcs : ((Array.range (b * zv.cells.size)).map (fun i => zv.cells[i % zv.cells.size]!)).size = b * n := by simp [hsz]
  refine ⟨Value.slice (some ⟨w.heap.size, 0, none⟩) a b, { w with heap := w.heap.push (.cells ((Array.range (b * zv.cells.size)).map (fun i => zv.cells[i % zv.cells.size]!)) e (0, 0)) }, .cells ((Array.range (b * zv.cells.size)).map (fun i => zv.cells[i % zv.cells.size]!)) e (0, 0), _, ?_, rfl, rfl, rfl,
    row_BkR (by rw [hrel.length, List.take_length]; exact hrel) (repL_all hzo b) (OC.of_VRs hrel (repL_all hzo b)) e (0, 0) (.inl (Nat.le_refl _)), fun ρ' p hp => ⟨_, 0, b, hp, rfl, Nat.le_refl _, fun _ => rfl, c1, fun _ => ⟨rfl, ?_⟩⟩⟩
  · have w1 := wrap_small (z := a) (by omega)
    have w2 := wrap_small (z := b) (by omega)
    have hty : (typeInfo e).run P w = .ok ie w := by simp [typeInfo, hi]
    have hbig : ¬ ((by' : Int) * (b : Int) > 2 ^ 48) := by
      have h1 := Nat.mul_le_mul c3 c2
      rw [← Int.natCast_mul]; omega
    have hneg1 : ¬ ((a : Int) < 0) := by omega
    have hneg2 : ¬ ((b : Int) < 0) := by omega
    have hgt : ¬ ((a : Int) > (b : Int)) := by omega
    simp only [Instr.makeSlice, Sem.run_bind, run_underlying hd, Result.andThen_ok, asInt, asIntOf, Sem.run_pure, hty, hby, w1, w2, hneg1, hneg2, hbig, hgt, decide_false, Bool.or_false, Bool.false_eq_true, if_false, run_askRoom, Int.toNat_natCast, hs]
    by_cases h0 : b * n = 0
    · simp only [if_pos h0, Sem.run_pure, Result.andThen_ok, newRow, Sem.run_bind, run_newObj]
      have e1 : (Array.range (b * n)).map (fun i => (#[] : Array Value)[i % (#[] : Array Value).size]!) = (Array.range (b * zv.cells.size)).map (fun i => zv.cells[i % zv.cells.size]!) := by
        rw [hsz, h0]; simp
      rw [e1]
    · simp only [if_neg h0, Sem.run_bind, hz, Result.andThen_ok, Sem.run_pure, newRow, run_newObj]
      rw [hsz]
  · show 0 + 0 + b * n ≤ ((Array.range (b * zv.cells.size)).map (fun i => zv.cells[i % zv.cells.size]!)).size
    rw [hcs]; omega
theorem al_toB {s d e : TypeId} (hs : P.underlying s = some .string) (hd : P.underlying d = some (.slice e)) (he : P.underlying e = some (.int .u8)) (y : ByteArray) :
    ALOK L ρ w ((convert s d (.string y)).run P w) (fun b => .sl b 0 y.data.toList.length y.data.toList.length false 1) (.own (putL (bytesL (strNat y.data.toList) 0 y.data.toList.length) 0 .e)) := by
  obtain ⟨cap, hcap, hrun⟩ : ∃ cap, y.size ≤ cap ∧ (choose (.appendCap y.size 0 e)).run P w = .ok cap { w with drawn := w.drawn + 1 } :=
    ⟨y.size + w.tape w.drawn (.appendCap y.size 0 e) % (2 ^ 63 - y.size), Nat.le_add_right _ _, by simp [Question.forced, Question.cut]⟩
  have hbl : ∀ (n i : Nat), i + n = y.data.toList.length → VRs ρ (bytesL (strNat y.data.toList) i n) ((y.data.toList.drop i).map fun b : UInt8 => Value.int .u8 b.toNat) ∧ (bytesL (strNat y.data.toList) i n).all oneC = true := by
    intro n
    induction n with
    | zero => intro i hi; rw [List.drop_eq_nil_of_le (by omega)]; exact ⟨rfl, rfl⟩
    | succ n ih =>
      intro i hi
      obtain ⟨i1, i2⟩ := ih (i + 1) (by omega)
      have hlt : i < y.data.toList.length := by omega
      rw [List.drop_eq_getElem_cons hlt]
      have hb' := strNat_get y.data.toList i hlt
      have hlt' : byteAt (strNat y.data.toList) i < 256 := Nat.mod_lt _ (by omega)
      refine ⟨⟨_, _, rfl, ⟨hlt', ?_⟩, i1⟩, by show (true && _) = true; rw [i2]; rfl⟩
      show Value.int .u8 ((y.data.toList[i]).toNat : Int) = _
      rw [hb', toI_lt (k := .u8) hlt']
  obtain ⟨b1, b2⟩ := hbl y.data.toList.length 0 (by omega)
  have hlen := b1.length
  have hll : y.data.toList.length = y.size := rfl
  have hsize : ((y.data.map fun b : UInt8 => Value.int .u8 b.toNat) ++ Array.replicate (cap - y.size) (Value.int .u8 0)).size = cap := by
    have : y.data.size = y.size := rfl
    simp [this]; omega
  let w1 : World := { w with drawn := w.drawn + 1 }
  have hrow : VRs ρ (bytesL (strNat y.data.toList) 0 y.data.toList.length) (((y.data.map fun b : UInt8 => Value.int .u8 b.toNat) ++ Array.replicate (cap - y.size) (Value.int .u8 0)).toList.take (bytesL (strNat y.data.toList) 0 y.data.toList.length).length) := by
      have e2 : ((y.data.map fun b : UInt8 => Value.int .u8 b.toNat) ++ Array.replicate (cap - y.size) (Value.int .u8 0)).toList.take (bytesL (strNat y.data.toList) 0 y.data.toList.length).length = (y.data.toList.drop 0).map fun b : UInt8 => Value.int .u8 b.toNat := by
        rw [hlen]
        simp only [Array.toList_append, Array.toList_map, List.drop_zero]
        rw [List.take_append_of_le_length (by simp), List.take_of_length_le (by simp)]
      rw [e2]; exact b1
  refine ⟨Value.slice (some ⟨w.heap.size, 0, none⟩) y.size cap, { w1 with heap := w1.heap.push (.cells ((y.data.map fun b : UInt8 => Value.int .u8 b.toNat) ++ Array.replicate (cap - y.size) (Value.int .u8 0)) e (cap, cap + 1)) }, .cells ((y.data.map fun b : UInt8 => Value.int .u8 b.toNat) ++ Array.replicate (cap - y.size) (Value.int .u8 0)) e (cap, cap + 1), _, ?_, rfl, rfl, rfl,
    row_BkR hrow b2 (OC.bytes _ _) e (cap, cap + 1) (.inr (by rw [hsize]; exact Nat.le_refl _)), fun ρ' b hb => ⟨_, 0, cap, hb, rfl, hcap, nofun, hcap, fun _ => ⟨rfl, ?_⟩⟩⟩
  · have hm : ∀ w2 : World, w2.heap[w.heap.size]? = some (.cells ((y.data.map fun b : UInt8 => Value.int .u8 b.toNat) ++ Array.replicate (cap - y.size) (Value.int .u8 0)) e (0, 0)) →
        (markStringish ⟨w.heap.size, 0, none⟩).run P w2 = .ok () (w2.freeze ⟨w.heap.size, cap, none⟩ 1) := by
      intro w2 hw2
      have : w2.shape? w.heap.size = some (e, cap) := by unfold World.shape?; rw [hw2]; simp only [hsize]
      simp [markStringish, this]
    simp only [convert, Sem.run_bind, run_underlying hs, run_underlying hd, run_underlying he, Result.andThen_ok, Conv.stringToBytes, hrun, newRow, run_newObj, Sem.run_pure]
    rw [hm _ (by simp)]
    simp only [Result.andThen_ok]
    congr 1
    simp [World.freeze, w1]
    apply Array.ext
    · simp
    · intro i h1 h2
      simp only [Array.getElem_modify]
      split
      · rename_i he; subst he; simp
      · simp only [Array.getElem_push]
        have : i < w.heap.size := by simp at h1; omega
        simp [this]
  · rw [hsize]
    show 0 + 0 + cap * 1 ≤ cap
    omega
end ops
end Go.Kx

/- Operations that make a block. -/
namespace Go.Kx
def ALN (L : Lp) (ρ : Rho) (w : World) (res : Result Next) (mk : Pth → AV) (k : Bk) : Prop :=
  ∃ v w' o n, res = .ok (.value v) w' ∧ w'.heap = w.heap.push o ∧ w'.os = w.os ∧ w'.output = w.output ∧ BkR L ρ (w.heap.size, 0, n) k o ∧ ∀ ρ' b, ρ'.blk b = some (w.heap.size, 0, n) → VR ρ' (mk b) v
theorem ALN.of {L : Lp} {ρ : Rho} {w : World} {P : Program} {s : Sem Value} {mk : Pth → AV} {k : Bk} (h : ALOK L ρ w (s.run P w) mk k) : ALN L ρ w ((do pure (Next.value (← s)) : Sem Next).run P w) mk k := by
  obtain ⟨v, w', o, n, e, h1⟩ := h
  exact ⟨v, w', o, n, by simp [Sem.run_bind, e], h1⟩
theorem cls_bin {T : TT} {op : BinOp} {t : Nat} {x y : Operand} : cls (cBin T op t x y) ≠ 2 := by
  unfold cBin; (repeat' split) <;> (intro h; cases h)
theorem cls_slice {T : TT} {t : Nat} {x : Operand} {lo hi mx : Option Operand} : cls (cSlice T t x lo hi mx) ≠ 2 := by
  unfold cSlice; (repeat' split) <;> (intro h; cases h)
theorem cls_builtin {T : TT} {b : Builtin} {as : List Operand} {ts : List Nat} : cls (cBuiltin T b as ts) ≠ 2 := by
  cases b <;> rcases as with _ | ⟨a0, _ | ⟨a1, _ | ⟨a2, as⟩⟩⟩ <;> rcases ts with _ | ⟨t0, _ | ⟨t1, _ | ⟨t2, ts⟩⟩⟩ <;> dsimp only [cBuiltin] <;> first
    | (intro h; cases h; done)
    | ((repeat' split) <;> (intro h; cases h; done))
section ops
variable {L : Lp} {ρ : Rho} {w : World} {P : Program} {T : TT} (hT : TOK T P) {fr : Fr} {v : Operand → Value}
include hT
theorem al_ok {o : Oper} (hx : ∀ x ∈ o.op.operands, EvR ρ fr (cX x) (v x)) (hc : cls (cOp T o.op) = 2) {h h1 : H} {u : AV} (he : opAR (cOp T o.op) fr h = .val u h1) :
    ∃ mk k, (∀ h2, opAR (cOp T o.op) fr h2 = .val (mk (hnx h2)) (hput k h2)) ∧ ALN L ρ w ((execOp v o).run P w) mk k := by
  unfold execOp
  unfold cOp at hc he ⊢
  generalize o.op = op at hx hc he ⊢
  cases op
  case alloc t =>
    dsimp only at hc he ⊢
    split at hc
    · rename_i l hl
      obtain ⟨zv, e1, e2, e3⟩ := zc_ok' hT ρ hl
      exact ⟨_, _, fun h2 => rfl, ALN.of (s := Instr.alloc t true (.tuple #[])) (al_box (e1 w) e2 e3)⟩
    · cases hc
  case box t x =>
    dsimp only at hc he ⊢
    have ha := hx x (by simp [Op.operands])
    have he : ev1 (cX x) fr (fun v => ifB (okCells v) (newRowA (cellsOf v) h) (.bad 15)) = .val u h1 := he
    unfold ev1 at he
    rcases optK_cases (ev (cX x) fr) (AR.bad 10) (fun v => ifB (okCells v) (newRowA (cellsOf v) h) (.bad 15)) with ⟨y, hy, e⟩ | ⟨_, e⟩ <;> rw [e] at he
    · rcases ifB_cases (okCells y) (newRowA (cellsOf y) h) (.bad 15) with ⟨hk, e'⟩ | ⟨_, e'⟩ <;> rw [e'] at he
      · refine ⟨fun b => .ptr b 0, .own (putL (cellsOf y) 0 .e), fun h2 => ?_, ALN.of (s := Instr.box t (v x)) (al_boxv (ha y hy) hk)⟩
        show ev1 (cX x) fr (fun v => ifB (okCells v) (newRowA (cellsOf v) h2) (.bad 15)) = _
        unfold ev1
        rw [hy]
        show ifB (okCells y) (newRowA (cellsOf y) h2) (.bad 15) = _
        rw [hk]; rfl
      · cases he
    · cases he
  case makeMap t r =>
    cases r with
    | none => exact ⟨.mp, .mp [], fun h2 => rfl, ALN.of (s := Instr.makeMap t none) al_mkmap⟩
    | some _ => cases hc
  case buildSlice t n ps =>
    dsimp only at hc he ⊢
    split at hc
    case h_2 => cases hc
    rename_i e hd1
    split at hc
    case h_2 => cases hc
    rename_i s z k2 k3
    split at hc
    case isFalse => cases hc
    rename_i hcc
    obtain ⟨zv, e1, e2, e3⟩ := zc_ok' hT ρ k3
    obtain ⟨q1, q2⟩ := cPartsA_ok (n := s + 1) (ps := ps.toList)
    simp only [hd1, k2, k3, if_pos hcc] at he
    rw [if_pos hcc]
    have he : optK (evParts (cPartsA (s + 1) ps.toList) fr) (AR.bad 18) (fun ps => optK (fillL ps (repL z n)) (AR.bad 19) (fun l => AR.val (.sl (hnx h) 0 n n true (s + 1)) (hput (.own (putL l 0 .e)) h))) = .val u h1 := he
    rcases optK_cases (evParts (cPartsA (s + 1) ps.toList) fr) (AR.bad 18) (fun ps => optK (fillL ps (repL z n)) (AR.bad 19) (fun l => AR.val (.sl (hnx h) 0 n n true (s + 1)) (hput (.own (putL l 0 .e)) h))) with ⟨y, hy, ee⟩ | ⟨_, ee⟩ <;> rw [ee] at he
    case inr => cases he
    rcases optK_cases (fillL y (repL z n)) (AR.bad 19) (fun l => .val (.sl (hnx h) 0 n n true (s + 1)) (hput (.own (putL l 0 .e)) h)) with ⟨l, hl, ee'⟩ | ⟨_, ee'⟩ <;> rw [ee'] at he
    case inr => cases he
    refine ⟨fun b => .sl b 0 n n true (s + 1), .own (putL l 0 .e), fun h2 => ?_, ALN.of (s := Instr.buildSlice t n _) (al_bsl (fr := fr) (und_ok hT hd1) e1 e2 e3 (fun w => siz_ok hT k2 w) (by rw [← lenL_eq]; exact hcc.2) hcc.1 v (fun k o m x hk => ?_) q1 hy hl)⟩
    · show optK (evParts (cPartsA (s + 1) ps.toList) fr) (AR.bad 18) (fun ps => optK (fillL ps (repL z n)) (AR.bad 19) (fun l => AR.val (.sl (hnx h2) 0 n n true (s + 1)) (hput (.own (putL l 0 .e)) h2))) = _
      rw [hy]
      show optK (fillL y (repL z n)) (AR.bad 19) (fun l => AR.val (.sl (hnx h2) 0 n n true (s + 1)) (hput (.own (putL l 0 .e)) h2)) = _
      rw [hl]; rfl
    · obtain ⟨i, y, r1, r2, rfl⟩ := q2 k o m x hk
      exact ⟨i, y, r1, r2, hx y (by simp [Op.operands]; exact ⟨i, by simpa using List.mem_of_getElem? r1⟩)⟩
  case binOp op t x y yt => exact absurd hc cls_bin
  case slice t x lo hi mx => exact absurd hc cls_slice
  case convert s d x =>
    have ha := hx x (by simp [Op.operands])
    dsimp only [cConv] at hc he ⊢
    split at hc
    · cases hc
    · cases hc
    · rename_i e d1 d2
      split at hc
      · rename_i d3
        simp only [d1, d2, d3] at he
        have he : ev1 (cX x) fr (fun v => onStr v (AR.bad 47) (fun l z => ifB (Nat.blt l big) (AR.val (.sl (hnx h) 0 l l false 1) (hput (.own (putL (bytesL z 0 l) 0 .e)) h)) (AR.bad 48))) = .val u h1 := he
        cases hv : ev (cX x) fr with
        | none => unfold ev1 at he; rw [hv] at he; cases he
        | some y =>
          unfold ev1 at he; rw [hv] at he
          have hy := ha y hv
          cases y <;> first | (cases he; done) | skip
          rename_i l z
          obtain ⟨b, e1, rfl, rfl⟩ := VR_str hy
          have he : ifB (Nat.blt b.data.toList.length big) (AR.val _ _) (AR.bad 48) = .val u h1 := he
          cases hbg : Nat.blt b.data.toList.length big with
          | false => rw [hbg] at he; cases he
          | true =>
            refine ⟨fun p => .sl p 0 b.data.toList.length b.data.toList.length false 1, .own (putL (bytesL (strNat b.data.toList) 0 b.data.toList.length) 0 .e), fun h2 => ?_, ?_⟩
            · show ev1 (cX x) fr (fun v => onStr v (AR.bad 47) (fun l z => ifB (Nat.blt l big) (AR.val (.sl (hnx h2) 0 l l false 1) (hput (.own (putL (bytesL z 0 l) 0 .e)) h2)) (AR.bad 48))) = _
              unfold ev1
              rw [hv]
              show ifB (Nat.blt b.data.toList.length big) (AR.val _ _) (AR.bad 48) = _
              rw [hbg]; rfl
            · have := ALN.of (al_toB (L := L) (ρ := ρ) (w := w) (und_ok hT d1) (und_ok hT d2) (und_ok hT d3) b)
              rw [← e1] at this
              exact this
      · cases hc
    · cases hc
  case makeSlice t l c =>
    have hl := hx l (by simp [Op.operands])
    have hcc := hx c (by simp [Op.operands])
    dsimp only at hc he ⊢
    split at hc
    case h_2 => cases hc
    rename_i e d1
    split at hc
    case h_2 => cases hc
    rename_i n y z k1 k2 k3
    simp only [d1, k1, k2, k3] at he
    obtain ⟨zv, e1, e2, e3⟩ := zc_ok' hT ρ k3
    obtain ⟨i, i1, i2⟩ := byt_ok hT k2
    have he : optK (evIx (some (cX l)) 0 fr) (AR.bad 51) (fun l => optK (evIx (some (cX c)) 0 fr) (AR.bad 52) fun c =>
      ifB (Nat.ble l c && Nat.ble c 1000000 && Nat.ble y 1000000 && Nat.beq (lenL z) n) (AR.val (.sl (hnx h) 0 l c true n) (hput (.own (putL (repL z c) 0 .e)) h)) (AR.bad 53)) = .val u h1 := he
    cases ha : evIx (some (cX l)) 0 fr with
    | none => rw [ha] at he; cases he
    | some a =>
      rw [ha] at he
      cases hb : evIx (some (cX c)) 0 fr with
      | none => rw [hb] at he; cases he
      | some b =>
        rw [hb] at he
        have he : ifB (Nat.ble a b && Nat.ble b 1000000 && Nat.ble y 1000000 && Nat.beq (lenL z) n) (AR.val _ _) (AR.bad 53) = .val u h1 := he
        cases hcond : (Nat.ble a b && Nat.ble b 1000000 && Nat.ble y 1000000 && Nat.beq (lenL z) n) with
        | false => rw [hcond] at he; cases he
        | true =>
          refine ⟨fun p => .sl p 0 a b true n, .own (putL (repL z b) 0 .e), fun h2 => ?_, ALN.of (s := Instr.makeSlice t (v l) (v c)) (al_mksl (fr := fr) (und_ok hT d1) (fun w => siz_ok hT k1 w) i1 i2 e1 e2 e3 hl hcc ha hb hcond)⟩
          show optK (evIx (some (cX l)) 0 fr) (AR.bad 51) (fun l => optK (evIx (some (cX c)) 0 fr) (AR.bad 52) fun c =>
            ifB (Nat.ble l c && Nat.ble c 1000000 && Nat.ble y 1000000 && Nat.beq (lenL z) n) (AR.val (.sl (hnx h2) 0 l c true n) (hput (.own (putL (repL z c) 0 .e)) h2)) (AR.bad 53)) = _
          rw [ha, hb]
          show ifB (Nat.ble a b && Nat.ble b 1000000 && Nat.ble y 1000000 && Nat.beq (lenL z) n) (AR.val _ _) (AR.bad 53) = _
          rw [hcond]; rfl
  case call c =>
    exfalso
    dsimp only at hc
    split at hc
    · exact cls_builtin hc
    all_goals (cases hc; done)
  all_goals exfalso
  case' unOp op t x => cases op
  case' makeFunc f a b => cases f
  all_goals (clear he; first | (cases hc; done) | (dsimp only at hc; (repeat' split at hc) <;> (cases hc; done)) | ((repeat' split at hc) <;> (cases hc; done)))
end ops
end Go.Kx

/- A new block, bound to a name that waits. -/
namespace Go.Kx
theorem Rho.le_put' {ρ : Rho} {b : Pth} (hn : ρ.blk b = none) (x) : ρ.le (ρ.put b x) :=
  ⟨fun c y hc => by rw [Rho.put_ne _ _ (fun e => by subst e; rw [hn] at hc; cases hc)]; exact hc, rfl⟩
/-- The block waits in memory; the model makes it. -/
theorem late_ok {L : Lp} {ρ ρ0 : Rho} {h h0 : H} {w w0 : World} {res : Result Next} {mk : Pth → AV} {k : Bk} (hr : HR L ρ h w) (ha : ALN L ρ w res mk k) {b : Pth} (hn : ρ.blk b = none) (hb : hget b h = some k)
    (e : Ext ρ0 h0 w0 ρ h w) (h0b : (hnx h0).num ≤ b.num) :
    ∃ ρ' v w', res = .ok (.value v) w' ∧ ρ.le ρ' ∧ (∀ c, c ≠ b → ρ'.blk c = ρ.blk c) ∧ VR ρ' (mk b) v ∧ HR L ρ' h w' ∧ Ext ρ0 h0 w0 ρ' h w' ∧ (∀ X, X < w.heap.size → w'.heap[X]? = w.heap[X]?) ∧ (∀ y, ρ'.blk b = some y → y.1 = w.heap.size) := by
  obtain ⟨v, w', o, n, e1, e2, e3, e4, e5, e6⟩ := ha
  have hle := Rho.le_put' hn (w.heap.size, 0, n)
  have hlt : b.num < (hnx h).num := by
    rcases Nat.lt_or_ge b.num (hnx h).num with q | q
    · exact q
    · rw [hr.wf b q] at hb; cases hb
  have old : ∀ B, B < w.heap.size → w'.heap[B]? = w.heap[B]? := fun B hB => by rw [e2]; simp [Array.getElem?_push, Nat.ne_of_lt hB]
  refine ⟨ρ.put b (w.heap.size, 0, n), v, w', e1, hle, fun c hc => Rho.put_ne _ _ hc, e6 _ b (Rho.put_same _ _ _), ?_, ?_, old, fun y hy => by rw [Rho.put_same] at hy; cases hy; rfl⟩
  · refine ⟨fun c y j hc hj => ?_, fun c c' y y' hc hc' ee g1 g2 => ?_, fun c y hc => ?_, hr.wf, fun B o' e => ?_, hr.sy⟩
    · by_cases hcb : c = b
      · subst hcb
        rw [Rho.put_same] at hc; cases hc
        rw [hb] at hj; cases hj
        exact ⟨o, by rw [e2]; simp, e5.mono hle⟩
      · rw [Rho.put_ne _ _ hcb] at hc
        obtain ⟨o', q1, q2⟩ := hr.blk c y j hc hj
        exact ⟨o', by rw [old _ (hr.lt c y hc).1]; exact q1, q2.mono hle⟩
    · by_cases hcb : c = b <;> by_cases hcb' : c' = b
      · rw [hcb, hcb']
      · subst hcb
        rw [Rho.put_same] at hc; cases hc
        rw [Rho.put_ne _ _ hcb'] at hc'
        have := (hr.lt c' y' hc').1; simp at ee; omega
      · subst hcb'
        rw [Rho.put_same] at hc'; cases hc'
        rw [Rho.put_ne _ _ hcb] at hc
        have := (hr.lt c y hc).1; simp at ee; omega
      · rw [Rho.put_ne _ _ hcb] at hc
        rw [Rho.put_ne _ _ hcb'] at hc'
        exact hr.inj c c' y y' hc hc' ee g1 g2
    · by_cases hcb : c = b
      · subst hcb; rw [Rho.put_same] at hc; cases hc
        exact ⟨by rw [e2]; simp, hlt⟩
      · rw [Rho.put_ne _ _ hcb] at hc
        have := hr.lt c y hc
        exact ⟨by rw [e2]; simp; omega, this.2⟩
    · obtain ⟨q0, n', t, q1, q2⟩ := hr.ro B o' e
      exact ⟨by rw [old B (hr.lt _ _ q1).1]; exact q0, n', t, by rw [Rho.put_ne _ _ (fun e => by rw [e] at q1; rw [hn] at q1; cases q1)]; exact q1, q2⟩
  · refine ⟨e.le.trans hle, fun c y hc hy => ?_, by rw [e2]; have := e.size; simp; omega, fun B hB hno => ?_, e.nx, e.akeep, e3.trans e.os, e4.trans e.out⟩
    · by_cases hcb : c = b
      · subst hcb; rw [Rho.put_same] at hy; cases hy
        exact ⟨.inl e.size, h0b⟩
      · rw [Rho.put_ne _ _ hcb] at hy; exact e.fresh c y hc hy
    · rw [old B (Nat.lt_of_lt_of_le hB e.size)]; exact e.keep B hB hno
end Go.Kx

/- What the checks of a drawn region give. -/
namespace Go.Kx
theorem bitB_eq (i a : Nat) : bitB i a = a.testBit i := by
  rw [Nat.testBit_eq_decide_div_mod_eq]
  show Nat.beq (a / 2 ^ i % 2) 1 = _
  rw [Bool.eq_iff_iff]; simp
theorem bitB_or (i a b : Nat) : bitB i (Nat.lor a b) = (bitB i a || bitB i b) := by
  rw [bitB_eq, bitB_eq, bitB_eq]; exact Nat.testBit_or a b i
theorem bitB_pow (i j : Nat) : bitB i (Nat.pow 2 j) = decide (j = i) := by
  rw [bitB_eq]; exact Nat.testBit_two_pow ..
theorem bitB_zero (i : Nat) : bitB i 0 = false := by rw [bitB_eq]; exact Nat.zero_testBit i
theorem subB_bit {a b : Nat} (h : subB a b = true) {i : Nat} (hi : bitB i a = true) : bitB i b = true := by
  have h : Nat.land a b = a := Nat.eq_of_beq_eq_true h
  rw [bitB_eq] at *
  have : (a &&& b).testBit i = a.testBit i := by show (Nat.land a b).testBit i = _; rw [h]
  rw [Nat.testBit_and, hi] at this
  simpa using this
/-- An edge that binds in each mode. -/
def anyE (e : Edge) : Bool := match e.ground with | .textOnly _ => false | .gcOnly _ => false | _ => true
theorem anyE_binds (e : Edge) : anyE e = Region.binds .any e := by
  unfold anyE Region.binds; cases e.ground <;> rfl
theorem ancE_bit {acc : List Nat} {i : Nat} : ∀ {es : List Edge}, bitB i (ancE acc es) = true → ∃ e ∈ es, anyE e = true ∧ (i = e.on ∨ bitB i (acc.getD e.on 0) = true)
  | [], h => by rw [show ancE acc [] = 0 from rfl, bitB_zero] at h; cases h
  | e :: es, h => by
    have go : bitB i (ancE acc es) = true → ∃ e' ∈ e :: es, anyE e' = true ∧ (i = e'.on ∨ bitB i (acc.getD e'.on 0) = true) := fun h' =>
      let ⟨e', h1, h2⟩ := ancE_bit h'; ⟨e', by simp [h1], h2⟩
    cases hg : e.ground <;> simp only [ancE, hg] at h <;> first
      | exact go h
      | (rw [bitB_or, bitB_or, bitB_pow] at h
         simp only [Bool.or_eq_true, decide_eq_true_eq] at h
         rcases h with h | h | h
         · exact go h
         · exact ⟨e, by simp, by simp [anyE, hg], .inl h.symm⟩
         · exact ⟨e, by simp, by simp [anyE, hg], .inr h⟩)
theorem ancs_get : ∀ (os : List Oper) (acc : List Nat), (ancs os acc).length = acc.length + os.length ∧ (∀ j, j < acc.length → (ancs os acc)[j]? = acc[j]?) ∧
    ∀ j o, os[j]? = some o → (ancs os acc)[acc.length + j]? = some (ancE ((ancs os acc).take (acc.length + j)) o.after.toList)
  | [], acc => ⟨by simp [ancs], fun j _ => rfl, fun j o h => by simp at h⟩
  | o :: os, acc => by
    obtain ⟨h1, h2, h3⟩ := ancs_get os (acc ++ [ancE acc o.after.toList])
    have hl : (acc ++ [ancE acc o.after.toList]).length = acc.length + 1 := by simp
    refine ⟨by show (ancs os (acc ++ [ancE acc o.after.toList])).length = _; rw [h1, hl]; simp; omega, fun j hj => ?_, fun j o' hj => ?_⟩
    · show (ancs os (acc ++ [ancE acc o.after.toList]))[j]? = _
      rw [h2 j (by omega), List.getElem?_append_left hj]
    · show (ancs os (acc ++ [ancE acc o.after.toList]))[acc.length + j]? = some (ancE ((ancs os (acc ++ [ancE acc o.after.toList])).take (acc.length + j)) o'.after.toList)
      cases j with
      | zero =>
        simp at hj; subst hj
        have ht : (ancs os (acc ++ [ancE acc o.after.toList])).take acc.length = acc := by
          apply List.ext_getElem?
          intro k
          rw [List.getElem?_take]
          split
          · rename_i hk; rw [h2 k (by omega), List.getElem?_append_left hk]
          · rename_i hk; rw [List.getElem?_eq_none (by omega)]
        rw [Nat.add_zero, ht, h2 _ (by omega)]
        simp
      | succ j =>
        have := h3 j o' (by simpa using hj)
        rw [hl] at this
        rw [show acc.length + (j + 1) = acc.length + 1 + j by omega]
        exact this
/-- A set that has, with each operation, those whose edges always bind. -/
def Cl (os : List Oper) (S : Nat → Prop) : Prop := ∀ j o, os[j]? = some o → S j → ∀ e ∈ o.after.toList, anyE e = true → S e.on
theorem anc_closed {os : List Oper} {S : Nat → Prop} (hS : Cl os S) : ∀ (j a : Nat), (ancs os [])[j]? = some a → S j → ∀ i, bitB i a = true → S i := by
  intro j
  induction j using Nat.strongRecOn with
  | _ j ih =>
    intro a ha hj i hi
    obtain ⟨h1, _, h3⟩ := ancs_get os []
    have hlt : j < os.length := by
      have := (List.getElem?_eq_some_iff.1 ha).1
      simpa [h1] using this
    have h4 := h3 j os[j] (List.getElem?_eq_getElem hlt)
    simp only [List.length_nil, Nat.zero_add] at h4
    rw [ha] at h4
    cases h4
    obtain ⟨e, he, hany, hb⟩ := ancE_bit hi
    have hSe := hS j os[j] (List.getElem?_eq_getElem hlt) hj e he hany
    rcases hb with rfl | hb
    · exact hSe
    · rw [List.getD_eq_getElem?_getD] at hb
      by_cases hk : e.on < j
      · rw [List.getElem?_take_of_lt hk] at hb
        cases hq : (ancs os [])[e.on]? with
        | none => rw [hq] at hb; simp [bitB_zero] at hb
        | some q => rw [hq] at hb; exact ih e.on hk q hq hSe i (by simpa using hb)
      · rw [List.getElem?_take_eq_none (by omega)] at hb; simp [bitB_zero] at hb
end Go.Kx

/- Schedules of drawn regions. -/
namespace Go.Kx
open Region
/-- A schedule, step by step. -/
inductive Sch (m : Region.Mode) (ops : Array Oper) : Array Bool → List Nat → Prop
  | nil {listed} : ready m ops listed = [] → Sch m ops listed []
  | cons {listed i l} : i ∈ ready m ops listed → Sch m ops (listed.setIfInBounds i true) l → Sch m ops listed (i :: l)
def left (n : Nat) (listed : Array Bool) : Nat := (List.range n).countP fun i => !listed.getD i true
theorem ready_left {m : Region.Mode} {ops : Array Oper} {listed : Array Bool} {i : Nat} (h : i ∈ ready m ops listed) : i < ops.size ∧ listed.getD i true = false := by
  obtain ⟨h1, o, ho, _⟩ := mem_ready.1 h
  exact ⟨(Array.getElem?_eq_some_iff.1 ho).1, h1⟩
theorem left_set {n : Nat} {listed : Array Bool} {i : Nat} (hi : i < n) (hl : listed.getD i true = false) : left n (listed.setIfInBounds i true) + 1 = left n listed := by
  unfold left
  have hne : ∀ j, j ≠ i → (listed.setIfInBounds i true).getD j true = listed.getD j true := fun j hj => getD_set_ne true (Ne.symm hj)
  have hsame : (listed.setIfInBounds i true).getD i true = true := by
    by_cases h : i < listed.size
    · simp [h]
    · simp [Array.getElem?_eq_none (Nat.le_of_not_lt h)]
  obtain ⟨k, rfl⟩ : ∃ k, n = i + 1 + k := ⟨n - (i + 1), by omega⟩
  rw [List.range_eq_range', ← List.range'_append_1, ← List.range'_append_1 (n := 1) (m := i)]
  simp only [List.countP_append]
  have c1 : (List.range' 0 i).countP (fun j => !(listed.setIfInBounds i true).getD j true) = (List.range' 0 i).countP (fun j => !listed.getD j true) := by
    apply List.countP_congr
    intro j hj
    rw [hne j (by have := List.mem_range'_1.1 hj; omega)]
  have c2 : (List.range' (0 + (i + 1)) k).countP (fun j => !(listed.setIfInBounds i true).getD j true) = (List.range' (0 + (i + 1)) k).countP (fun j => !listed.getD j true) := by
    apply List.countP_congr
    intro j hj
    rw [hne j (by have := List.mem_range'_1.1 hj; omega)]
  rw [c1, c2]
  have c3 : (List.range' (0 + i) 1).countP (fun j => !(listed.setIfInBounds i true).getD j true) = 0 := by
    simp only [List.range'_one, Nat.zero_add, List.countP_cons, List.countP_nil, hsame]; rfl
  have c4 : (List.range' (0 + i) 1).countP (fun j => !listed.getD j true) = 1 := by
    simp only [List.range'_one, Nat.zero_add, List.countP_cons, List.countP_nil, hl]; rfl
  rw [c3, c4]; omega
theorem go_sch {m : Region.Mode} {ops : Array Oper} : ∀ (fuel t : Nat) (listed : Array Bool), left ops.size listed ≤ fuel → Sch m ops listed (linearise.go m ops fuel t listed [])
  | 0, t, listed, h => by
    refine .nil ?_
    cases hr : ready m ops listed with
    | nil => rfl
    | cons i l =>
      have := ready_left (m := m) (ops := ops) (listed := listed) (i := i) (by rw [hr]; simp)
      have := left_set this.1 this.2
      omega
  | fuel + 1, t, listed, h => by
    simp only [linearise.go]
    change Sch m ops listed (match (ready m ops listed)[t % (ready m ops listed).length]? with
      | some i => linearise.go m ops fuel (t / (ready m ops listed).length) (listed.setIfInBounds i true) [i]
      | none => [].reverse)
    cases hi : (ready m ops listed)[t % (ready m ops listed).length]? with
    | none =>
      refine .nil ?_
      cases hr : ready m ops listed with
      | nil => rfl
      | cons x xs =>
        rw [hr] at hi
        have hlt : t % (x :: xs).length < (x :: xs).length := Nat.mod_lt _ (by simp)
        rw [List.getElem?_eq_getElem hlt] at hi; cases hi
    | some i =>
      simp only []
      rw [linearise_go_acc, List.reverse_singleton, List.singleton_append]
      have hm : i ∈ ready m ops listed := List.mem_of_getElem? hi
      obtain ⟨q1, q2⟩ := ready_left hm
      have := left_set q1 q2
      exact .cons hm (go_sch fuel _ _ (by omega))
theorem lin_sch (m : Region.Mode) (ops : Array Oper) (t : Nat) : Sch m ops (Array.replicate ops.size false) (linearise m ops t) :=
  go_sch _ _ _ (by unfold left; exact Nat.le_trans List.countP_le_length (by simp))
end Go.Kx

/- What the checks of a drawn region say. -/
namespace Go.Kx
/-- What an operation of a region is. -/
def dumSt : FSt := .op none none (.bad 271)
inductive Knd (T : TT) (g n : Nat) (ops : Array Oper) (lit : Option Lit) (i : Nat) (d : DO) : Prop
  | nrm : d.cl = cls (stOp (cStep T g n ops d.o)) → d.st = cStep T g n ops d.o → d.se = seesO ops d.o → d.kd = 0 → Knd T g n ops lit i d
  | mk (L : Lit) : lit = some L → i = L.q → asMk d.o = some L.t → L.t < n → d.cl = 5 → d.st = dumSt → d.kd = 1 → Knd T g n ops lit i d
  | ins (L : Lit) (k : AV) (v : Operand) : lit = some L → asIns T L.t L.kd d.o = some (k, v) → gB g v = true → d.cl = 5 → d.st = dumSt → d.se = opT v → d.kd = 2 → Knd T g n ops lit i d
  | mv (L : Lit) : lit = some L → i = L.mv → asMv L.t d.o = some L.u → L.u < n → d.cl = 5 → d.st = dumSt → d.kd = 3 → Knd T g n ops lit i d
  | lk (L : Lit) (z : AV) (key : Operand) (ok : Bool) (dd : Option Pth) : lit = some L → i = L.lk → asLk T L.u d.o = some (L.kd, z, key, ok) → gB g key = true → cDst n d.o.dst = some dd → d.cl = 0 →
      d.st = .op none dd (.lkl L.kd z (insX (insL T L.t L.kd 0 ops.toList)) (cX key) ok) → d.se = opT key ++ insT (insL T L.t L.kd 0 ops.toList) → d.kd = 4 → Knd T g n ops lit i d
section
variable {T : TT} {g n : Nat} {ops : Array Oper} {lit : Option Lit}
theorem nrm_knd {i : Nat} {o : Oper} {a : Nat} : (nrmDO T g n ops o a).o = o ∧ (nrmDO T g n ops o a).an = a ∧ Knd T g n ops lit i (nrmDO T g n ops o a) := ⟨rfl, rfl, .nrm rfl rfl rfl rfl⟩
theorem one_knd (i : Nat) (o : Oper) (a : Nat) : (oneDO T g n ops lit i o a).o = o ∧ (oneDO T g n ops lit i o a).an = a ∧ Knd T g n ops lit i (oneDO T g n ops lit i o a) := by
  unfold oneDO
  cases lit with
  | none => exact nrm_knd
  | some L =>
    dsimp only
    unfold litDO
    split
    · rename_i t hq hm
      split
      · rename_i hc
        simp only [Bool.and_eq_true] at hc
        have ht := Nat.eq_of_beq_eq_true hc.1
        subst ht
        exact ⟨rfl, rfl, .mk L rfl (Nat.eq_of_beq_eq_true hq) hm (Nat.le_of_ble_eq_true hc.2) rfl rfl rfl⟩
      · exact nrm_knd
    · split
      · rename_i k v hi
        split
        · rename_i hg
          exact ⟨rfl, rfl, .ins L k v rfl hi hg rfl rfl rfl rfl⟩
        · exact nrm_knd
      · split
        · rename_i u hq hm
          split
          · rename_i hc
            simp only [Bool.and_eq_true] at hc
            have ht := Nat.eq_of_beq_eq_true hc.1
            subst ht
            exact ⟨rfl, rfl, .mv L rfl (Nat.eq_of_beq_eq_true hq) hm (Nat.le_of_ble_eq_true hc.2) rfl rfl rfl⟩
          · exact nrm_knd
        · split
          · rename_i kd z key ok dd hq hl hd
            split
            · rename_i hc
              simp only [Bool.and_eq_true] at hc
              have ht := Nat.eq_of_beq_eq_true hc.1
              subst ht
              exact ⟨rfl, rfl, .lk L z key ok dd rfl (Nat.eq_of_beq_eq_true hq) hl hc.2 hd rfl rfl rfl rfl⟩
            · exact nrm_knd
          · exact nrm_knd
theorem mkDO_get : ∀ {i0 : Nat} {os : List Oper} {as : List Nat} {i : Nat} {d : DO}, (mkDO T g n ops lit i0 os as)[i]? = some d →
    os[i]? = some d.o ∧ as[i]? = some d.an ∧ Knd T g n ops lit (i0 + i) d
  | _, [], as, i, d, h => by simp [mkDO] at h
  | _, o :: os, [], i, d, h => by simp [mkDO] at h
  | i0, o :: os, a :: as, 0, d, h => by
    simp [mkDO] at h; subst h
    obtain ⟨h1, h2, h3⟩ := one_knd (T := T) (g := g) (n := n) (ops := ops) (lit := lit) i0 o a
    exact ⟨by rw [h1]; rfl, by rw [h2]; rfl, h3⟩
  | i0, o :: os, a :: as, i + 1, d, h => by
    have h : (mkDO T g n ops lit (i0 + 1) os as)[i]? = some d := by simpa [mkDO] using h
    obtain ⟨h1, h2, h3⟩ := mkDO_get h
    refine ⟨by simpa using h1, by simpa using h2, ?_⟩
    rw [show i0 + (i + 1) = i0 + 1 + i by omega]; exact h3
theorem mkDO_len : ∀ {i0 : Nat} {os : List Oper} {as : List Nat}, os.length ≤ as.length → (mkDO T g n ops lit i0 os as).length = os.length
  | _, [], as, h => rfl
  | _, o :: os, [], h => by simp at h
  | i0, o :: os, a :: as, h => by show (mkDO T g n ops lit (i0 + 1) os as).length + 1 = _; rw [mkDO_len (by simpa using h)]; rfl
end
theorem dstOK_get {t : Nat} : ∀ {ds : List DO} {i : Nat} {d : DO}, dstOK t ds = true → ds[i]? = some d → d.o.dst ≠ some t
  | [], i, d, _, h => by simp at h
  | e :: ds, 0, d, h, hi => by
    simp at hi; subst hi
    simp only [dstOK, Bool.and_eq_true] at h
    intro hd
    rw [hd] at h
    simp at h
  | e :: ds, i + 1, d, h, hi => by
    simp only [dstOK, Bool.and_eq_true] at h
    exact dstOK_get h.2 (by simpa using hi)
theorem dstsOK_get : ∀ {ds : List DO}, dstsOK ds = true → ∀ {i j : Nat} {d e : DO} {t : Nat}, ds[i]? = some d → ds[j]? = some e → d.o.dst = some t → e.o.dst = some t → i = j
  | [], _, i, j, d, e, t, h, _, _, _ => by simp at h
  | x :: ds, h, i, j, d, e, t, hi, hj, hd, he => by
    simp only [dstsOK, Bool.and_eq_true] at h
    cases i with
    | zero =>
      cases j with
      | zero => rfl
      | succ j =>
        simp at hi hj; subst hi
        rw [hd] at h
        exact absurd he (dstOK_get h.1 hj)
    | succ i =>
      cases j with
      | zero =>
        simp at hi hj; subst hj
        rw [he] at h
        exact absurd hd (dstOK_get h.1 hi)
      | succ j => exact congrArg _ (dstsOK_get h.2 (by simpa using hi) (by simpa using hj) hd he)
theorem seesOK_get {j c an t : Nat} : ∀ {ds : List DO} {i0 : Nat}, seesOK j c an t i0 ds = true → ∀ {i : Nat} {e : DO}, ds[i]? = some e → e.o.dst = some t →
    e.cl ≠ 5 ∧ (bitB (i0 + i) an = true ∨ (c ≠ 1 ∧ c ≠ 5 ∧ (i0 + i = j ∨ bitB j e.an = true)))
  | [], _, _, i, e, h, _ => by simp at h
  | x :: ds, i0, h, i, e, hi, he => by
    simp only [seesOK, Bool.and_eq_true] at h
    cases i with
    | zero =>
      simp at hi; subst hi
      rw [he] at h
      have h := h.1
      have hb : Nat.beq t t = true := by rw [Nat.beq_eq]
      simp only [hb, Bool.or_eq_true, Bool.and_eq_true, Bool.not_eq_true'] at h
      obtain ⟨h0, h⟩ := h
      refine ⟨fun e => (by rw [e] at h0; cases h0), ?_⟩
      rcases h with h | ⟨h1, h5, h2⟩
      · exact .inl h
      · refine .inr ⟨fun e => (by rw [e] at h1; cases h1), fun e => (by rw [e] at h5; cases h5), ?_⟩
        rcases h2 with h2 | h2
        · exact .inl (Nat.eq_of_beq_eq_true h2)
        · exact .inr h2
    | succ i =>
      have := seesOK_get h.2 (i := i) (by simpa using hi) he
      rwa [show i0 + 1 + i = i0 + (i + 1) by omega] at this
theorem allSee_get {ds : List DO} : ∀ {l : List DO} {j0 : Nat}, allSeeOK ds j0 l = true → ∀ {j : Nat} {d : DO}, l[j]? = some d → ∀ t ∈ d.se, seesOK (j0 + j) d.cl d.an t 0 ds = true
  | [], _, _, j, d, h => by simp at h
  | x :: l, j0, h, j, d, hj => by
    simp only [allSeeOK, Bool.and_eq_true, List.all_eq_true] at h
    cases j with
    | zero => simp at hj; subst hj; exact h.1
    | succ j =>
      have := allSee_get h.2 (j := j) (by simpa using hj)
      rwa [show j0 + 1 + j = j0 + (j + 1) by omega] at this
theorem edges_get : ∀ {l : List DO} {i0 : Nat}, edgesOK i0 l = true → ∀ {i : Nat} {d : DO}, l[i]? = some d → ∀ e ∈ d.o.after.toList, (∀ x, e.ground ≠ .gcOnly x) → e.on < i0 + i
  | [], _, _, i, d, h => by simp at h
  | x :: l, i0, h, i, d, hi => by
    simp only [edgesOK, Bool.and_eq_true, List.all_eq_true] at h
    cases i with
    | zero =>
      simp at hi; subst hi
      intro e he hn
      have := h.1 e he
      cases hg : e.ground <;> rw [hg] at this <;> first
        | exact absurd hg (hn _)
        | exact Nat.le_of_ble_eq_true this
    | succ i =>
      have := edges_get h.2 (i := i) (by simpa using hi)
      rwa [show i0 + 1 + i = i0 + (i + 1) by omega] at this

/-- What is known of a drawn region. -/
structure Facts (T : TT) (g n : Nat) (ops : Array Oper) (lit : Option Lit) (ds : List DO) : Prop where
  get : ∀ {i : Nat} {d : DO}, ds[i]? = some d → ops.toList[i]? = some d.o ∧ (ancs ops.toList [])[i]? = some d.an
  knd : ∀ {i : Nat} {d : DO}, ds[i]? = some d → Knd T g n ops lit i d
  len : ds.length = ops.size
  dst : ∀ {i j : Nat} {d e : DO} {t : Nat}, ds[i]? = some d → ds[j]? = some e → d.o.dst = some t → e.o.dst = some t → i = j
  see : ∀ {j : Nat} {d : DO} {t i : Nat} {e : DO}, ds[j]? = some d → t ∈ d.se → ds[i]? = some e → e.o.dst = some t → e.cl ≠ 5 ∧ (bitB i d.an = true ∨ (d.cl ≠ 1 ∧ d.cl ≠ 5 ∧ (i = j ∨ bitB j e.an = true)))
  lok : litOK T ops lit ds = true
/-- In such an order all comes to be listed. -/
def Cmp (m : Region.Mode) (ops : Array Oper) : Prop := ∀ listed : Array Bool, listed.size = ops.size → Region.ready m ops listed = [] → ∀ i, i < ops.size → listed.getD i false = true
theorem getD_iff {l : Array Bool} {i : Nat} (hi : i < l.size) : l.getD i true = l.getD i false := by
  simp [Array.getD, hi]
theorem not_ready {m : Region.Mode} {ops : Array Oper} {listed : Array Bool} (hs : listed.size = ops.size) (h : Region.ready m ops listed = []) {i : Nat} {o : Oper} (ho : ops.toList[i]? = some o)
    (he : ∀ e ∈ o.after.toList, Region.binds m e = true → listed.getD e.on false = true) : listed.getD i false = true := by
  have hlt : i < ops.size := by have := (List.getElem?_eq_some_iff.1 ho).1; simpa using this
  cases hl : listed.getD i false with
  | true => rfl
  | false =>
    have : i ∈ Region.ready m ops listed := mem_ready.2 ⟨by rw [getD_iff (by omega)]; exact hl, o, by simpa using ho, fun e h1 h2 => he e (by simpa using h1) h2⟩
    rw [h] at this; cases this
theorem cmp_back {T : TT} {g n : Nat} {ops : Array Oper} {lit : Option Lit} {ds : List DO} (f : Facts T g n ops lit ds) (he : edgesOK 0 ds = true) {m : Region.Mode} (hm : m ≠ .gc) : Cmp m ops := by
  intro listed hs hr i
  induction i using Nat.strongRecOn with
  | _ i ih =>
    intro hi
    obtain ⟨d, hd⟩ : ∃ d, ds[i]? = some d := ⟨_, List.getElem?_eq_getElem (by rw [f.len]; exact hi)⟩
    have ho := (f.get hd).1
    refine not_ready hs hr ho fun e h1 h2 => ?_
    have : e.on < i := by
      have := edges_get he hd e h1 (fun x hx => ?_)
      · omega
      · unfold Region.binds at h2; rw [hx] at h2
        simp only [beq_iff_eq] at h2
        exact hm h2
    exact ih e.on this (by omega)
theorem bits_all {N i : Nat} (hi : i < N) : bitB i (Nat.sub (Nat.pow 2 N) 1) = true := by
  rw [bitB_eq]
  show (2 ^ N - 1).testBit i = true
  rw [Nat.testBit_two_pow_sub_one]; simpa using hi
theorem gc_go {T : TT} {g n : Nat} {ops : Array Oper} {lit : Option Lit} {ds : List DO} (f : Facts T g n ops lit ds) {listed : Array Bool} (hs : listed.size = ops.size) (hr : Region.ready .gc ops listed = []) :
    ∀ (l : List Nat) (done : Nat), gcOK ds l done = true → (∀ i, bitB i done = true → listed.getD i false = true) → ∀ i, i < ops.size → listed.getD i false = true
  | [], done, h, hd => fun i hi => hd i (by rw [Nat.eq_of_beq_eq_true h, f.len]; exact bits_all hi)
  | j :: l, done, h, hd => by
    unfold gcOK at h
    split at h
    · rename_i d hj
      simp only [Bool.and_eq_true, List.all_eq_true] at h
      refine gc_go f hs hr l _ h.2 fun i hi => ?_
      rw [bitB_or, bitB_pow] at hi
      simp only [Bool.or_eq_true, decide_eq_true_eq] at hi
      rcases hi with hi | rfl
      · exact hd i hi
      · refine not_ready hs hr (f.get hj).1 fun e h1 h2 => hd _ ?_
        have := h.1 e h1
        unfold Region.binds at h2
        cases hg : e.ground <;> rw [hg] at this h2 <;> first | exact this | cases h2
    · cases h
theorem cmp_gc {T : TT} {g n : Nat} {ops : Array Oper} {lit : Option Lit} {ds : List DO} (f : Facts T g n ops lit ds) {l : List Nat} (h : gcOK ds l 0 = true) : Cmp .gc ops :=
  fun listed hs hr => gc_go f hs hr l 0 h fun i hi => by rw [bitB_zero] at hi; cases hi
theorem departs_eq {T : TT} {g n : Nat} {ops : Array Oper} {lit : Option Lit} {ds : List DO} (f : Facts T g n ops lit ds) (h : Region.departs ops = true) : departs ds = true := by
  unfold Region.departs at h
  rw [Array.any_eq_true'] at h
  obtain ⟨o, hm, h⟩ := h
  rw [Array.any_eq_true'] at h
  obtain ⟨e, hme, h⟩ := h
  obtain ⟨i, hi, hio⟩ := Array.getElem_of_mem hm
  obtain ⟨d, hd⟩ : ∃ d, ds[i]? = some d := ⟨_, List.getElem?_eq_getElem (by rw [f.len]; exact hi)⟩
  have ho := (f.get hd).1
  have hod : o = d.o := by
    have : ops.toList[i]? = some o := by rw [List.getElem?_eq_getElem (by simpa using hi)]; simp [hio]
    rw [this] at ho; cases ho; rfl
  subst hod
  unfold departs
  rw [List.any_eq_true]
  refine ⟨d, List.mem_of_getElem? hd, ?_⟩
  rw [List.any_eq_true]
  refine ⟨e, by simpa using hme, ?_⟩
  unfold Region.binds at h
  cases hg : e.ground <;> rw [hg] at h <;> first | rfl | cases h
/-- Whatever is drawn, a schedule in an order in which all comes to be listed. -/
theorem sched_ok {T : TT} {g n : Nat} {ops : Array Oper} {lit : Option Lit} {ds : List DO} (f : Facts T g n ops lit ds) (he : edgesOK 0 ds = true) {l : List Nat} (hg : (!departs ds || gcOK ds l 0) = true) (mixed : Bool) (t : Nat) :
    ∃ m, Cmp m ops ∧ Sch m ops (Array.replicate ops.size false) (Region.schedule mixed ops t) := by
  unfold Region.schedule
  split
  · exact ⟨_, cmp_back f he (by simp), lin_sch _ _ _⟩
  · rename_i h
    simp only [Bool.or_eq_true, Bool.not_eq_true', not_or, Bool.not_eq_false] at h
    refine ⟨_, ?_, lin_sch _ _ _⟩
    split
    · exact cmp_back f he (by simp)
    · rw [departs_eq f h.2] at hg
      exact cmp_gc f (by simpa using hg)
end Go.Kx

/- Steps with two frames: the evaluator's, and the machine's. -/
namespace Go.Kx
/-- The form of an operation that makes a block. -/
theorem al_shape {o : FOp} (ho : cls o = 2) {fr : Fr} : (∃ n, ∀ h, opAR o fr h = .bad n) ∨ ∃ (mk : Pth → AV) (k : Bk), ∀ h, opAR o fr h = .val (mk (hnx h)) (hput k h) := by
  cases o <;> first | (cases ho; done) | skip
  case len kd x => exfalso; unfold cls at ho; dsimp only at ho; split at ho <;> cases ho
  case box l => exact .inr ⟨fun b => .ptr b 0, _, fun h => rfl⟩
  case boxv x =>
    show (∃ n, ∀ h, ev1 x fr (fun v => ifB (okCells v) (newRowA (cellsOf v) h) (.bad 15)) = .bad n) ∨ ∃ (mk : Pth → AV) (k : Bk), ∀ h, ev1 x fr (fun v => ifB (okCells v) (newRowA (cellsOf v) h) (.bad 15)) = .val (mk (hnx h)) (hput k h)
    unfold ev1
    cases ev x fr with
    | none => exact .inl ⟨_, fun h => rfl⟩
    | some v =>
      show (∃ n, ∀ h, ifB (okCells v) (newRowA (cellsOf v) h) (.bad 15) = .bad n) ∨ ∃ (mk : Pth → AV) (k : Bk), ∀ h, ifB (okCells v) (newRowA (cellsOf v) h) (.bad 15) = .val (mk (hnx h)) (hput k h)
      cases okCells v
      · exact .inl ⟨_, fun h => rfl⟩
      · exact .inr ⟨fun b => .ptr b 0, _, fun h => rfl⟩
  case bsl es n z ps =>
    show (∃ m, ∀ h, optK (evParts ps fr) (AR.bad 18) (fun ps => optK (fillL ps z) (AR.bad 19) (fun l => AR.val (.sl (hnx h) 0 n n true es) (hput (.own (putL l 0 .e)) h))) = .bad m) ∨
      ∃ (mk : Pth → AV) (k : Bk), ∀ h, optK (evParts ps fr) (AR.bad 18) (fun ps => optK (fillL ps z) (AR.bad 19) (fun l => AR.val (.sl (hnx h) 0 n n true es) (hput (.own (putL l 0 .e)) h))) = .val (mk (hnx h)) (hput k h)
    cases evParts ps fr with
    | none => exact .inl ⟨_, fun h => rfl⟩
    | some l =>
      show (∃ m, ∀ h, optK (fillL l z) (AR.bad 19) (fun l => AR.val (.sl (hnx h) 0 n n true es) (hput (.own (putL l 0 .e)) h)) = .bad m) ∨
        ∃ (mk : Pth → AV) (k : Bk), ∀ h, optK (fillL l z) (AR.bad 19) (fun l => AR.val (.sl (hnx h) 0 n n true es) (hput (.own (putL l 0 .e)) h)) = .val (mk (hnx h)) (hput k h)
      cases fillL l z with
      | none => exact .inl ⟨_, fun h => rfl⟩
      | some l => exact .inr ⟨fun b => .sl b 0 n n true es, _, fun h => rfl⟩
  case toBytes x =>
    show (∃ n, ∀ h, ev1 x fr (fun v => onStr v (AR.bad 47) (fun l z => ifB (Nat.blt l big) (AR.val (.sl (hnx h) 0 l l false 1) (hput (.own (putL (bytesL z 0 l) 0 .e)) h)) (AR.bad 48))) = .bad n) ∨
      ∃ (mk : Pth → AV) (k : Bk), ∀ h, ev1 x fr (fun v => onStr v (AR.bad 47) (fun l z => ifB (Nat.blt l big) (AR.val (.sl (hnx h) 0 l l false 1) (hput (.own (putL (bytesL z 0 l) 0 .e)) h)) (AR.bad 48))) = .val (mk (hnx h)) (hput k h)
    unfold ev1
    cases ev x fr with
    | none => exact .inl ⟨_, fun h => rfl⟩
    | some v =>
      cases v <;> first | exact .inl ⟨_, fun h => rfl⟩ | skip
      rename_i l z
      show (∃ n, ∀ h, ifB (Nat.blt l big) (AR.val (.sl (hnx h) 0 l l false 1) (hput (.own (putL (bytesL z 0 l) 0 .e)) h)) (AR.bad 48) = .bad n) ∨
        ∃ (mk : Pth → AV) (k : Bk), ∀ h, ifB (Nat.blt l big) (AR.val (.sl (hnx h) 0 l l false 1) (hput (.own (putL (bytesL z 0 l) 0 .e)) h)) (AR.bad 48) = .val (mk (hnx h)) (hput k h)
      cases Nat.blt l big
      · exact .inl ⟨_, fun h => rfl⟩
      · exact .inr ⟨fun b => .sl b 0 l l false 1, _, fun h => rfl⟩
  case mkmap => exact .inr ⟨.mp, _, fun h => rfl⟩
  case mksl n y z l c =>
    show (∃ m, ∀ h, optK (evIx (some l) 0 fr) (AR.bad 51) (fun l => optK (evIx (some c) 0 fr) (AR.bad 52) fun c =>
      ifB (Nat.ble l c && Nat.ble c 1000000 && Nat.ble y 1000000 && Nat.beq (lenL z) n) (AR.val (.sl (hnx h) 0 l c true n) (hput (.own (putL (repL z c) 0 .e)) h)) (AR.bad 53)) = .bad m) ∨
      ∃ (mk : Pth → AV) (k : Bk), ∀ h, optK (evIx (some l) 0 fr) (AR.bad 51) (fun l => optK (evIx (some c) 0 fr) (AR.bad 52) fun c =>
      ifB (Nat.ble l c && Nat.ble c 1000000 && Nat.ble y 1000000 && Nat.beq (lenL z) n) (AR.val (.sl (hnx h) 0 l c true n) (hput (.own (putL (repL z c) 0 .e)) h)) (AR.bad 53)) = .val (mk (hnx h)) (hput k h)
    cases evIx (some l) 0 fr with
    | none => exact .inl ⟨_, fun h => rfl⟩
    | some a =>
      cases evIx (some c) 0 fr with
      | none => exact .inl ⟨_, fun h => rfl⟩
      | some b =>
        show (∃ m, ∀ h, ifB (Nat.ble a b && Nat.ble b 1000000 && Nat.ble y 1000000 && Nat.beq (lenL z) n) (AR.val (.sl (hnx h) 0 a b true n) (hput (.own (putL (repL z b) 0 .e)) h)) (AR.bad 53) = .bad m) ∨
          ∃ (mk : Pth → AV) (k : Bk), ∀ h, ifB (Nat.ble a b && Nat.ble b 1000000 && Nat.ble y 1000000 && Nat.beq (lenL z) n) (AR.val (.sl (hnx h) 0 a b true n) (hput (.own (putL (repL z b) 0 .e)) h)) (AR.bad 53) = .val (mk (hnx h)) (hput k h)
        cases (Nat.ble a b && Nat.ble b 1000000 && Nat.ble y 1000000 && Nat.beq (lenL z) n)
        · exact .inl ⟨_, fun h => rfl⟩
        · exact .inr ⟨fun p => .sl p 0 a b true n, _, fun h => rfl⟩

/-- Memory with a block that nothing stands for yet. -/
theorem HR.put {L : Lp} {ρ : Rho} {h : H} {w : World} (hr : HR L ρ h w) (k : Bk) : HR L ρ (hput k h) w where
  sy := hr.sy
  ro := fun B o e => by
    obtain ⟨q0, n, t, q1, q2⟩ := hr.ro B o e
    exact ⟨q0, n, t, q1, by rw [hget_hput_ne (fun e => by rw [e, hr.fresh] at q1; cases q1)]; exact q2⟩
  blk := fun b x k' hb hk => by
    rw [hget_hput_ne (fun e => by subst e; rw [hr.fresh] at hb; cases hb)] at hk
    exact hr.blk b x k' hb hk
  inj := fun b b' x x' hb hb' e h1 h2 => by
    rw [hget_hput_ne (fun e => by subst e; rw [hr.fresh] at hb; cases hb)] at h1
    rw [hget_hput_ne (fun e => by subst e; rw [hr.fresh] at hb'; cases hb')] at h2
    exact hr.inj b b' x x' hb hb' e h1 h2
  lt := fun b x hb => by have := hr.lt b x hb; rw [hnx_hput]; exact ⟨this.1, by omega⟩
  wf := fun b hb => by
    rw [hnx_hput] at hb
    rw [hget_hput_ne (fun e => by subst e; omega)]
    exact hr.wf b (by omega)
theorem Ext.put {ρ0 ρ : Rho} {h0 h : H} {w0 w : World} (e : Ext ρ0 h0 w0 ρ h w) (k : Bk) : Ext ρ0 h0 w0 ρ (hput k h) w :=
  ⟨e.le, e.fresh, e.size, e.keep, by rw [hnx_hput]; have := e.nx; omega, fun b hb hn => by
    rw [hget_hput_ne (fun e' => by subst e'; have := e.nx; omega)]; exact e.akeep b hb hn, e.os, e.out⟩
theorem ev_agree {φ ψ : Fr} {x : Operand} (h : ∀ t, x = .tmp t → Tr.get (pth t) φ = Tr.get (pth t) ψ) : ev (cX x) φ = ev (cX x) ψ := by
  cases x with
  | tmp t => exact h t rfl
  | const v => unfold cX; dsimp only; cases ofV v <;> rfl
  | global g => rfl
  | func f => rfl

section steps
variable {L : Lp} {P : Program} {T : TT} {g n : Nat} (hT : TOK T P) {b : Frame} {k kk : List Item} {cs : List Frame} {ops : Array Oper} {ρ0 : Rho} {h0 : H} {w0 : World} {dl : List Pth}
include hT
/-- What lies behind a step. -/
def KO2 (L : Lp) (P : Program) (g n : Nat) (b : Frame) (kk k : List Item) (cs : List Frame) (ops : Array Oper) (rest : List Nat) (call : CallF) (ih : KK) (ρ0 : Rho) (h0 : H) (w0 : World) (dl : List Pth) (d : Option Pth) (φ frS : Fr) (ρ : Rho) (h : H) (w : World) (a : Act) (dst : Option Tmp) : Prop :=
  ∀ ρ' a' w' u df' h', (∃ v, a'.tmps = (a.put dst v).tmps) → Ext ρ h w ρ' h' w' → SR L g n ρ' (setd d u frS) df' h' b.roundOf a' w' → RG L P g n b kk cs (lone (b.atR a' (.inRegion ops rest :: k)) cs w') ρ0 h0 w0 (drwK dl (ih call (setd d u φ) df' h'))
omit hT in
theorem RG.steps {m m1 : Machine} {r : R} (hs : Steps P m m1) (hr : RG L P g n b kk cs m1 ρ0 h0 w0 r) : RG L P g n b kk cs m ρ0 h0 w0 r := RG.head (.refl _ _ _) hs hr
theorem st_go2 {call : CallF} (hc : CallS L P g call) {ih : KK} {i : Nat} {rest : List Nat} {o : Oper} (ho : ops[i]? = some o) {d : Option Pth} (hd : cDst n o.dst = some d)
    {ρ : Rho} {φ frS : Fr} {df : Df} {h : H} {a : Act} {w : World} (e0 : Ext ρ0 h0 w0 ρ h w) (hE : ∀ p v, Tr.get p (eraseL dl φ) = some v → Tr.get p frS = some v)
    (s : SR L g n ρ frS df h b.roundOf a w) (hx : ∀ x ∈ o.op.operands, EvR ρ φ (cX x) (a.eval x))
    (hw : Region.wanted o (yielded ops a.tmps) = true) (hk : KO2 L P g n b kk k cs ops rest call ih ρ0 h0 w0 dl d φ frS ρ h w a o.dst) :
    RG L P g n b kk cs (lone (b.atR a (.inRegion ops (i :: rest) :: k)) cs w) ρ0 h0 w0 (drwK dl (stepGo d (cOp T o.op) ih call φ df h)) := by
  have hop := op_ok hT s.hr o hx
  have hgo := stepGR_op (P := P) (b := b) (a := a) (k := k) (cs := cs) (w := w) (rest := rest) ho hw
  have hfin : ∀ v, (b.atR a (.inRegion ops (i :: rest) :: k)).finish v = b.atR (a.put o.dst v) (.inRegion ops rest :: k) := by
    intro v; rw [Frame.finish_atR, ho]; rfl
  have frE : FrR ρ n (eraseL dl φ) a.tmps := ⟨s.fr.size, fun p v hv => s.fr.slot p v (hE p v hv)⟩
  have key : o.semAt b.roundOf a.eval = execOp a.eval o ∨ ∃ q, stepGo d (cOp T o.op) ih call φ df h = .bad q := by
    cases df with
    | l ds => rw [s.df.1]; exact .inl rfl
    | no p =>
      by_cases hdef : ∃ c, o.op = .defer c
      · obtain ⟨c, hdef⟩ := hdef
        refine .inr ?_
        rw [hdef] at hop ⊢
        unfold stepGo
        have : (∃ x h', opAR (cOp T (.defer c)) φ h = .defr x h') ∨ ∃ q, opAR (cOp T (.defer c)) φ h = .bad q := by
          unfold cOp
          dsimp only
          split
          · show (∃ x h', hDefr _ _ φ h = .defr x h') ∨ ∃ q, hDefr _ _ φ h = .bad q
            unfold hDefr ev1
            refine g_optK (Φ := fun r => (∃ x h', r = .defr x h') ∨ ∃ q, r = .bad q) (fun q => .inr ⟨q, rfl⟩) fun u hu => g_optK (Φ := fun r => (∃ x h', r = .defr x h') ∨ ∃ q, r = .bad q) (fun q => .inr ⟨q, rfl⟩) fun v hv => ?_
            split
            · exact .inl ⟨_, _, rfl⟩
            · exact .inr ⟨_, rfl⟩
          · exact .inr ⟨_, rfl⟩
        rcases this with ⟨x, h', e⟩ | ⟨q, e⟩ <;> rw [e]
        · exact ⟨_, rfl⟩
        · exact ⟨_, rfl⟩
      · exact .inl (Oper.semAt_eq _ _ _ (fun c e => hdef ⟨c, e⟩))
  rcases key with key | ⟨q, e⟩
  case inr => rw [e]; trivial
  rw [key] at hgo
  unfold stepGo
  generalize opAR (cOp T o.op) φ h = ar at hop
  cases ar with
  | bad k => trivial
  | val u h' =>
    obtain ⟨ρ', v, w', e, h1, h2, h3⟩ := hop
    refine RG.steps (.one (step_lone_go ?_)) (hk ρ' (a.put o.dst v) w' _ _ _ ⟨_, rfl⟩ h1 (s.put hT h1 h3 hd h2))
    rw [hgo, ← hfin]; simp [stepG.apply, e]
  | skip h' =>
    obtain ⟨ρ', w', e, h1, h2⟩ := hop
    refine RG.steps (.one (step_lone_go ?_)) (hk ρ' (a.put o.dst undef) w' _ _ _ ⟨_, rfl⟩ h1 (s.put hT h1 h2 hd (v := undef) ⟨#[], rfl, rfl⟩))
    rw [hgo, ← hfin]; simp [stepG.apply, e]
  | call f args h' =>
    obtain ⟨rfl, args', h1, e⟩ := hop
    show RG _ _ _ _ _ _ _ _ _ _ _ (drwK dl (crK (call none f args h') d ih call φ df))
    rcases hc.fn f args h' ρ w args' s.hr s.gr h1 with ⟨q, hq⟩ | ⟨hen, hcg⟩
    · rw [hq]; trivial
    have henter : step P (lone (b.atR a (.inRegion ops (i :: rest) :: k)) cs w) = .next (lone (Frame.enter P f.num args' .normal) (b.atR a (.inRegion ops (i :: rest) :: k) :: cs) w) :=
      step_lone_go (by rw [hgo]; rw [hen] at e; simp [stepG.apply, e, Frame.atR])
    generalize call none f args h' = cr at hcg
    cases cr with
    | bad q => trivial
    | ret u h'' =>
      obtain ⟨ρ', v, w', q1, q2, q3, q4⟩ := hcg (b.atR a (.inRegion ops (i :: rest) :: k)) cs
      rw [hfin] at q4
      exact RG.steps (.head henter q4) (hk ρ' (a.put o.dst v) w' _ _ _ ⟨_, rfl⟩ q1 (s.put hT q1 q3 hd q2))
    | pn ch h'' =>
      obtain ⟨ρ', ch', w', q1, q2, q3, q4⟩ := hcg (b.atR a (.inRegion ops (i :: rest) :: k)) cs
      exact ⟨ρ', a, w', .inRegion ops (i :: rest) :: k, ch', e0.trans q1, ⟨q3, s.gr.mono q1.le, frE.mono q1.le, s.df.mono q1.le⟩, q2, trivial, .head henter q4⟩
  | yld y args h' =>
    obtain ⟨rfl, x, args', hy, h1, e⟩ := hop
    show RG _ _ _ _ _ _ _ _ _ _ _ (drwK dl (crK (call (some y) y args h') d ih call φ df))
    rcases hc.yl y args h' ρ w args' x s.hr s.gr hy h1 with ⟨q, hq⟩ | ⟨l, f, tmps, as, bd, hen, hcg⟩
    · rw [hq]; trivial
    have henter : step P (lone (b.atR a (.inRegion ops (i :: rest) :: k)) cs w) = .next (lone (Frame.round l f tmps as bd .normal) (b.atR a (.inRegion ops (i :: rest) :: k) :: cs) w) :=
      step_lone_go (by rw [hgo]; rw [hen] at e; simp [stepG.apply, e, Frame.atR])
    generalize call (some y) y args h' = cr at hcg
    cases cr with
    | bad q => trivial
    | ret u h'' =>
      obtain ⟨ρ', v, w', q1, q2, q3, q4⟩ := hcg (b.atR a (.inRegion ops (i :: rest) :: k)) cs
      rw [hfin] at q4
      exact RG.steps (.head henter q4) (hk ρ' (a.put o.dst v) w' _ _ _ ⟨_, rfl⟩ q1 (s.put hT q1 q3 hd q2))
    | pn ch h'' =>
      obtain ⟨ρ', ch', w', q1, q2, q3, q4⟩ := hcg (b.atR a (.inRegion ops (i :: rest) :: k)) cs
      exact ⟨ρ', a, w', .inRegion ops (i :: rest) :: k, ch', e0.trans q1, ⟨q3, s.gr.mono q1.le, frE.mono q1.le, s.df.mono q1.le⟩, q2, trivial, .head henter q4⟩
  | defr x h' =>
    obtain ⟨rfl, c, args, h1, e⟩ := hop
    cases df with
    | no p => trivial
    | l ds =>
      have s' : SR L g n ρ frS (.l (.inl x :: ds)) h' b.roundOf { a with defers := { target := .fn (.func x.f) c, args := args } :: a.defers } w :=
        ⟨s.hr, s.gr, s.fr, s.df.1, _, _, rfl, ⟨c, args, rfl, h1⟩, s.df.2⟩
      refine RG.steps (.one (step_lone_go ?_)) (hk ρ _ w _ _ _ ⟨undef, by cases o.dst <;> rfl⟩ (.refl _ _ _) (s'.put hT (.refl _ _ _) s.hr hd (v := undef) ⟨#[], rfl, rfl⟩))
      have : ({ b.atR a (.inRegion ops (i :: rest) :: k) with defers := { target := .fn (.func x.f) c, args := args } :: a.defers } : Frame).finish undef =
          b.atR ({ a with defers := { target := .fn (.func x.f) c, args := args } :: a.defers }.put o.dst undef) (.inRegion ops rest :: k) := by
        have := Frame.finish_atR b { a with defers := { target := .fn (.func x.f) c, args := args } :: a.defers } ops i rest k undef
        rw [ho] at this; exact this
      rw [hgo]
      simp only [stepG.apply, Sem.runT_eq, e, GStep.bare_after]
      exact congrArg (fun fr => GStep.go { frame := fr, callers := cs, status := .running, dying := none } w) this
  | pan v h' =>
    obtain ⟨rfl, v', h1, e⟩ := hop
    refine ⟨ρ, a, w, .inRegion ops (i :: rest) :: k, [{ v := v', recovered := false }], e0, ⟨s.hr, s.gr, frE, s.df⟩, ⟨_, _, rfl, h1, rfl, rfl, rfl⟩, trivial, .one (step_lone_go ?_)⟩
    rw [hgo, ← Frame.raise_atR]; simp [stepG.apply, e]
theorem st_skip2 {call : CallF} {ih : KK} {i : Nat} {rest : List Nat} {o : Oper} (ho : ops[i]? = some o) {d : Option Pth} (hd : cDst n o.dst = some d)
    {ρ : Rho} {φ frS : Fr} {df : Df} {h : H} {a : Act} {w : World} (s : SR L g n ρ frS df h b.roundOf a w)
    (hw : Region.wanted o (yielded ops a.tmps) = false) (hk : KO2 L P g n b kk k cs ops rest call ih ρ0 h0 w0 dl d φ frS ρ h w a o.dst) :
    RG L P g n b kk cs (lone (b.atR a (.inRegion ops (i :: rest) :: k)) cs w) ρ0 h0 w0 (drwK dl (ih call (setd d undefA φ) df h)) := by
  have hs := stepR_op_skip (P := P) (b := b) (a := a) (k := k) (cs := cs) (w := w) (ops := ops) (i := i) (rest := rest) (by rw [ho]; simpa using hw)
  rw [ho] at hs
  exact RG.steps (.one hs) (hk ρ _ w _ _ _ ⟨undef, rfl⟩ (.refl _ _ _) (s.put hT (.refl _ _ _) s.hr hd (v := undef) ⟨#[], rfl, rfl⟩))
/-- The slots that an operation looks at. -/
theorem sees_op {o : Oper} {t : Nat} (h : .tmp t ∈ o.op.operands) : t ∈ seesO ops o := by
  unfold seesO
  rw [List.mem_append]
  exact .inl (List.mem_filterMap.2 ⟨.tmp t, by simpa using h, rfl⟩)
theorem sees_guard {o : Oper} {j : Nat} {want : Bool} (hg : o.guard = some (j, want)) {pw : Pth × Bool} (hc : cGuard ops (some (j, want)) = some (some pw)) : ∃ t ∈ seesO ops o, pw.1 = pth t := by
  simp only [cGuard] at hc
  split at hc
  · rename_i q hq
    split at hc
    · rename_i dd hdd
      cases hc
      refine ⟨dd, ?_, rfl⟩
      unfold seesO
      rw [List.mem_append]
      refine .inr ?_
      rw [hg]
      simp only [hq, hdd]
      simp
    · cases hc
  · cases hc
theorem st_F2 {call : CallF} (hc : CallS L P g call) {ih : KK} {i : Nat} {rest : List Nat} {o : Oper} (ho : ops[i]? = some o)
    {ρ : Rho} {φ frS : Fr} {df : Df} {h : H} {a : Act} {w : World} (e0 : Ext ρ0 h0 w0 ρ h w) (hE : ∀ p v, Tr.get p (eraseL dl φ) = some v → Tr.get p frS = some v)
    (hA : ∀ t ∈ seesO ops o, Tr.get (pth t) φ = Tr.get (pth t) frS)
    (s : SR L g n ρ frS df h b.roundOf a w) (hk : ∀ d, cDst n o.dst = some d → KO2 L P g n b kk k cs ops rest call ih ρ0 h0 w0 dl d φ frS ρ h w a o.dst) :
    RG L P g n b kk cs (lone (b.atR a (.inRegion ops (i :: rest) :: k)) cs w) ρ0 h0 w0 (drwK dl (stepF (cStep T g n ops o) ih call φ df h)) := by
  unfold cStep
  split
  · rename_i d gd hd hgd
    split
    · rename_i hall
      have hgo : ∀ x ∈ o.op.operands, gOK g x := fun x hx => gB_ok (List.all_eq_true.1 hall x (by simpa using hx))
      have hx : ∀ x ∈ o.op.operands, EvR ρ φ (cX x) (a.eval x) := fun x hx u hu => ev_cX s.fr s.gr x (hgo x hx) u (by
        rw [← ev_agree (φ := φ) fun t e => hA t (sees_op hT (by subst e; exact hx))]; exact hu)
      cases hg : o.guard with
      | none =>
        rw [hg] at hgd; cases hgd
        exact st_go2 hT hc ho hd e0 hE s hx (by unfold Region.wanted; rw [hg]) (hk d hd)
      | some jw =>
        obtain ⟨j, want⟩ := jw
        rw [hg] at hgd
        cases gd with
        | none =>
          simp only [cGuard] at hgd
          split at hgd
          · split at hgd <;> cases hgd
          · cases hgd
        | some pw =>
          show RG _ _ _ _ _ _ _ _ _ _ _ (drwK dl (optK (Tr.get pw.1 φ) (.bad 301) fun v => ifB (gTold pw v) (stepGo d (cOp T o.op) ih call φ df h) (ih call (setd d undefA φ) df h)))
          rcases optK_cases (Tr.get pw.1 φ) (R.bad 301) (fun v => ifB (gTold pw v) (stepGo d (cOp T o.op) ih call φ df h) (ih call (setd d undefA φ) df h)) with ⟨v, hv, e⟩ | ⟨_, e⟩ <;> rw [e]
          · obtain ⟨t, ht, hpt⟩ := sees_guard hT hg hgd
            have hw := guard_ok (o := o) hT s.fr hg hgd (v := v) (by rw [hpt, ← hA t ht, ← hpt]; exact hv)
            rcases ifB_cases (gTold pw v) (stepGo d (cOp T o.op) ih call φ df h) (ih call (setd d undefA φ) df h) with ⟨e1, e2⟩ | ⟨e1, e2⟩ <;> rw [e2]
            · exact st_go2 hT hc ho hd e0 hE s hx (hw.trans e1) (hk d hd)
            · exact st_skip2 hT ho hd s (hw.trans e1) (hk d hd)
          · trivial
    · trivial
  · trivial
end steps
end Go.Kx
