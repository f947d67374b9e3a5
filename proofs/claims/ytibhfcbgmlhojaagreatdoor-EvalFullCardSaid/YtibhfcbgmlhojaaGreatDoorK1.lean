/- A verified evaluator of the model, that the kernel runs: part 1 of 6. Conditions: none. -/
import GoSem.Dispatch
import GoSem.Core.Machine
import Derived.Laws.Sem
import Derived.Laws.Cells
import Derived.Laws.IdiomCopy
import Derived.Lib.IndexBytes
set_option linter.unusedVariables false
set_option linter.unusedSimpArgs false
set_option linter.unusedSectionVars false
/- Whole numbers of which an interval is known. (Not built into the evaluator yet.) -/
namespace Go.Kx
/-- A base that is not known, cut to an interval; its sign; what is added. -/
structure SI where
  neg : Bool
  i : Nat
  lo : Int
  hi : Int
  off : Int
def clampI (lo hi x : Int) : Int := if x < lo then lo else if hi < x then hi else x
def sgnI (b : Bool) (x : Int) : Int := match b with | true => -x | false => x
def SI.val (s : SI) (x : Nat → Int) : Int := sgnI s.neg (clampI s.lo s.hi (x s.i)) + s.off
def SI.mn (s : SI) : Int := match s.neg with | true => -s.hi + s.off | false => s.lo + s.off
def SI.mx (s : SI) : Int := match s.neg with | true => -s.lo + s.off | false => s.hi + s.off
def SI.ok (s : SI) : Bool := decide (s.lo ≤ s.hi)
theorem clampI_ge {lo hi x : Int} (h : lo ≤ hi) : lo ≤ clampI lo hi x ∧ clampI lo hi x ≤ hi := by
  unfold clampI; split <;> (try split) <;> omega
theorem clampI_in {lo hi x : Int} (h1 : lo ≤ x) (h2 : x ≤ hi) : clampI lo hi x = x := by
  unfold clampI; split <;> (try split) <;> omega
theorem SI.bounds {s : SI} (h : s.ok = true) (x : Nat → Int) : s.mn ≤ s.val x ∧ s.val x ≤ s.mx := by
  have h : s.lo ≤ s.hi := of_decide_eq_true h
  have := clampI_ge (x := x s.i) h
  unfold SI.mn SI.mx SI.val sgnI
  cases s.neg <;> simp only [] <;> omega
def cI (c : Int) : SI := ⟨false, 0, 0, 0, c⟩
theorem cI_val (c : Int) (x : Nat → Int) : (cI c).val x = c := by
  have : clampI 0 0 (x 0) = 0 := by unfold clampI; split <;> (try split) <;> omega
  simp [cI, SI.val, sgnI, this]
def SI.isC (s : SI) : Bool := decide (s.lo = s.hi)
def SI.same (s t : SI) : Bool := (s.neg == t.neg) && Nat.beq s.i t.i && decide (s.lo = t.lo) && decide (s.hi = t.hi)
theorem SI.same_val {s t : SI} (h : s.same t = true) (x : Nat → Int) : s.val x - s.off = t.val x - t.off := by
  simp only [SI.same, Bool.and_eq_true, beq_iff_eq, decide_eq_true_eq] at h
  obtain ⟨⟨⟨h1, h2⟩, h3⟩, h4⟩ := h
  have h2 := Nat.eq_of_beq_eq_true h2
  unfold SI.val
  rw [h1, h2, h3, h4]; omega
def big62 : Int := 4611686018427387904
def SI.rng (s : SI) : Bool := s.ok && decide (-big62 < s.mn) && decide (s.mx < big62)
theorem SI.rng_val {s : SI} (h : s.rng = true) (x : Nat → Int) : -big62 < s.val x ∧ s.val x < big62 := by
  simp only [SI.rng, Bool.and_eq_true, decide_eq_true_eq] at h
  have := SI.bounds h.1.1 x
  omega
/-- a sum, a difference -/
def SI.add (s t : SI) : Option SI := match t.isC with
  | true => some { s with off := s.off + t.mn }
  | false => match s.isC with | true => some { t with off := t.off + s.mn } | false => none
def SI.sub (s t : SI) : Option SI := match t.isC with
  | true => some { s with off := s.off - t.mn }
  | false => match s.isC with
    | true => some { t with neg := !t.neg, off := s.mn - t.off }
    | false => match s.same t with | true => some (cI (s.off - t.off)) | false => none
theorem SI.isC_val {s : SI} (h : s.isC = true) (x : Nat → Int) : s.val x = s.mn := by
  have h : s.lo = s.hi := of_decide_eq_true h
  have := clampI_ge (lo := s.lo) (hi := s.hi) (x := x s.i) (by omega)
  unfold SI.val SI.mn sgnI
  cases s.neg <;> simp only [] <;> omega
theorem SI.add_val {s t r : SI} (h : s.add t = some r) (x : Nat → Int) : r.val x = s.val x + t.val x := by
  unfold SI.add at h
  split at h
  · rename_i hc; cases h
    rw [SI.isC_val hc]; unfold SI.val; simp only []; omega
  · split at h
    · rename_i hc; cases h
      rw [SI.isC_val hc]; unfold SI.val; simp only []; omega
    · cases h
theorem SI.sub_val {s t r : SI} (h : s.sub t = some r) (x : Nat → Int) : r.val x = s.val x - t.val x := by
  unfold SI.sub at h
  split at h
  · rename_i hc; cases h
    rw [SI.isC_val hc]; unfold SI.val; simp only []; omega
  · split at h
    · rename_i hc; cases h
      rw [SI.isC_val hc]; unfold SI.val sgnI
      cases t.neg <;> simp only [Bool.not_true, Bool.not_false] <;> omega
    · split at h
      · rename_i hs; cases h
        have := SI.same_val hs x
        rw [cI_val]; omega
      · cases h
/-- less; the same -/
def SI.lt (s t : SI) : Option Bool := match decide (s.mx < t.mn) with
  | true => some true
  | false => match decide (t.mx ≤ s.mn) with
    | true => some false
    | false => match s.same t with | true => some (decide (s.off < t.off)) | false => none
def SI.eq (s t : SI) : Option Bool := match decide (s.mx < t.mn) || decide (t.mx < s.mn) with
  | true => some false
  | false => match s.same t with
    | true => some (decide (s.off = t.off))
    | false => match s.isC && t.isC with | true => some (decide (s.mn = t.mn)) | false => none
theorem SI.lt_val {s t : SI} {b : Bool} (hs : s.ok = true) (ht : t.ok = true) (h : s.lt t = some b) (x : Nat → Int) : decide (s.val x < t.val x) = b := by
  have b1 := SI.bounds hs x
  have b2 := SI.bounds ht x
  unfold SI.lt at h
  split at h
  · rename_i hc; cases h; have := of_decide_eq_true hc; exact decide_eq_true (by omega)
  · split at h
    · rename_i hc; cases h; have := of_decide_eq_true hc; exact decide_eq_false (by omega)
    · split at h
      · rename_i hc; cases h
        have := SI.same_val hc x
        rw [decide_eq_decide]; omega
      · cases h
theorem SI.eq_val {s t : SI} {b : Bool} (hs : s.ok = true) (ht : t.ok = true) (h : s.eq t = some b) (x : Nat → Int) : decide (s.val x = t.val x) = b := by
  have b1 := SI.bounds hs x
  have b2 := SI.bounds ht x
  unfold SI.eq at h
  split at h
  · rename_i hc; cases h
    simp only [Bool.or_eq_true, decide_eq_true_eq] at hc
    exact decide_eq_false (by omega)
  · split at h
    · rename_i hc; cases h
      have := SI.same_val hc x
      rw [decide_eq_decide]; omega
    · split at h
      · rename_i hc; cases h
        simp only [Bool.and_eq_true] at hc
        rw [SI.isC_val hc.1, SI.isC_val hc.2]
      · cases h
end Go.Kx

/- Paths and tries: the data of the evaluator that the kernel runs. -/
namespace Go.Kx

/-- A number, in digits 1 to 4 of base 4, the least first. -/
inductive Pth | z | a (p : Pth) | b (p : Pth) | c (p : Pth) | d (p : Pth)
inductive Tr (α : Type) | e | n (v : Option α) (a b c d : Tr α)

section trie
variable {α : Type}
def Tr.gz (t : Tr α) : Option α := Tr.casesOn (motive := fun _ => Option α) t none (fun v _ _ _ _ => v)
def Tr.ga (_ : Pth) (ih : Tr α → Option α) (t : Tr α) : Option α := Tr.casesOn (motive := fun _ => Option α) t none (fun _ x _ _ _ => ih x)
def Tr.gb (_ : Pth) (ih : Tr α → Option α) (t : Tr α) : Option α := Tr.casesOn (motive := fun _ => Option α) t none (fun _ _ x _ _ => ih x)
def Tr.gc (_ : Pth) (ih : Tr α → Option α) (t : Tr α) : Option α := Tr.casesOn (motive := fun _ => Option α) t none (fun _ _ _ x _ => ih x)
def Tr.gd (_ : Pth) (ih : Tr α → Option α) (t : Tr α) : Option α := Tr.casesOn (motive := fun _ => Option α) t none (fun _ _ _ _ x => ih x)
/-- What lies at a path. -/
noncomputable def Tr.get (p : Pth) : Tr α → Option α := Pth.rec (motive := fun _ => Tr α → Option α) Tr.gz Tr.ga Tr.gb Tr.gc Tr.gd p
def Tr.sz (x : Option α) (t : Tr α) : Tr α := Tr.casesOn (motive := fun _ => Tr α) t (.n x .e .e .e .e) (fun _ a b c d => .n x a b c d)
def Tr.sa (_ : Pth) (ih : Option α → Tr α → Tr α) (x : Option α) (t : Tr α) : Tr α := Tr.casesOn (motive := fun _ => Tr α) t (.n none (ih x .e) .e .e .e) (fun v a b c d => .n v (ih x a) b c d)
def Tr.sb (_ : Pth) (ih : Option α → Tr α → Tr α) (x : Option α) (t : Tr α) : Tr α := Tr.casesOn (motive := fun _ => Tr α) t (.n none .e (ih x .e) .e .e) (fun v a b c d => .n v a (ih x b) c d)
def Tr.sc (_ : Pth) (ih : Option α → Tr α → Tr α) (x : Option α) (t : Tr α) : Tr α := Tr.casesOn (motive := fun _ => Tr α) t (.n none .e .e (ih x .e) .e) (fun v a b c d => .n v a b (ih x c) d)
def Tr.sd (_ : Pth) (ih : Option α → Tr α → Tr α) (x : Option α) (t : Tr α) : Tr α := Tr.casesOn (motive := fun _ => Tr α) t (.n none .e .e .e (ih x .e)) (fun v a b c d => .n v a b c (ih x d))
/-- What lies at a path is set, or struck. -/
noncomputable def Tr.set (p : Pth) : Option α → Tr α → Tr α := Pth.rec (motive := fun _ => Option α → Tr α → Tr α) Tr.sz Tr.sa Tr.sb Tr.sc Tr.sd p

theorem Tr.get_e (p : Pth) : Tr.get p (.e : Tr α) = none := by cases p <;> rfl
theorem Tr.get_set_same (p : Pth) (x : Option α) (t : Tr α) : Tr.get p (Tr.set p x t) = x := by
  induction p generalizing t with
  | z => cases t <;> rfl
  | a p ih => cases t <;> exact ih _
  | b p ih => cases t <;> exact ih _
  | c p ih => cases t <;> exact ih _
  | d p ih => cases t <;> exact ih _
theorem Tr.get_set_ne {p q : Pth} (h : q ≠ p) (x : Option α) (t : Tr α) : Tr.get q (Tr.set p x t) = Tr.get q t := by
  induction p generalizing q t with
  | z => cases q <;> first | exact absurd rfl h | (cases t <;> first | rfl | exact Tr.get_e _)
  | a p ih => cases q <;> cases t <;> first | rfl | exact Tr.get_e _ | (have h' := fun e => h (congrArg _ e); first | exact ih h' _ | exact (ih h' _).trans (Tr.get_e _))
  | b p ih => cases q <;> cases t <;> first | rfl | exact Tr.get_e _ | (have h' := fun e => h (congrArg _ e); first | exact ih h' _ | exact (ih h' _).trans (Tr.get_e _))
  | c p ih => cases q <;> cases t <;> first | rfl | exact Tr.get_e _ | (have h' := fun e => h (congrArg _ e); first | exact ih h' _ | exact (ih h' _).trans (Tr.get_e _))
  | d p ih => cases q <;> cases t <;> first | rfl | exact Tr.get_e _ | (have h' := fun e => h (congrArg _ e); first | exact ih h' _ | exact (ih h' _).trans (Tr.get_e _))
end trie

/-- The number of a path. -/
def Pth.num : Pth → Nat
  | .z => 0 | .a p => 4 * p.num + 1 | .b p => 4 * p.num + 2 | .c p => 4 * p.num + 3 | .d p => 4 * p.num + 4
theorem Pth.num_inj : ∀ {p q : Pth}, p.num = q.num → p = q
  | .z, .z, _ => rfl
  | .a p, .a q, h => by rw [Pth.num_inj (p := p) (q := q) (by simp only [Pth.num] at h; omega)]
  | .b p, .b q, h => by rw [Pth.num_inj (p := p) (q := q) (by simp only [Pth.num] at h; omega)]
  | .c p, .c q, h => by rw [Pth.num_inj (p := p) (q := q) (by simp only [Pth.num] at h; omega)]
  | .d p, .d q, h => by rw [Pth.num_inj (p := p) (q := q) (by simp only [Pth.num] at h; omega)]
  | .z, .a _, h | .z, .b _, h | .z, .c _, h | .z, .d _, h | .a _, .z, h | .b _, .z, h | .c _, .z, h | .d _, .z, h => by simp only [Pth.num] at h; omega
  | .a _, .b _, h | .a _, .c _, h | .a _, .d _, h | .b _, .a _, h | .b _, .c _, h | .b _, .d _, h => by simp only [Pth.num] at h; omega
  | .c _, .a _, h | .c _, .b _, h | .c _, .d _, h | .d _, .a _, h | .d _, .b _, h | .d _, .c _, h => by simp only [Pth.num] at h; omega

/-- The path of a number. -/
def pthS (ih : Nat → Pth) (m : Nat) : Pth :=
  Nat.casesOn (motive := fun _ => Pth) (m % 4) (.a (ih (m / 4))) (fun r => Nat.casesOn (motive := fun _ => Pth) r (.b (ih (m / 4))) (fun r => Nat.casesOn (motive := fun _ => Pth) r (.c (ih (m / 4))) (fun _ => .d (ih (m / 4)))))
def pthF (k : Nat) : Nat → Pth := Nat.rec (motive := fun _ => Nat → Pth) (fun _ => .z) (fun _ ih n => Nat.casesOn (motive := fun _ => Pth) n .z (pthS ih)) k
def pth (n : Nat) : Pth := pthF n n
theorem pthF_num : ∀ (k n : Nat), n ≤ k → (pthF k n).num = n
  | 0, n, h => by obtain rfl : n = 0 := by omega
                  rfl
  | k + 1, 0, _ => rfl
  | k + 1, m + 1, h => by
    have ih := pthF_num k (m / 4) (by omega)
    show (pthS (pthF k) m).num = m + 1
    unfold pthS
    have hm : m % 4 = 0 ∨ m % 4 = 1 ∨ m % 4 = 2 ∨ m % 4 = 3 := by omega
    rcases hm with hm | hm | hm | hm <;> rw [hm] <;> simp only [Pth.num, ih] <;> omega
theorem pth_num (n : Nat) : (pth n).num = n := pthF_num n n (Nat.le_refl n)
theorem num_pth (p : Pth) : pth p.num = p := Pth.num_inj (pth_num _)
theorem pth_inj {i j : Nat} (h : pth i = pth j) : i = j := by rw [← pth_num i, h, pth_num]
/-- The next path. -/
noncomputable def Pth.inc (p : Pth) : Pth := Pth.rec (motive := fun _ => Pth) (.a .z) (fun p _ => .b p) (fun p _ => .c p) (fun p _ => .d p) (fun _ ih => .a ih) p
theorem Pth.num_inc (p : Pth) : p.inc.num = p.num + 1 := by
  induction p with
  | z => rfl
  | a p ih => rfl
  | b p ih => rfl
  | c p ih => rfl
  | d p ih => show 4 * p.inc.num + 1 = 4 * p.num + 4 + 1; omega
def Pth.same : Pth → Pth → Bool
  | .z, .z => true | .a p, .a q => same p q | .b p, .b q => same p q | .c p, .c q => same p q | .d p, .d q => same p q | _, _ => false
theorem Pth.same_iff : ∀ {p q : Pth}, Pth.same p q = true ↔ p = q
  | .z, .z => by simp [Pth.same]
  | .a p, .a q | .b p, .b q | .c p, .c q | .d p, .d q => by simp [Pth.same, Pth.same_iff (p := p) (q := q)]
  | .z, .a _ | .z, .b _ | .z, .c _ | .z, .d _ | .a _, .z | .b _, .z | .c _, .z | .d _, .z => by simp [Pth.same]
  | .a _, .b _ | .a _, .c _ | .a _, .d _ | .b _, .a _ | .b _, .c _ | .b _, .d _ => by simp [Pth.same]
  | .c _, .a _ | .c _, .b _ | .c _, .d _ | .d _, .a _ | .d _, .b _ | .d _, .c _ => by simp [Pth.same]

instance : DecidableEq Pth := fun p q => decidable_of_iff (Pth.same p q = true) Pth.same_iff

/-- A list, laid from a path on. -/
noncomputable def ofListR {α : Type} (l : List α) : Pth → Tr α → Tr α :=
  List.rec (motive := fun _ => Pth → Tr α → Tr α) (fun _ t => t) (fun x _ ih p t => ih (Pth.inc p) (Tr.set p (some x) t)) l
noncomputable def ofList {α : Type} (l : List α) : Tr α := ofListR l .z .e
theorem get_ofListR {α : Type} (l : List α) : ∀ (p : Pth) (t : Tr α) (q : Pth),
    Tr.get q (ofListR l p t) = if p.num ≤ q.num ∧ q.num < p.num + l.length then l[q.num - p.num]? else Tr.get q t := by
  induction l with
  | nil => intro p t q; rw [if_neg (by simp)]; rfl
  | cons x l ih =>
    intro p t q
    show Tr.get q (ofListR l (Pth.inc p) (Tr.set p (some x) t)) = _
    rw [ih, Pth.num_inc]
    by_cases hq : q = p
    · subst hq
      rw [if_neg (by omega), Tr.get_set_same, if_pos (by simp)]
      simp
    · have hn : q.num ≠ p.num := fun e => hq (Pth.num_inj e)
      rw [Tr.get_set_ne hq]
      by_cases h1 : p.num + 1 ≤ q.num ∧ q.num < p.num + 1 + l.length
      · rw [if_pos h1, if_pos (by simp; omega)]
        obtain ⟨k, hk⟩ : ∃ k, q.num - p.num = k + 1 := ⟨q.num - p.num - 1, by omega⟩
        rw [hk, List.getElem?_cons_succ, show q.num - (p.num + 1) = k by omega]
      · rw [if_neg h1, if_neg (by simp; omega)]
theorem get_ofList {α : Type} (l : List α) (i : Nat) : Tr.get (pth i) (ofList l) = l[i]? := by
  unfold ofList
  rw [get_ofListR, pth_num]
  have h0 : Pth.z.num = 0 := rfl
  rw [h0]
  by_cases h : i < l.length
  · rw [if_pos (by omega)]; simp
  · rw [if_neg (by omega), Tr.get_e, List.getElem?_eq_none (by omega)]

end Go.Kx

/- Values, operations and code of the evaluator that the kernel runs. -/
namespace Go.Kx

/-- Values: whole numbers by their images below 2^bits; texts by their length and their bytes as one number; memory by paths. sl: block, offset (cells), length, least capacity, whether that is the capacity, an element's cells. -/
inductive AV
  | bool (b : Bool)
  | int (k : IntKind) (z : Nat)
  | sym (s : SI)
  | flt (k : FloatKind) (bits : Nat)
  | str (len z : Nat)
  | ptr (b : Pth) (o : Nat)
  | nilp
  | sl (b : Pth) (o len lb : Nat) (ex : Bool) (es : Nat)
  | nils
  | mp (b : Pth)
  | nilm
  | fn (f : Nat) (first cap : List AV)
  | yld (b : Pth)
  | nilf
  | ifc (t : Nat) (v : AV)
  | nili
  | agg (cs : List AV)
  | tup (vs : List AV)
  | sls (b : Pth) (s : SI) (es : Nat)
abbrev Fr := Tr AV
def undefA : AV := .tup []
/-- Operands. -/
inductive X | t (p : Pth) | c (v : AV) | bad
inductive BK | add | sub | mul | and | or | xor | andNot | shl | shr | quo | rem | eql | neq | lss | leq | gtr | geq
inductive FOp
  | mov (x : X)
  | pick (c a b : X)
  | box (cs : List AV)
  | boxv (x : X)
  | build (zero : List AV) (parts : List (Nat × Nat × X))
  | bsl (es len : Nat) (zero : List AV) (parts : List (Nat × Nat × X))
  | ld1 (a : X)
  | ldn (n : Nat) (a : X)
  | st1 (a x : X)
  | stn (n : Nat) (a x : X)
  | nilc (x : X)
  | ibin (op : BK) (x y : X)
  | sbin (op : BK) (x y : X)
  | bbin (neg : Bool) (x y : X)
  | eq (neg : Bool) (kd : Nat) (x y : X)
  | neg (x : X)
  | not (x : X)
  | conv (k : IntKind) (x : X)
  | toBytes (x : X)
  | mkif (t : Nat) (x : X)
  | mkfn (f : Nat) (first cap : List X)
  | mkmap
  | mksl (es bytes : Nat) (zero : List AV) (l c : X)
  | slS (x : X) (lo hi : Option X)
  | slL (es : Nat) (x : X) (lo hi mx : Option X)
  | slA (n es : Nat) (x : X) (lo hi mx : Option X)
  | fadr (off : Nat) (x : X)
  | fld (off n : Nat) (one : Bool) (x : X)
  | idxL (es : Nat) (x i : X)
  | idxA (n es : Nat) (x i : X)
  | idxS (x i : X)
  | idxV (n es : Nat) (one : Bool) (x i : X)
  | look (kd : Nat) (zero : AV) (x i : X) (ok : Bool)
  | mset (kd : Nat) (m k x : X)
  | ext (x : X) (i : Nat)
  | tass (t : Nat) (zero : AV) (x : X) (ok : Bool)
  | len (kd : Nat) (x : X)
  | cap (x : X)
  | app (es bytes : Nat) (a b : X)
  | appn (es bytes : Nat) (zero : List AV) (a n : X)
  | max (x y : X)
  | min (x y : X)
  | clr (es : Nat) (zero : List AV) (x : X)
  | call (f : Pth) (args : List X)
  | callv (f : X) (args : List X)
  | defr (f : X) (args : List X)
  | pan (x : X)
  | recov
  | lkl (kd : Nat) (zero : AV) (es : List (AV × X)) (i : X) (ok : Bool)
  | bad (why : Nat)
/-- A step: a guard, a destination, an operation. -/
inductive FSt | op (g : Option (Pth × Bool)) (d : Option Pth) (o : FOp)
/-- A part of a drawn region: an operation with an effect, the reads that have to say the same behind it, what hangs on it. -/
inductive FSeg | mk (e : FSt) (chk pre : List FSt) | sw (e f : FSt) (a b : X)
inductive FC
  | skip | reg (l : List FSt) | drw (fd : List Pth) (pre : List FSt) (l : List FSeg) (ds : List Pth) | seq (a b : FC) | cnd (x : X) (a b : FC) | blk (i : Nat) (a : FC) | lop (a : FC) | ext (i : Nat) | ret | rf (f : X) (ps : List Pth) (a b : FC) | bad (why : Nat)
inductive Bk
  | own (cs : Tr AV)
  | mp (es : List (AV × AV))
  | lp (fr : Fr) (ps : List Pth) (a b : FC) (pend : Option (Option Nat))
  | col
  | ro (cs : Tr AV)
inductive H | mk (t : Tr Bk) (nx : Pth)
structure DF where
  f : Nat
  args : List AV
/-- What is deferred: in a round of a range over a function (its block) nothing may be; else calls, and marks of loops that were gone through. -/
inductive Df | no (b : Pth) | l (ds : List (DF ⊕ Pth))
inductive AR | val (v : AV) (h : H) | skip (h : H) | call (f : Pth) (args : List AV) (h : H) | yld (b : Pth) (args : List AV) (h : H) | defr (d : DF) (h : H) | pan (v : AV) (h : H) | bad (why : Nat)
structure PE where
  v : AV
  rc : Bool
abbrev Chain := List PE
inductive CR | ret (v : AV) (h : H) | pn (c : Chain) (h : H) | bad (why : Nat)
inductive R | nrm (fr : Fr) (df : Df) (h : H) | ex (i : Nat) (fr : Fr) (df : Df) (h : H) | rt (fr : Fr) (df : Df) (h : H) | pn (c : Chain) (fr : Fr) (df : Df) (h : H) | bad (why : Nat)

section elim
variable {ρ : Type}
/-- an address -/
noncomputable def onPtr (v : AV) : ρ → (Pth → Nat → ρ) → ρ :=
  AV.rec (motive_1 := fun _ => ρ → (Pth → Nat → ρ) → ρ) (motive_2 := fun _ => PUnit)
    (fun _ d _ => d) (fun _ _ d _ => d) (fun _ d _ => d) (fun _ _ d _ => d) (fun _ _ d _ => d) (fun b o _ k => k b o) (fun d _ => d) (fun _ _ _ _ _ _ d _ => d) (fun d _ => d) (fun _ d _ => d) (fun d _ => d) (fun _ _ _ _ _ d _ => d) (fun _ d _ => d) (fun d _ => d) (fun _ _ _ d _ => d) (fun d _ => d) (fun _ _ d _ => d) (fun _ _ d _ => d) (fun _ _ _ d _ => d)
    ⟨⟩ (fun _ _ _ _ => ⟨⟩) v
/-- a whole number -/
noncomputable def onInt (v : AV) : ρ → (IntKind → Nat → ρ) → ρ :=
  AV.rec (motive_1 := fun _ => ρ → (IntKind → Nat → ρ) → ρ) (motive_2 := fun _ => PUnit)
    (fun _ d _ => d) (fun j z _ k => k j z) (fun _ d _ => d) (fun _ _ d _ => d) (fun _ _ d _ => d) (fun _ _ d _ => d) (fun d _ => d) (fun _ _ _ _ _ _ d _ => d) (fun d _ => d) (fun _ d _ => d) (fun d _ => d) (fun _ _ _ _ _ d _ => d) (fun _ d _ => d) (fun d _ => d) (fun _ _ _ d _ => d) (fun d _ => d) (fun _ _ d _ => d) (fun _ _ d _ => d) (fun _ _ _ d _ => d)
    ⟨⟩ (fun _ _ _ _ => ⟨⟩) v
/-- a truth -/
noncomputable def onBool (v : AV) : ρ → (Bool → ρ) → ρ :=
  AV.rec (motive_1 := fun _ => ρ → (Bool → ρ) → ρ) (motive_2 := fun _ => PUnit)
    (fun z _ k => k z) (fun _ _ d _ => d) (fun _ d _ => d) (fun _ _ d _ => d) (fun _ _ d _ => d) (fun _ _ d _ => d) (fun d _ => d) (fun _ _ _ _ _ _ d _ => d) (fun d _ => d) (fun _ d _ => d) (fun d _ => d) (fun _ _ _ _ _ d _ => d) (fun _ d _ => d) (fun d _ => d) (fun _ _ _ d _ => d) (fun d _ => d) (fun _ _ d _ => d) (fun _ _ d _ => d) (fun _ _ _ d _ => d)
    ⟨⟩ (fun _ _ _ _ => ⟨⟩) v
/-- a text -/
noncomputable def onStr (v : AV) : ρ → (Nat → Nat → ρ) → ρ :=
  AV.rec (motive_1 := fun _ => ρ → (Nat → Nat → ρ) → ρ) (motive_2 := fun _ => PUnit)
    (fun _ d _ => d) (fun _ _ d _ => d) (fun _ d _ => d) (fun _ _ d _ => d) (fun l z _ k => k l z) (fun _ _ d _ => d) (fun d _ => d) (fun _ _ _ _ _ _ d _ => d) (fun d _ => d) (fun _ d _ => d) (fun d _ => d) (fun _ _ _ _ _ d _ => d) (fun _ d _ => d) (fun d _ => d) (fun _ _ _ d _ => d) (fun d _ => d) (fun _ _ d _ => d) (fun _ _ d _ => d) (fun _ _ _ d _ => d)
    ⟨⟩ (fun _ _ _ _ => ⟨⟩) v
/-- a slice: none, nil, one -/
noncomputable def onSl (v : AV) : ρ → ρ → (Pth → Nat → Nat → Nat → Bool → Nat → ρ) → ρ :=
  AV.rec (motive_1 := fun _ => ρ → ρ → (Pth → Nat → Nat → Nat → Bool → Nat → ρ) → ρ) (motive_2 := fun _ => PUnit)
    (fun _ d _ _ => d) (fun _ _ d _ _ => d) (fun _ d _ _ => d) (fun _ _ d _ _ => d) (fun _ _ d _ _ => d) (fun _ _ d _ _ => d) (fun d _ _ => d) (fun b o l c x e _ _ k => k b o l c x e) (fun _ n _ => n) (fun _ d _ _ => d) (fun d _ _ => d) (fun _ _ _ _ _ d _ _ => d) (fun _ d _ _ => d) (fun d _ _ => d) (fun _ _ _ d _ _ => d) (fun d _ _ => d) (fun _ _ d _ _ => d) (fun _ _ d _ _ => d) (fun _ _ _ d _ _ => d)
    ⟨⟩ (fun _ _ _ _ => ⟨⟩) v
/-- the cells of a value -/
noncomputable def cellsOf (v : AV) : List AV :=
  AV.rec (motive_1 := fun _ => AV → List AV) (motive_2 := fun _ => PUnit)
    (fun _ v => [v]) (fun _ _ v => [v]) (fun _ v => [v]) (fun _ _ v => [v]) (fun _ _ v => [v]) (fun _ _ v => [v]) (fun v => [v]) (fun _ _ _ _ _ _ v => [v]) (fun v => [v]) (fun _ v => [v]) (fun v => [v]) (fun _ _ _ _ _ v => [v]) (fun _ v => [v]) (fun v => [v]) (fun _ _ _ v => [v]) (fun v => [v]) (fun cs _ _ => cs) (fun _ _ v => [v]) (fun _ _ _ v => [v])
    ⟨⟩ (fun _ _ _ _ => ⟨⟩) v v
/-- is it one cell's? -/
noncomputable def oneC (v : AV) : Bool :=
  AV.rec (motive_1 := fun _ => Bool) (motive_2 := fun _ => PUnit)
    (fun _ => true) (fun _ _ => true) (fun _ => true) (fun _ _ => true) (fun _ _ => true) (fun _ _ => true) true (fun _ _ _ _ _ _ => true) true (fun _ => true) true (fun _ _ _ _ _ => true) (fun _ => true) true (fun _ _ _ => true) true (fun _ _ => false) (fun _ _ => false) (fun _ _ _ => true)
    ⟨⟩ (fun _ _ _ _ => ⟨⟩) v
noncomputable def optK {α : Type} (o : Option α) : ρ → (α → ρ) → ρ := Option.rec (motive := fun _ => ρ → (α → ρ) → ρ) (fun d _ => d) (fun a _ k => k a) o
noncomputable def ifB (b : Bool) : ρ → ρ → ρ := Bool.rec (motive := fun _ => ρ → ρ → ρ) (fun _ f => f) (fun t _ => t) b
end elim
noncomputable def ev (x : X) : Fr → Option AV := X.rec (motive := fun _ => Fr → Option AV) (fun p fr => Tr.get p fr) (fun v _ => some v) (fun _ => none) x
noncomputable def evs (l : List X) : Fr → Option (List AV) :=
  List.rec (motive := fun _ => Fr → Option (List AV)) (fun _ => some []) (fun x _ ih fr => optK (ev x fr) none (fun v => optK (ih fr) none (fun vs => some (v :: vs)))) l

section elimsimp
variable {ρ : Type}
theorem onPtr_cases (v : AV) (d : ρ) (k : Pth → Nat → ρ) : (∃ b o, v = .ptr b o ∧ onPtr v d k = k b o) ∨ onPtr v d k = d := by
  cases v <;> first | exact .inl ⟨_, _, rfl, rfl⟩ | exact .inr rfl
theorem onInt_cases (v : AV) (d : ρ) (k : IntKind → Nat → ρ) : (∃ j z, v = .int j z ∧ onInt v d k = k j z) ∨ onInt v d k = d := by
  cases v <;> first | exact .inl ⟨_, _, rfl, rfl⟩ | exact .inr rfl
theorem onBool_cases (v : AV) (d : ρ) (k : Bool → ρ) : (∃ z, v = .bool z ∧ onBool v d k = k z) ∨ onBool v d k = d := by
  cases v <;> first | exact .inl ⟨_, rfl, rfl⟩ | exact .inr rfl
theorem onStr_cases (v : AV) (d : ρ) (k : Nat → Nat → ρ) : (∃ l z, v = .str l z ∧ onStr v d k = k l z) ∨ onStr v d k = d := by
  cases v <;> first | exact .inl ⟨_, _, rfl, rfl⟩ | exact .inr rfl
theorem onSl_cases (v : AV) (d n : ρ) (k : Pth → Nat → Nat → Nat → Bool → Nat → ρ) :
    (∃ b o l c x e, v = .sl b o l c x e ∧ onSl v d n k = k b o l c x e) ∨ (v = .nils ∧ onSl v d n k = n) ∨ onSl v d n k = d := by
  cases v <;> first | exact .inl ⟨_, _, _, _, _, _, rfl, rfl⟩ | exact .inr (.inl ⟨rfl, rfl⟩) | exact .inr (.inr rfl)
theorem optK_cases {α : Type} (o : Option α) (d : ρ) (k : α → ρ) : (∃ a, o = some a ∧ optK o d k = k a) ∨ (o = none ∧ optK o d k = d) := by
  cases o <;> first | exact .inr ⟨rfl, rfl⟩ | exact .inl ⟨_, rfl, rfl⟩
theorem ifB_cases (b : Bool) (t f : ρ) : (b = true ∧ ifB b t f = t) ∨ (b = false ∧ ifB b t f = f) := by
  cases b <;> first | exact .inl ⟨rfl, rfl⟩ | exact .inr ⟨rfl, rfl⟩
end elimsimp
end Go.Kx

/- What each operation does. -/
namespace Go.Kx
noncomputable section

/-! ### Memory -/
noncomputable def hget (b : Pth) (h : H) : Option Bk := H.rec (fun t _ => Tr.get b t) h
noncomputable def hset (b : Pth) (k : Option Bk) (h : H) : H := H.rec (fun t n => .mk (Tr.set b k t) n) h
noncomputable def hnx (h : H) : Pth := H.rec (fun _ n => n) h
noncomputable def hput (k : Bk) (h : H) : H := H.rec (fun t n => .mk (Tr.set n (some k) t) (Pth.inc n)) h
section
variable {ρ : Type}
noncomputable def onCells (k : Option Bk) : ρ → (Tr AV → ρ) → ρ :=
  Option.rec (motive := fun _ => ρ → (Tr AV → ρ) → ρ) (fun d _ => d) (fun k => Bk.rec (motive := fun _ => ρ → (Tr AV → ρ) → ρ) (fun cs _ f => f cs) (fun _ d _ => d) (fun _ _ _ _ _ d _ => d) (fun d _ => d) (fun _ d _ => d) k) k
/-- cells that are read: of a block that may be read alone, too -/
noncomputable def onCellsR (k : Option Bk) : ρ → (Tr AV → ρ) → ρ :=
  Option.rec (motive := fun _ => ρ → (Tr AV → ρ) → ρ) (fun d _ => d) (fun k => Bk.rec (motive := fun _ => ρ → (Tr AV → ρ) → ρ) (fun cs _ f => f cs) (fun _ d _ => d) (fun _ _ _ _ _ d _ => d) (fun d _ => d) (fun cs _ f => f cs) k) k
theorem onCellsR_cases (k : Option Bk) (d : ρ) (f : Tr AV → ρ) : (∃ cs, (k = some (.own cs) ∨ k = some (.ro cs)) ∧ onCellsR k d f = f cs) ∨ onCellsR k d f = d := by
  cases k with
  | none => exact .inr rfl
  | some k => cases k <;> first | exact .inl ⟨_, .inl rfl, rfl⟩ | exact .inl ⟨_, .inr rfl, rfl⟩ | exact .inr rfl
noncomputable def onMap (k : Option Bk) : ρ → (List (AV × AV) → ρ) → ρ :=
  Option.rec (motive := fun _ => ρ → (List (AV × AV) → ρ) → ρ) (fun d _ => d) (fun k => Bk.rec (motive := fun _ => ρ → (List (AV × AV) → ρ) → ρ) (fun _ d _ => d) (fun es _ f => f es) (fun _ _ _ _ _ d _ => d) (fun d _ => d) (fun _ d _ => d) k) k
theorem onCells_cases (k : Option Bk) (d : ρ) (f : Tr AV → ρ) : (∃ cs, k = some (.own cs) ∧ onCells k d f = f cs) ∨ onCells k d f = d := by
  cases k with
  | none => exact .inr rfl
  | some k => cases k <;> first | exact .inl ⟨_, rfl, rfl⟩ | exact .inr rfl
theorem onMap_cases (k : Option Bk) (d : ρ) (f : List (AV × AV) → ρ) : (∃ cs, k = some (.mp cs) ∧ onMap k d f = f cs) ∨ onMap k d f = d := by
  cases k with
  | none => exact .inr rfl
  | some k => cases k <;> first | exact .inl ⟨_, rfl, rfl⟩ | exact .inr rfl
end
/-- Cells are laid into a row, from an offset on. -/
noncomputable def putL (l : List AV) : Nat → Tr AV → Tr AV := List.rec (motive := fun _ => Nat → Tr AV → Tr AV) (fun _ t => t) (fun v _ ih i t => ih (i + 1) (Tr.set (pth i) (some v) t)) l
/-- n cells, from an offset on. -/
noncomputable def takeL (n : Nat) : Nat → Tr AV → Option (List AV) := Nat.rec (motive := fun _ => Nat → Tr AV → Option (List AV)) (fun _ _ => some []) (fun _ ih i t => optK (Tr.get (pth i) t) none (fun v => optK (ih (i + 1) t) none (fun l => some (v :: l)))) n
/-- A list written over, from a place on. -/
noncomputable def owL (l : List AV) : Nat → List AV → List AV :=
  List.rec (motive := fun _ => Nat → List AV → List AV) (fun _ _ => []) (fun x _ ih o vs => Nat.casesOn (motive := fun _ => List AV) o (List.casesOn (motive := fun _ => List AV) vs (x :: ih 0 []) (fun v vs => v :: ih 0 vs)) (fun o => x :: ih o vs)) l
noncomputable def lenL (l : List AV) : Nat := List.rec (motive := fun _ => Nat) 0 (fun _ _ ih => Nat.succ ih) l
/-- no tuple, which no cells may hold -/
def okCells (v : AV) : Bool := match v with | .tup _ => false | _ => true
def fillL : List (Nat × Nat × AV) → List AV → Option (List AV)
  | [], l => some l
  | (o, n, v) :: r, l => ifB (Nat.beq (lenL (cellsOf v)) n && Nat.ble (o + n) (lenL l) && okCells v) (fillL r (owL l o (cellsOf v))) none
def evParts : List (Nat × Nat × X) → Fr → Option (List (Nat × Nat × AV))
  | [], _ => some []
  | (o, n, x) :: l, fr => optK (ev x fr) none fun v => optK (evParts l fr) none fun r => some ((o, n, v) :: r)
def repL (l : List AV) : Nat → List AV
  | 0 => []
  | n + 1 => l ++ repL l n

/-! ### Numbers -/
def M (k : IntKind) : Nat := IntKind.casesOn (motive := fun _ => Nat) k 256 65536 4294967296 18446744073709551616 256 65536 4294967296 18446744073709551616
def Hf (k : IntKind) : Nat := IntKind.casesOn (motive := fun _ => Nat) k 128 32768 2147483648 9223372036854775808 0 0 0 0
def kno (k : IntKind) : Nat := IntKind.casesOn (motive := fun _ => Nat) k 0 1 2 3 4 5 6 7
/-- below it an image is the number itself -/
def lim (k : IntKind) : Nat := IntKind.casesOn (motive := fun _ => Nat) k 128 32768 2147483648 9223372036854775808 256 65536 4294967296 18446744073709551616
def sgn (k : IntKind) (z : Nat) : Nat := Nat.mod (Nat.add z (Hf k)) (M k)
def toI (k : IntKind) (z : Nat) : Int := if z < lim k then (z : Int) else (z : Int) - (M k : Int)
def imgK (k : IntKind) (n : Int) : Nat := (n % (M k : Int)).toNat
def ibAdd (k : IntKind) (a b : Nat) (h : H) : AR := .val (.int k (Nat.mod (Nat.add a b) (M k))) h
def ibSub (k : IntKind) (a b : Nat) (h : H) : AR := .val (.int k (Nat.mod (Nat.add a (Nat.sub (M k) b)) (M k))) h
def ibMul (k : IntKind) (a b : Nat) (h : H) : AR := .val (.int k (Nat.mod (Nat.mul a b) (M k))) h
def ibAnd (k : IntKind) (a b : Nat) (h : H) : AR := .val (.int k (Nat.land a b)) h
def ibOr (k : IntKind) (a b : Nat) (h : H) : AR := .val (.int k (Nat.lor a b)) h
def ibXor (k : IntKind) (a b : Nat) (h : H) : AR := .val (.int k (Nat.xor a b)) h
def ibNo (k : IntKind) (a b : Nat) (h : H) : AR := .bad 1
def ibQuo (k : IntKind) (a b : Nat) (h : H) : AR := ifB (Nat.beq b 0) (.bad 2) (.val (.int k (imgK k ((toI k a).tdiv (toI k b)))) h)
def ibRem (k : IntKind) (a b : Nat) (h : H) : AR := ifB (Nat.beq b 0) (.bad 3) (ifB (decide (toI k (imgK k ((toI k a).tmod (toI k b))) = (toI k a).tmod (toI k b))) (.val (.int k (imgK k ((toI k a).tmod (toI k b)))) h) (.bad 3))
def ibEql (k : IntKind) (a b : Nat) (h : H) : AR := .val (.bool (Nat.beq a b)) h
def ibNeq (k : IntKind) (a b : Nat) (h : H) : AR := .val (.bool (Bool.not (Nat.beq a b))) h
def ibLss (k : IntKind) (a b : Nat) (h : H) : AR := .val (.bool (Nat.blt (sgn k a) (sgn k b))) h
def ibLeq (k : IntKind) (a b : Nat) (h : H) : AR := .val (.bool (Nat.ble (sgn k a) (sgn k b))) h
def ibGtr (k : IntKind) (a b : Nat) (h : H) : AR := .val (.bool (Nat.blt (sgn k b) (sgn k a))) h
def ibGeq (k : IntKind) (a b : Nat) (h : H) : AR := .val (.bool (Nat.ble (sgn k b) (sgn k a))) h
def ibin (op : BK) : IntKind → Nat → Nat → H → AR := BK.casesOn (motive := fun _ => IntKind → Nat → Nat → H → AR) op
  ibAdd ibSub ibMul ibAnd ibOr ibXor ibNo ibNo ibNo ibQuo ibRem ibEql ibNeq ibLss ibLeq ibGtr ibGeq
/-- shifts: of numbers not below 0, by less than 64 -/
def ishl (k : IntKind) (a b : Nat) (h : H) : AR := ifB (Nat.blt b 4096) (.val (.int k (Nat.mod (Nat.mul a (Nat.pow 2 b)) (M k))) h) (.bad 4)
def ishr (k : IntKind) (a b : Nat) (h : H) : AR := ifB (Nat.blt a (lim k) && Nat.blt b 4096) (.val (.int k (Nat.div a (Nat.pow 2 b))) h) (.bad 5)
def isSh (op : BK) : Nat := BK.casesOn (motive := fun _ => Nat) op 0 0 0 0 0 0 0 1 2 0 0 0 0 0 0 0 0
/-- a number that is none below 0, as an index -/
def big : Nat := 4611686018427387904

/-! ### Texts -/
def byteAt (z i : Nat) : Nat := Nat.mod (Nat.div z (Nat.pow 256 i)) 256
def cutS (z a n : Nat) : Nat := Nat.mod (Nat.div z (Nat.pow 256 a)) (Nat.pow 256 n)
def bytesL (z : Nat) : Nat → Nat → List AV
  | _, 0 => []
  | i, n + 1 => .int .u8 (byteAt z i) :: bytesL z (i + 1) n
/-- is a text ahead of another one? -/
def sLess : Nat → Nat → Nat → Nat → Bool
  | _, _, 0, _ => false
  | 0, _, _ + 1, _ => true
  | la + 1, a, lb + 1, b => ifB (Nat.blt (Nat.mod a 256) (Nat.mod b 256)) true (ifB (Nat.beq (Nat.mod a 256) (Nat.mod b 256)) (sLess la (Nat.div a 256) lb (Nat.div b 256)) false)

/-! ### Handlers -/
def ev1 (x : X) (fr : Fr) (k : AV → AR) : AR := optK (ev x fr) (.bad 10) k
def ev2 (x y : X) (fr : Fr) (k : AV → AV → AR) : AR := optK (ev x fr) (.bad 11) fun a => optK (ev y fr) (.bad 12) fun b => k a b
/-- an index: none given: the default -/
def evIx (x : Option X) (dflt : Nat) (fr : Fr) : Option Nat := match x with
  | none => some dflt
  | some x => optK (ev x fr) none fun v => onInt v none fun j z => ifB (Nat.blt z (lim j)) (some z) none
def hMov (x : X) (fr : Fr) (h : H) : AR := optK (ev x fr) (.bad 13) (fun v => .val v h)
def hPick (c a b : X) (fr : Fr) (h : H) : AR := ev1 c fr fun c => onBool c (.bad 14) (fun t => ifB t (hMov a fr h) (hMov b fr h))
def newRowA (cs : List AV) (h : H) : AR := .val (.ptr (hnx h) 0) (hput (.own (putL cs 0 .e)) h)
def hBox (cs : List AV) (fr : Fr) (h : H) : AR := newRowA cs h
def hBoxv (x : X) (fr : Fr) (h : H) : AR := ev1 x fr fun v => ifB (okCells v) (newRowA (cellsOf v) h) (.bad 15)
def hBuild (z : List AV) (ps : List (Nat × Nat × X)) (fr : Fr) (h : H) : AR :=
  optK (evParts ps fr) (.bad 16) (fun ps => optK (fillL ps z) (.bad 17) (fun l => .val (.agg l) h))
def hBsl (es n : Nat) (z : List AV) (ps : List (Nat × Nat × X)) (fr : Fr) (h : H) : AR :=
  optK (evParts ps fr) (.bad 18) (fun ps => optK (fillL ps z) (.bad 19) (fun l => .val (.sl (hnx h) 0 n n true es) (hput (.own (putL l 0 .e)) h)))
def hLd1 (a : X) (fr : Fr) (h : H) : AR := ev1 a fr fun a => onPtr a (.bad 20) (fun b o => onCellsR (hget b h) (.bad 21) (fun t => optK (Tr.get (pth o) t) (.bad 22) (fun v => .val v h)))
def hLdn (n : Nat) (a : X) (fr : Fr) (h : H) : AR := ev1 a fr fun a => onPtr a (.bad 23) (fun b o => onCellsR (hget b h) (.bad 24) (fun t => optK (takeL n o t) (.bad 25) (fun v => .val (.agg v) h)))
def hSt1 (a x : X) (fr : Fr) (h : H) : AR := ev2 a x fr fun a v => onPtr a (.bad 26) (fun b o => onCells (hget b h) (.bad 27) (fun t => optK (Tr.get (pth o) t) (.bad 271) fun _ => ifB (oneC v) (.skip (hset b (some (.own (Tr.set (pth o) (some v) t))) h)) (.bad 28)))
def hStn (n : Nat) (a x : X) (fr : Fr) (h : H) : AR := ev2 a x fr fun a v => onPtr a (.bad 29) (fun b o => onCells (hget b h) (.bad 30) (fun t => optK (Tr.get (pth (Nat.sub (Nat.add o n) 1)) t) (.bad 301) fun _ => ifB (okCells v && Nat.beq (lenL (cellsOf v)) n && Nat.blt 0 n) (.skip (hset b (some (.own (putL (cellsOf v) o t))) h)) (.bad 31)))
def isNil (v : AV) : Bool := match v with | .nilp => true | .nili => true | .nilf => true | .fn .. => true | .sym _ => true | _ => false
def hNilc (x : X) (fr : Fr) (h : H) : AR := ev1 x fr fun v => ifB (isNil v) (.bad 32) (.val v h)
/-- numbers of which intervals are known -/
def toS (v : AV) : Option SI := match v with | .sym s => some s | .int .i64 z => some (cI (toI .i64 z)) | _ => none
def symV (s : SI) (h : H) : AR := ifB s.rng (.val (.sym s) h) (.bad 33)
def symO (o : Option SI) (h : H) : AR := optK o (.bad 33) fun r => symV r h
def symC (ng : Bool) (s t : SI) (o : Option Bool) (h : H) : AR := ifB (s.ok && t.ok) (optK o (.bad 33) fun b => .val (.bool (b != ng)) h) (.bad 33)
def symOp (op : BK) (s t : SI) (h : H) : AR := match op with
  | .add => symO (s.add t) h
  | .sub => symO (s.sub t) h
  | .eql => symC false s t (s.eq t) h
  | .neq => symC true s t (s.eq t) h
  | .lss => symC false s t (s.lt t) h
  | .gtr => symC false t s (t.lt s) h
  | .leq => symC true t s (t.lt s) h
  | .geq => symC true s t (s.lt t) h
  | _ => .bad 33
def symB (op : BK) (a b : AV) (h : H) : AR := match toS a, toS b with
  | some s, some t => symOp op s t h
  | _, _ => .bad 33
def hIbin (op : BK) (x y : X) (fr : Fr) (h : H) : AR := ev2 x y fr fun a b => onInt a (symB op a b h) (fun j za => onInt b (symB op a b h) (fun k zb => Nat.casesOn (motive := fun _ => AR) (isSh op) (ifB (Nat.beq (kno j) (kno k)) (ibin op j za zb h) (.bad 35)) (fun s => ifB (Nat.blt zb (lim k)) (Nat.casesOn (motive := fun _ => AR) s (ishl j za zb h) (fun _ => ishr j za zb h)) (.bad 36))))
def sAdd (l a m b : Nat) (h : H) : AR := ifB (Nat.blt (Nat.add l m) big) (.val (.str (Nat.add l m) (Nat.add a (Nat.mul b (Nat.pow 256 l)))) h) (.bad 37)
def sEql (l a m b : Nat) (h : H) : AR := .val (.bool (Nat.beq l m && Nat.beq a b)) h
def sNeq (l a m b : Nat) (h : H) : AR := .val (.bool (Bool.not (Nat.beq l m && Nat.beq a b))) h
def sLss (l a m b : Nat) (h : H) : AR := .val (.bool (sLess l a m b)) h
def sGtr (l a m b : Nat) (h : H) : AR := .val (.bool (sLess m b l a)) h
def sLeq (l a m b : Nat) (h : H) : AR := .val (.bool (Bool.not (sLess m b l a))) h
def sGeq (l a m b : Nat) (h : H) : AR := .val (.bool (Bool.not (sLess l a m b))) h
def sNo (l a m b : Nat) (h : H) : AR := .bad 38
def sbin (op : BK) : Nat → Nat → Nat → Nat → H → AR := BK.casesOn (motive := fun _ => Nat → Nat → Nat → Nat → H → AR) op
  sAdd sNo sNo sNo sNo sNo sNo sNo sNo sNo sNo sEql sNeq sLss sLeq sGtr sGeq
def hSbin (op : BK) (x y : X) (fr : Fr) (h : H) : AR := ev2 x y fr fun a b => onStr a (.bad 39) (fun l a => onStr b (.bad 40) (fun m b => sbin op l a m b h))
def hBbin (ng : Bool) (x y : X) (fr : Fr) (h : H) : AR := ev2 x y fr fun a b => onBool a (.bad 41) (fun a => onBool b (.bad 42) (fun b => .val (.bool (Bool.xor ng (a == b))) h))
/-- == where one side is nil, or both are addresses in one block: 0 addresses, 1 interface values (one side the literal nil), 2 slices, 3 maps, 4 functions -/
def eqN (kd : Nat) (a b : AV) : Option Bool := match kd, a, b with
  | 0, .nilp, .nilp => some true | 0, .nilp, .ptr _ _ => some false | 0, .ptr _ _, .nilp => some false
  | 0, .ptr a o, .ptr b q => if Pth.same a b then some (Nat.beq o q) else none
  | 1, .nili, .nili => some true | 1, .nili, .ifc _ _ => some false | 1, .ifc _ _, .nili => some false
  | 2, .nils, .nils => some true | 2, .nils, .sl .. => some false | 2, .sl .., .nils => some false
  | 3, .nilm, .nilm => some true | 3, .nilm, .mp _ => some false | 3, .mp _, .nilm => some false
  | 4, .nilf, .nilf => some true | 4, .nilf, .fn .. => some false | 4, .fn .., .nilf => some false
  | _, _, _ => none
def hEq (ng : Bool) (kd : Nat) (x y : X) (fr : Fr) (h : H) : AR := ev2 x y fr fun a b => optK (eqN kd a b) (.bad 43) (fun r => .val (.bool (Bool.xor ng r)) h)
def hNeg (x : X) (fr : Fr) (h : H) : AR := ev1 x fr fun a => onInt a (.bad 44) (fun k a => .val (.int k (Nat.mod (Nat.sub (M k) a) (M k))) h)
def hNot (x : X) (fr : Fr) (h : H) : AR := ev1 x fr fun a => onBool a (.bad 45) (fun a => .val (.bool (Bool.not a)) h)
def convS (k : IntKind) (v : AV) (h : H) : AR := match k, v with | .i64, .sym s => symV s h | _, _ => .bad 46
def hConv (k : IntKind) (x : X) (fr : Fr) (h : H) : AR := ev1 x fr fun v => onInt v (convS k v h) (fun j z => ifB (Nat.blt z (lim j)) (.val (.int k (Nat.mod z (M k))) h) (.val (.int k (imgK k (toI j z))) h))
def hToB (x : X) (fr : Fr) (h : H) : AR := ev1 x fr fun v => onStr v (.bad 47) (fun l z => ifB (Nat.blt l big) (.val (.sl (hnx h) 0 l l false 1) (hput (.own (putL (bytesL z 0 l) 0 .e)) h)) (.bad 48))
def hMkif (t : Nat) (x : X) (fr : Fr) (h : H) : AR := ev1 x fr fun v => .val (.ifc t v) h
def hMkfn (f : Nat) (a c : List X) (fr : Fr) (h : H) : AR := optK (evs a fr) (.bad 49) fun a => optK (evs c fr) (.bad 50) fun c => .val (.fn f a c) h
def hMkmap (fr : Fr) (h : H) : AR := .val (.mp (hnx h)) (hput (.mp []) h)
def hMksl (es by' : Nat) (z : List AV) (l c : X) (fr : Fr) (h : H) : AR := optK (evIx (some l) 0 fr) (.bad 51) fun l => optK (evIx (some c) 0 fr) (.bad 52) fun c =>
  ifB (Nat.ble l c && Nat.ble c 1000000 && Nat.ble by' 1000000 && Nat.beq (lenL z) es) (.val (.sl (hnx h) 0 l c true es) (hput (.own (putL (repL z c) 0 .e)) h)) (.bad 53)
def hSlS (x : X) (lo hi : Option X) (fr : Fr) (h : H) : AR := ev1 x fr fun v => onStr v (.bad 54) fun l z => optK (evIx lo 0 fr) (.bad 55) fun a => optK (evIx hi l fr) (.bad 56) fun b =>
  ifB (Nat.ble a b && Nat.ble b l) (.val (.str (Nat.sub b a) (cutS z a (Nat.sub b a))) h) (.bad 57)
def isNoX (x : Option X) : Bool := match x with | none => true | _ => false
def slLN (m a e b' o lb : Nat) (ex : Bool) (es : Nat) (b : Pth) (h : H) : AR := .bad 0
def isSls (a : AV) : Bool := match a with | .sls _ _ _ => true | _ => false
/-- the beginning of a slice of which the length is not known -/
def slLS (es : Nat) (v : AV) (a : Nat) (hi mx : Option X) (fr : Fr) (h : H) : AR := match v with
  | .sls b s es' => optK (evIx hi 0 fr) (.bad 59) fun e => ifB (!isNoX hi && isNoX mx && Nat.beq a 0 && s.ok && decide ((e : Int) ≤ s.mn) && Nat.beq es es') (.val (.sl b 0 e e false es) h) (.bad 59)
  | _ => .bad 59
def hSlL (es : Nat) (x : X) (lo hi mx : Option X) (fr : Fr) (h : H) : AR := ev1 x fr fun v => optK (evIx lo 0 fr) (.bad 58) fun a =>
  ifB (isSls v) (slLS es v a hi mx fr h) <| onSl v (.bad 59) (optK (evIx hi 0 fr) (.bad 60) fun e => optK (evIx mx 0 fr) (.bad 61) fun m => ifB (Nat.beq a 0 && Nat.beq e 0 && Nat.beq m 0) (.val .nils h) (.bad 62)) fun b o len lb ex es' =>
  optK (evIx hi len fr) (.bad 63) fun e => optK (evIx mx lb fr) (.bad 64) fun m =>
  ifB (Nat.ble a e && Nat.ble e m && Nat.ble m lb && Nat.beq es es') (.val (.sl b (Nat.add o (Nat.mul a es)) (Nat.sub e a) (Nat.sub m a) (Bool.or (Bool.not (isNoX mx)) ex) es) h) (.bad 65)
def hSlA (n es : Nat) (x : X) (lo hi mx : Option X) (fr : Fr) (h : H) : AR := ev1 x fr fun v => optK (evIx lo 0 fr) (.bad 66) fun a => optK (evIx hi n fr) (.bad 67) fun e => optK (evIx mx n fr) (.bad 68) fun m =>
  onPtr v (.bad 69) fun b o => onCellsR (hget b h) (.bad 70) fun t => optK (Tr.get (pth (Nat.sub (Nat.add o (Nat.mul n es)) 1)) t) (.bad 71) fun _ =>
  ifB (Nat.ble a e && Nat.ble e m && Nat.ble m n && Nat.blt 0 (Nat.mul n es)) (.val (.sl b (Nat.add o (Nat.mul a es)) (Nat.sub e a) (Nat.sub m a) true es) h) (.bad 72)
def hFadr (off : Nat) (x : X) (fr : Fr) (h : H) : AR := ev1 x fr fun v => onPtr v (.bad 73) fun b o => .val (.ptr b (Nat.add o off)) h
noncomputable def dropL (n : Nat) : List AV → List AV := Nat.rec (motive := fun _ => List AV → List AV) (fun l => l) (fun _ ih l => List.casesOn (motive := fun _ => List AV) l [] (fun _ l => ih l)) n
noncomputable def frontL (n : Nat) : List AV → List AV := Nat.rec (motive := fun _ => List AV → List AV) (fun _ => []) (fun _ ih l => List.casesOn (motive := fun _ => List AV) l [] (fun x l => x :: ih l)) n
def partL (off n : Nat) (one : Bool) (l : List AV) : Option AV := ifB one (List.casesOn (motive := fun _ => Option AV) (dropL off l) none (fun v _ => some v)) (some (.agg (frontL n (dropL off l))))
def hFld (off n : Nat) (one : Bool) (x : X) (fr : Fr) (h : H) : AR := ev1 x fr fun v => match v with | .agg l => optK (partL off n one l) (.bad 74) (fun v => .val v h) | _ => .bad 75
def hIdxL (es : Nat) (x i : X) (fr : Fr) (h : H) : AR := ev2 x i fr fun v i => onInt i (.bad 76) fun j i => onSl v (.bad 77) (.bad 78) fun b o len _ _ es' => ifB (Nat.blt i len && Nat.blt i (lim j) && Nat.beq es es') (.val (.ptr b (Nat.add o (Nat.mul i es))) h) (.bad 79)
def hIdxA (n es : Nat) (x i : X) (fr : Fr) (h : H) : AR := ev2 x i fr fun v i => onInt i (.bad 80) fun j i => onPtr v (.bad 81) fun b o => ifB (Nat.blt i n && Nat.blt i (lim j)) (.val (.ptr b (Nat.add o (Nat.mul i es))) h) (.bad 82)
def hIdxS (x i : X) (fr : Fr) (h : H) : AR := ev2 x i fr fun v i => onInt i (.bad 83) fun j i => onStr v (.bad 84) fun l z => ifB (Nat.blt i l && Nat.blt i (lim j)) (.val (.int .u8 (byteAt z i)) h) (.bad 85)
def hIdxV (n es : Nat) (one : Bool) (x i : X) (fr : Fr) (h : H) : AR := ev2 x i fr fun v i => onInt i (.bad 86) fun j i => match v with | .agg l => ifB (Nat.blt i n && Nat.blt i (lim j)) (optK (partL (Nat.mul i es) es one l) (.bad 87) (fun v => .val v h)) (.bad 88) | _ => .bad 89
/-- Keys: 0 whole numbers, 1 texts, 2 truths. -/
def keyEq (kd : Nat) (a b : AV) : Option Bool := match kd, a, b with
  | 0, .int j x, .int k y => if Nat.beq (kno j) (kno k) then some (Nat.beq x y) else none
  | 1, .str l x, .str m y => some (Nat.beq l m && Nat.beq x y)
  | 2, .bool x, .bool y => some (x == y)
  | _, _, _ => none
def keyOk (kd : Nat) (a : AV) : Bool := match kd, a with | 0, .int .. => true | 1, .str .. => true | 2, .bool _ => true | _, _ => false
def lookL (kd : Nat) (k : AV) : List (AV × AV) → Option (Option AV)
  | [] => some none
  | (a, v) :: l => match keyEq kd k a with | some true => some (some v) | some false => lookL kd k l | none => none
def setML (kd : Nat) (k v : AV) : List (AV × AV) → Option (List (AV × AV))
  | [] => some [(k, v)]
  | (a, w) :: l => match keyEq kd k a with | some true => some ((k, v) :: l) | some false => optK (setML kd k v l) none (fun l => some ((a, w) :: l)) | none => none
def found (z : AV) (ok : Bool) (h : H) (r : Option AV) : AR := match r with
  | some v => .val (ifB ok (.tup [v, .bool true]) v) h
  | none => .val (ifB ok (.tup [z, .bool false]) z) h
def hLook (kd : Nat) (z : AV) (x i : X) (ok : Bool) (fr : Fr) (h : H) : AR := ev2 x i fr fun m k => ifB (keyOk kd k) (match m with
  | .nilm => found z ok h none
  | .mp b => onMap (hget b h) (.bad 90) fun es => optK (lookL kd k es) (.bad 91) (found z ok h)
  | _ => .bad 92) (.bad 93)
def hMset (kd : Nat) (m k x : X) (fr : Fr) (h : H) : AR := ev2 m k fr fun m k => ev1 x fr fun v => ifB (keyOk kd k) (match m with
  | .mp b => onMap (hget b h) (.bad 94) fun es => optK (setML kd k v es) (.bad 95) fun es => .skip (hset b (some (.mp es)) h)
  | _ => .bad 96) (.bad 97)
def nthL : List AV → Nat → Option AV
  | [], _ => none
  | v :: _, 0 => some v
  | _ :: l, n + 1 => nthL l n
def hExt (x : X) (i : Nat) (fr : Fr) (h : H) : AR := ev1 x fr fun v => match v with | .tup l => optK (nthL l i) (.bad 98) (fun v => .val v h) | _ => .bad 99
def hTass (t : Nat) (z : AV) (x : X) (ok : Bool) (fr : Fr) (h : H) : AR := ev1 x fr fun v => match v with
  | .nili => ifB ok (found z ok h none) (.bad 100)
  | .ifc u v => ifB (Nat.beq u t) (found z ok h (some v)) (ifB ok (found z ok h none) (.bad 101))
  | _ => .bad 102
def lenV (n : Nat) (h : H) : AR := ifB (Nat.blt n big) (.val (.int .i64 n) h) (.bad 103)
/-- 0 a text, 1 a slice, 2 a map -/
def lenOf (kd : Nat) (v : AV) (h : H) : AR := match kd, v with
  | 0, .str l _ => lenV l h
  | 1, .sl _ _ l _ _ _ => lenV l h
  | 1, .nils => lenV 0 h
  | 1, .sls _ s _ => symV s h
  | 2, .nilm => lenV 0 h
  | 2, .mp b => onMap (hget b h) (.bad 104) fun es => lenV es.length h
  | _, _ => .bad 105
def hLen (kd : Nat) (x : X) (fr : Fr) (h : H) : AR := ev1 x fr fun v => lenOf kd v h
def hCap (x : X) (fr : Fr) (h : H) : AR := ev1 x fr fun v => match v with | .sl _ _ _ c ex _ => ifB ex (lenV c h) (.bad 106) | .nils => lenV 0 h | _ => .bad 107
/-- n elements, of these cells, behind a slice -/
def appC (es by' : Nat) (a : AV) (n : Nat) (cs : List AV) (h : H) : AR :=
  onSl a (.bad 108) (ifB (Nat.beq n 0) (.val .nils h) (ifB (Nat.ble n 1000000 && Nat.ble by' 1000000 && Nat.blt 0 es) (.val (.sl (hnx h) 0 n n false es) (hput (.own (putL cs 0 .e)) h)) (.bad 109))) fun b o len lb ex es' =>
  onCells (hget b h) (.bad 110) fun t =>
  ifB (Nat.beq es es' && Nat.blt 0 es) (ifB (Nat.ble (Nat.add len n) lb) (.val (.sl b o (Nat.add len n) lb ex es) (hset b (some (.own (putL cs (Nat.add o (Nat.mul len es)) t))) h))
    (ifB (Nat.ble (Nat.add len n) 1000000 && Nat.ble by' 1000000) (optK (takeL (Nat.mul len es) o t) (.bad 111) fun old =>
      .val (.sl (hnx h) 0 (Nat.add len n) (Nat.add len n) false es) (hput (.own (putL cs (Nat.mul len es) (putL old 0 .e))) (ifB ex h (hset b none h)))) (.bad 112))) (.bad 113)
/-- the length of a slice -/
def lenS (a : AV) : Option SI := match a with | .nils => some (cI 0) | .sl _ _ l _ _ _ => some (cI l) | .sls _ s _ => some s | _ => none
/-- elements behind a slice, of which only the number is told -/
def appSb (es : Nat) (a : AV) (t : SI) (h : H) : AR := match a with
  | .nils => .val (.sls (hnx h) t es) (hput (.own .e) h)
  | .sl b _ _ _ _ es' => onCells (hget b h) (.bad 143) fun _ => ifB (Nat.beq es es') (.val (.sls (hnx h) t es) (hput (.own .e) (hset b none h))) (.bad 143)
  | .sls b _ es' => onCells (hget b h) (.bad 143) fun _ => ifB (Nat.beq es es') (.val (.sls (hnx h) t es) (hput (.own .e) (hset b none h))) (.bad 143)
  | _ => .bad 144
def appS (es by' : Nat) (a : AV) (n : SI) (h : H) : AR := match lenS a with
  | none => .bad 141
  | some l => optK (l.add n) (.bad 142) fun t => ifB (t.ok && decide (1 ≤ t.mn) && decide (t.mx ≤ 1000000) && Nat.ble by' 1000000 && Nat.blt 0 es) (appSb es a t h) (.bad 145)
def hApp (es by' : Nat) (a b : X) (fr : Fr) (h : H) : AR := ev2 a b fr fun a b => match b with
  | .nils => appC es by' a 0 [] h
  | .sl b o n _ _ e => ifB (isSls a) (onCells (hget b h) (.bad 146) fun _ => ifB (Nat.beq e es) (appS es by' a (cI n) h) (.bad 146))
    (onCellsR (hget b h) (.bad 114) fun t => ifB (Nat.beq e es) (optK (takeL (Nat.mul n es) o t) (.bad 115) fun cs => appC es by' a n cs h) (.bad 116))
  | .sls b s e => onCells (hget b h) (.bad 147) fun _ => ifB (Nat.beq e es) (appS es by' a s h) (.bad 147)
  | .str l s => ifB (Nat.beq es 1) (appC es by' a l (bytesL s 0 l) h) (.bad 117)
  | _ => .bad 118
def appnS (es by' : Nat) (z : List AV) (a : AV) (n : X) (fr : Fr) (h : H) : AR := match a, ev n fr with
  | .nils, some (.sym s) => ifB (s.ok && decide (1 ≤ s.mn) && decide (s.mx ≤ 1000000) && Nat.ble by' 1000000 && Nat.blt 0 es && Nat.beq (lenL z) es) (.val (.sls (hnx h) s es) (hput (.own .e) h)) (.bad 119)
  | _, _ => .bad 119
def hAppn (es by' : Nat) (z : List AV) (a n : X) (fr : Fr) (h : H) : AR := ev1 a fr fun a => optK (evIx (some n) 0 fr) (appnS es by' z a n fr h) fun n => ifB (Nat.ble n 1000000 && Nat.ble by' 1000000 && Nat.beq (lenL z) es) (appC es by' a n (repL z n) h) (.bad 120)
def hMax (x y : X) (fr : Fr) (h : H) : AR := ev2 x y fr fun a b => onInt a (.bad 121) fun j a => onInt b (.bad 122) fun k b => ifB (Nat.beq (kno j) (kno k)) (.val (.int j (ifB (Nat.blt (sgn j a) (sgn j b)) b a)) h) (.bad 123)
def symMin (a b : AV) (h : H) : AR := match toS a, toS b with
  | some s, some t => ifB (s.ok && t.ok) (optK (t.lt s) (.bad 125) (fun c => .val (ifB c b a) h)) (.bad 125)
  | _, _ => .bad 125
def hMin (x y : X) (fr : Fr) (h : H) : AR := ev2 x y fr fun a b => onInt a (symMin a b h) fun j za => onInt b (symMin a b h) fun k zb => ifB (Nat.beq (kno j) (kno k)) (.val (.int j (ifB (Nat.blt (sgn j zb) (sgn j za)) zb za)) h) (.bad 126)
def hClr (es : Nat) (z : List AV) (x : X) (fr : Fr) (h : H) : AR := ev1 x fr fun v => onSl v (.bad 127) (.val (.tup []) h) fun b o len _ _ es' => onCells (hget b h) (.bad 128) fun t => ifB (Nat.beq es es' && Nat.beq (lenL z) es && Nat.ble len 1000000) (.val (.tup []) (hset b (some (.own (putL (repL z len) o t))) h)) (.bad 129)
def hCall (f : Pth) (args : List X) (fr : Fr) (h : H) : AR := optK (evs args fr) (.bad 130) fun a => .call f a h
def hCallv (f : X) (args : List X) (fr : Fr) (h : H) : AR := ev1 f fr fun f => optK (evs args fr) (.bad 131) fun a => match f with | .fn f x c => .call (pth f) (x ++ a ++ c) h | .yld b => .yld b a h | _ => .bad 132
def hDefr (f : X) (args : List X) (fr : Fr) (h : H) : AR := ev1 f fr fun f => optK (evs args fr) (.bad 133) fun a => match f with | .fn f x c => .defr ⟨f, x ++ a ++ c⟩ h | _ => .bad 134
def hPan (x : X) (fr : Fr) (h : H) : AR := ev1 x fr fun v => match v with | .ifc .. => .pan v h | _ => .bad 135
def hRec (fr : Fr) (h : H) : AR := .bad 136
/-- a map literal that is looked at once -/
def evL2 (es : List (AV × X)) (fr : Fr) : Option (List (AV × AV)) := match es with
  | [] => some []
  | (a, x) :: l => optK (ev x fr) none fun v => optK (evL2 l fr) none fun vs => some ((a, v) :: vs)
def hLkl (kd : Nat) (z : AV) (es : List (AV × X)) (i : X) (ok : Bool) (fr : Fr) (h : H) : AR := ev1 i fr fun k => ifB (keyOk kd k) (optK (evL2 es fr) (.bad 137) fun es => optK (lookL kd k es) (.bad 138) fun r => found z ok h r) (.bad 139)
def hBad (w : Nat) (fr : Fr) (h : H) : AR := .bad w
noncomputable def opAR (o : FOp) : Fr → H → AR := FOp.rec (motive := fun _ => Fr → H → AR)
  hMov hPick hBox hBoxv hBuild hBsl hLd1 hLdn hSt1 hStn hNilc hIbin hSbin hBbin hEq hNeg hNot hConv hToB hMkif hMkfn hMkmap hMksl hSlS hSlL hSlA hFadr hFld hIdxL hIdxA hIdxS hIdxV hLook hMset hExt hTass hLen hCap hApp hAppn hMax hMin hClr hCall hCallv hDefr hPan hRec hLkl hBad o
end
end Go.Kx

/- What a value of the evaluator stands for in the model. -/
namespace Go.Kx

/-! ### Numbers and their images -/
theorem M_eq (k : IntKind) : (M k : Int) = 2 ^ k.bits := by cases k <;> rfl
theorem toI_lt {k : IntKind} {z : Nat} (h : z < lim k) : toI k z = z := if_pos h
theorem wrap_img (k : IntKind) (n : Int) : k.wrap n = toI k (imgK k n) := by
  cases k <;> simp [IntKind.wrap, IntKind.bits, IntKind.signed, toI, imgK, lim, M] <;> (repeat' split) <;> omega
theorem imgK_lt (k : IntKind) (n : Int) : imgK k n < M k := by
  cases k <;> simp [imgK, M] <;> omega
theorem toI_ge {k : IntKind} {z : Nat} (h : lim k ≤ z) : toI k z = (z : Int) - (M k : Int) := if_neg (by omega)
theorem imgK_toI (k : IntKind) (z : Nat) (h : z < M k) : imgK k (toI k z) = z := by
  rcases Nat.lt_or_ge z (lim k) with hz | hz
  · rw [toI_lt hz]; cases k <;> simp only [imgK, lim, M] at * <;> omega
  · rw [toI_ge hz]; cases k <;> simp only [imgK, lim, M] at * <;> omega
theorem wrap_toI (k : IntKind) (z : Nat) (h : z < M k) : k.wrap (toI k z) = toI k z := by rw [wrap_img, imgK_toI k z h]
theorem toI_inj {k : IntKind} {x y : Nat} (hx : x < M k) (hy : y < M k) (h : toI k x = toI k y) : x = y := by
  rw [← imgK_toI k x hx, h, imgK_toI k y hy]
theorem wrap_add (k : IntKind) (x y : Nat) (hx : x < M k) (hy : y < M k) : k.wrap (toI k x + toI k y) = toI k ((x + y) % M k) := by
  rw [wrap_img]; congr 1
  cases k <;> simp only [imgK, toI, lim, M] at * <;> (repeat' split) <;> omega
theorem wrap_sub (k : IntKind) (x y : Nat) (hx : x < M k) (hy : y < M k) : k.wrap (toI k x - toI k y) = toI k ((x + (M k - y)) % M k) := by
  rw [wrap_img]; congr 1
  cases k <;> simp only [imgK, toI, lim, M] at * <;> (repeat' split) <;> omega
theorem wrap_neg (k : IntKind) (x : Nat) (hx : x < M k) : k.wrap (0 - toI k x) = toI k ((M k - x) % M k) := by
  rw [wrap_img]; congr 1
  cases k <;> simp only [imgK, toI, lim, M] at * <;> (repeat' split) <;> omega
theorem toI_mod (k : IntKind) (z : Nat) (h : z < M k) : toI k z % (M k : Int) = (z : Int) := by
  rcases Nat.lt_or_ge z (lim k) with hz | hz
  · rw [toI_lt hz]; cases k <;> simp only [lim, M] at * <;> omega
  · rw [toI_ge hz]; cases k <;> simp only [lim, M] at * <;> omega
theorem M_pos (k : IntKind) : 0 < M k := by cases k <;> decide
theorem wrap_mul (k : IntKind) (x y : Nat) (hx : x < M k) (hy : y < M k) : k.wrap (toI k x * toI k y) = toI k ((x * y) % M k) := by
  rw [wrap_img]; congr 1
  unfold imgK
  rw [Int.mul_emod, toI_mod k x hx, toI_mod k y hy]
  exact_mod_cast rfl
theorem sgn_lt (k : IntKind) (x y : Nat) (hx : x < M k) (hy : y < M k) : toI k x < toI k y ↔ sgn k x < sgn k y := by
  have e : ∀ z, sgn k z = (z + Hf k) % M k := fun _ => rfl
  rw [e, e]
  rcases Nat.lt_or_ge x (lim k) with hz | hz <;> rcases Nat.lt_or_ge y (lim k) with hw | hw <;> first | rw [toI_lt hz] | rw [toI_ge hz]
  all_goals first | rw [toI_lt hw] | rw [toI_ge hw]
  all_goals (cases k <;> simp only [lim, M, Hf] at * <;> omega)
theorem lim_le (k : IntKind) : lim k ≤ M k := by cases k <;> decide
theorem kno_inj {j k : IntKind} (h : kno j = kno k) : j = k := by cases j <;> cases k <;> first | rfl | (simp [kno] at h)

/-! ### Texts and their numbers -/
def strNat : List UInt8 → Nat
  | [] => 0
  | b :: l => b.toNat + 256 * strNat l
theorem strNat_lt : ∀ l : List UInt8, strNat l < 256 ^ l.length
  | [] => by simp [strNat]
  | b :: l => by
    have h := strNat_lt l
    have hb : b.toNat < 256 := b.toNat_lt
    simp only [strNat, List.length_cons, Nat.pow_succ]
    omega
theorem strNat_inj : ∀ {l m : List UInt8}, l.length = m.length → strNat l = strNat m → l = m
  | [], [], _, _ => rfl
  | [], _ :: _, h, _ => by simp at h
  | _ :: _, [], h, _ => by simp at h
  | b :: l, c :: m, h, e => by
    have hb : b.toNat < 256 := b.toNat_lt
    have hc : c.toNat < 256 := c.toNat_lt
    simp only [strNat] at e
    have h1 : b.toNat = c.toNat := by omega
    have h2 : strNat l = strNat m := by omega
    rw [UInt8.toNat_inj.1 h1, strNat_inj (by simpa using h) h2]
theorem strNat_append : ∀ l m : List UInt8, strNat (l ++ m) = strNat l + strNat m * 256 ^ l.length
  | [], m => by simp [strNat]
  | b :: l, m => by
    simp only [List.cons_append, strNat, strNat_append l m, List.length_cons, Nat.pow_succ]
    have : 256 * (strNat l + strNat m * 256 ^ l.length) = 256 * strNat l + strNat m * (256 ^ l.length * 256) := by
      rw [Nat.mul_add, Nat.mul_comm (256 ^ l.length) 256, ← Nat.mul_assoc, ← Nat.mul_assoc, Nat.mul_comm 256 (strNat m)]
    omega
theorem strNat_drop : ∀ (n : Nat) (l : List UInt8), strNat (l.drop n) = strNat l / 256 ^ n
  | 0, l => by simp
  | n + 1, [] => by simp [strNat]
  | n + 1, b :: l => by
    have hb : b.toNat < 256 := b.toNat_lt
    rw [List.drop_succ_cons, strNat_drop n l, Nat.pow_succ, Nat.mul_comm (256 ^ n) 256, ← Nat.div_div_eq_div_mul]
    congr 1
    simp only [strNat]; omega
theorem strNat_take : ∀ (n : Nat) (l : List UInt8), strNat (l.take n) = strNat l % 256 ^ n
  | 0, l => by simp [strNat, Nat.mod_one]
  | n + 1, [] => by simp [strNat]
  | n + 1, b :: l => by
    have hb : b.toNat < 256 := b.toNat_lt
    rw [List.take_succ_cons]
    simp only [strNat]
    rw [strNat_take n l, Nat.pow_succ, Nat.mul_comm (256 ^ n) 256, Nat.mod_mul]
    have h1 : (b.toNat + 256 * strNat l) % 256 = b.toNat := by omega
    have h2 : (b.toNat + 256 * strNat l) / 256 = strNat l := by omega
    rw [h1, h2]
theorem strNat_get (l : List UInt8) (i : Nat) (h : i < l.length) : (l[i]).toNat = byteAt (strNat l) i := by
  show _ = strNat l / 256 ^ i % 256
  rw [← strNat_drop, List.drop_eq_getElem_cons h]
  have hb : (l[i]).toNat < 256 := (l[i]).toNat_lt
  simp only [strNat]; omega

/-! ### Values -/
structure Rho where
  /-- the model's block, the base in it, how many cells it has -/
  blk : Pth → Option (Nat × Nat × Nat)
  sy : Nat → Int

mutual
def VR (ρ : Rho) : AV → Value → Prop
  | .bool b, v => v = .bool b
  | .int k z, v => z < M k ∧ v = .int k (toI k z)
  | .sym s, v => v = .int .i64 (s.val ρ.sy)
  | .flt k b, v => v = .float k b
  | .str l z, v => ∃ s : ByteArray, v = .string s ∧ s.data.toList.length = l ∧ strNat s.data.toList = z
  | .ptr b o, v => ∃ x, ρ.blk b = some x ∧ v = .pointer (some ⟨x.1, x.2.1 + o, none⟩)
  | .nilp, v => v = .pointer none
  | .sl b o len lb ex es, v => ∃ x off cap, ρ.blk b = some x ∧ v = .slice (some ⟨x.1, off, none⟩) len cap ∧ lb ≤ cap ∧ (ex = true → cap = lb) ∧ len ≤ cap ∧
      (0 < cap → off = x.2.1 + o ∧ x.2.1 + o + cap * es ≤ x.2.2)
  | .nils, v => v = .slice none 0 0
  | .mp b, v => ∃ x, ρ.blk b = some x ∧ v = .map (some x.1)
  | .nilm, v => v = .map none
  | .fn f a c, v => ∃ a' c', v = .func (.func f) a' c' ∧ VRs ρ a a'.toList ∧ VRs ρ c c'.toList
  | .yld b, v => ∃ x, ρ.blk b = some x ∧ v = .func (.yield x.1) #[] #[]
  | .nilf, v => v = .nilFunc
  | .ifc t x, v => ∃ y, v = .iface t y ∧ VR ρ x y
  | .nili, v => v = .nilIface
  | .agg cs, v => ∃ a, v = .agg a ∧ VRs ρ cs a.toList ∧ cs.all oneC = true
  | .tup vs, v => ∃ a, v = .tuple a ∧ VRs ρ vs a.toList
  | .sls b s es, v => ∃ x off cap, ρ.blk b = some x ∧ v = .slice (some ⟨x.1, off, none⟩) (s.val ρ.sy).toNat cap ∧ 0 ≤ s.val ρ.sy ∧ (s.val ρ.sy).toNat ≤ cap ∧ off = x.2.1 ∧ x.2.1 + cap * es ≤ x.2.2
def VRs (ρ : Rho) : List AV → List Value → Prop
  | [], l => l = []
  | a :: m, l => ∃ v l', l = v :: l' ∧ VR ρ a v ∧ VRs ρ m l'
end

structure Rho.le (ρ ρ' : Rho) : Prop where
  mono : ∀ b x, ρ.blk b = some x → ρ'.blk b = some x
  sy : ρ'.sy = ρ.sy
theorem Rho.le.refl (ρ : Rho) : ρ.le ρ := ⟨fun _ _ h => h, rfl⟩
theorem Rho.le.trans {a b c : Rho} (h : a.le b) (h' : b.le c) : a.le c := ⟨fun p x e => h'.mono p x (h.mono p x e), h'.sy.trans h.sy⟩
mutual
theorem VR.mono {ρ ρ' : Rho} (h : ρ.le ρ') : ∀ {a : AV} {v : Value}, VR ρ a v → VR ρ' a v
  | .bool _, _, e => e
  | .int _ _, _, e => e
  | .sym i, v, e => by unfold VR at *; rw [h.sy]; exact e
  | .flt _ _, _, e => e
  | .str _ _, _, e => e
  | .ptr b o, v, ⟨x, e, e'⟩ => ⟨x, h.mono _ _ e, e'⟩
  | .nilp, _, e => e
  | .sl .., v, ⟨x, off, cap, e, e'⟩ => ⟨x, off, cap, h.mono _ _ e, e'⟩
  | .nils, _, e => e
  | .mp b, v, ⟨x, e, e'⟩ => ⟨x, h.mono _ _ e, e'⟩
  | .nilm, _, e => e
  | .fn f a c, v, ⟨a', c', e, ha, hc⟩ => ⟨a', c', e, VRs.mono h ha, VRs.mono h hc⟩
  | .yld b, v, ⟨x, e, e'⟩ => ⟨x, h.mono _ _ e, e'⟩
  | .nilf, _, e => e
  | .ifc t x, v, ⟨y, e, hx⟩ => ⟨y, e, VR.mono h hx⟩
  | .nili, _, e => e
  | .agg cs, v, ⟨a, e, hc, ho⟩ => ⟨a, e, VRs.mono h hc, ho⟩
  | .tup vs, v, ⟨a, e, hc⟩ => ⟨a, e, VRs.mono h hc⟩
  | .sls b s es, v, ⟨x, off, cap, e, e'⟩ => ⟨x, off, cap, h.mono _ _ e, by rw [h.sy]; exact e'⟩
theorem VRs.mono {ρ ρ' : Rho} (h : ρ.le ρ') : ∀ {l : List AV} {m : List Value}, VRs ρ l m → VRs ρ' l m
  | [], _, e => e
  | a :: l, _, ⟨v, l', e, hv, hl⟩ => ⟨v, l', e, VR.mono h hv, VRs.mono h hl⟩
end

theorem VRs.length {ρ : Rho} : ∀ {l : List AV} {m : List Value}, VRs ρ l m → l.length = m.length
  | [], _, rfl => rfl
  | a :: l, _, ⟨v, l', e, hv, hl⟩ => by subst e; simp [VRs.length hl]
theorem VRs.append {ρ : Rho} : ∀ {l l' : List AV} {m m' : List Value}, VRs ρ l m → VRs ρ l' m' → VRs ρ (l ++ l') (m ++ m')
  | [], _, _, _, rfl, h => h
  | a :: l, _, _, _, ⟨v, k, e, hv, hl⟩, h => by subst e; exact ⟨v, _, rfl, hv, VRs.append hl h⟩
theorem VRs.get {ρ : Rho} : ∀ {l : List AV} {m : List Value} (i : Nat) {a : AV}, VRs ρ l m → l[i]? = some a → ∃ v, m[i]? = some v ∧ VR ρ a v
  | [], _, _, _, _, h => by simp at h
  | b :: l, _, 0, a, ⟨v, k, e, hv, hl⟩, h => by subst e; simp at h; subst h; exact ⟨v, rfl, hv⟩
  | b :: l, _, i + 1, a, ⟨v, k, e, hv, hl⟩, h => by subst e; simp at h; simpa using VRs.get i hl h
theorem VRs.drop {ρ : Rho} : ∀ {l : List AV} {m : List Value} (n : Nat), VRs ρ l m → VRs ρ (l.drop n) (m.drop n)
  | l, m, 0, h => by simpa using h
  | [], _, n + 1, e => by subst e; simp [VRs]
  | b :: l, _, n + 1, ⟨v, k, e, hv, hl⟩ => by subst e; simpa using VRs.drop n hl
theorem VRs.take {ρ : Rho} : ∀ {l : List AV} {m : List Value} (n : Nat), VRs ρ l m → VRs ρ (l.take n) (m.take n)
  | l, m, 0, h => by simp [VRs]
  | [], _, n + 1, e => by subst e; simp [VRs]
  | b :: l, _, n + 1, ⟨v, k, e, hv, hl⟩ => by subst e; simp only [List.take_succ_cons]; exact ⟨v, _, rfl, hv, VRs.take n hl⟩

/-- The cells of a value. -/
theorem cellsOf_eq (v : AV) : cellsOf v = match v with | .agg cs => cs | v => [v] := by cases v <;> rfl
theorem oneC_eq (v : AV) : oneC v = match v with | .agg _ => false | .tup _ => false | _ => true := by cases v <;> rfl
theorem VR.cells {ρ : Rho} {a : AV} {v : Value} (h : VR ρ a v) (hk : okCells a = true) : VRs ρ (cellsOf a) v.cells.toList ∧ (cellsOf a).all oneC = true := by
  cases a with
  | agg cs => obtain ⟨x, rfl, hc, ho⟩ := h; exact ⟨hc, ho⟩
  | tup vs => simp [okCells] at hk
  | bool b => cases h; exact ⟨⟨_, _, rfl, rfl, rfl⟩, rfl⟩
  | int k z => obtain ⟨hz, rfl⟩ := h; exact ⟨⟨_, _, rfl, ⟨hz, rfl⟩, rfl⟩, rfl⟩
  | sym i => cases h; exact ⟨⟨_, _, rfl, rfl, rfl⟩, rfl⟩
  | flt k b => cases h; exact ⟨⟨_, _, rfl, rfl, rfl⟩, rfl⟩
  | str l z => obtain ⟨s, rfl, h⟩ := h; exact ⟨⟨_, _, rfl, ⟨s, rfl, h⟩, rfl⟩, rfl⟩
  | ptr b o => obtain ⟨x, hx, rfl⟩ := h; exact ⟨⟨_, _, rfl, ⟨x, hx, rfl⟩, rfl⟩, rfl⟩
  | nilp => cases h; exact ⟨⟨_, _, rfl, rfl, rfl⟩, rfl⟩
  | sl b o len lb ex es => obtain ⟨x, off, cap, hx, rfl, h⟩ := h; exact ⟨⟨_, _, rfl, ⟨x, off, cap, hx, rfl, h⟩, rfl⟩, rfl⟩
  | nils => cases h; exact ⟨⟨_, _, rfl, rfl, rfl⟩, rfl⟩
  | mp b => obtain ⟨x, hx, rfl⟩ := h; exact ⟨⟨_, _, rfl, ⟨x, hx, rfl⟩, rfl⟩, rfl⟩
  | nilm => cases h; exact ⟨⟨_, _, rfl, rfl, rfl⟩, rfl⟩
  | fn f x c => obtain ⟨a', c', rfl, h⟩ := h; exact ⟨⟨_, _, rfl, ⟨a', c', rfl, h⟩, rfl⟩, rfl⟩
  | yld b => obtain ⟨x, hx, rfl⟩ := h; exact ⟨⟨_, _, rfl, ⟨x, hx, rfl⟩, rfl⟩, rfl⟩
  | nilf => cases h; exact ⟨⟨_, _, rfl, rfl, rfl⟩, rfl⟩
  | ifc t x => obtain ⟨y, rfl, h⟩ := h; exact ⟨⟨_, _, rfl, ⟨y, rfl, h⟩, rfl⟩, rfl⟩
  | sls b s es => obtain ⟨x, off, cap, hx, rfl, h⟩ := h; exact ⟨⟨_, _, rfl, ⟨x, off, cap, hx, rfl, h⟩, rfl⟩, rfl⟩
  | nili => cases h; exact ⟨⟨_, _, rfl, rfl, rfl⟩, rfl⟩

/-- A value of one cell: the model takes it for one, too. -/
theorem VR.one {ρ : Rho} {a : AV} {v : Value} (h : VR ρ a v) (hk : oneC a = true) : (∀ x, v ≠ .agg x) ∧ (∀ x, v ≠ .tuple x) ∧ v.cells = #[v] := by
  cases a with
  | agg cs => rw [oneC_eq] at hk; cases hk
  | tup vs => rw [oneC_eq] at hk; cases hk
  | bool b => cases h; exact ⟨nofun, nofun, rfl⟩
  | int k z => obtain ⟨hz, rfl⟩ := h; exact ⟨nofun, nofun, rfl⟩
  | sym i => cases h; exact ⟨nofun, nofun, rfl⟩
  | flt k b => cases h; exact ⟨nofun, nofun, rfl⟩
  | str l z => obtain ⟨s, rfl, h⟩ := h; exact ⟨nofun, nofun, rfl⟩
  | ptr b o => obtain ⟨x, hx, rfl⟩ := h; exact ⟨nofun, nofun, rfl⟩
  | nilp => cases h; exact ⟨nofun, nofun, rfl⟩
  | sl b o len lb ex es => obtain ⟨x, off, cap, hx, rfl, h⟩ := h; exact ⟨nofun, nofun, rfl⟩
  | nils => cases h; exact ⟨nofun, nofun, rfl⟩
  | mp b => obtain ⟨x, hx, rfl⟩ := h; exact ⟨nofun, nofun, rfl⟩
  | nilm => cases h; exact ⟨nofun, nofun, rfl⟩
  | fn f x c => obtain ⟨a', c', rfl, h⟩ := h; exact ⟨nofun, nofun, rfl⟩
  | yld b => obtain ⟨x, hx, rfl⟩ := h; exact ⟨nofun, nofun, rfl⟩
  | nilf => cases h; exact ⟨nofun, nofun, rfl⟩
  | ifc t x => obtain ⟨y, rfl, h⟩ := h; exact ⟨nofun, nofun, rfl⟩
  | sls b s es => obtain ⟨x, off, cap, hx, rfl, h⟩ := h; exact ⟨nofun, nofun, rfl⟩
  | nili => cases h; exact ⟨nofun, nofun, rfl⟩

/-! ### Frames -/
/-- Slots that are known hold what stands for what the model's do; there are n of them at least. -/
structure FrR (ρ : Rho) (n : Nat) (fr : Fr) (tmps : Array Value) : Prop where
  size : n ≤ tmps.size
  slot : ∀ p v, Tr.get p fr = some v → ∃ x, tmps[p.num]? = some x ∧ VR ρ v x
theorem FrR.mono {ρ ρ' : Rho} {n : Nat} {fr : Fr} {t : Array Value} (h : FrR ρ n fr t) (hr : ρ.le ρ') : FrR ρ' n fr t :=
  ⟨h.size, fun p v e => let ⟨x, e', hx⟩ := h.slot p v e; ⟨x, e', hx.mono hr⟩⟩
theorem FrR.put {ρ : Rho} {n : Nat} {fr : Fr} {t : Array Value} (h : FrR ρ n fr t) {d : Nat} (hd : d < n) {v : AV} {x : Value} (hv : VR ρ v x) :
    FrR ρ n (Tr.set (pth d) (some v) fr) (t.setIfInBounds d x) := by
  refine ⟨by simpa using h.size, fun p u e => ?_⟩
  by_cases hp : p = pth d
  · subst hp
    rw [Tr.get_set_same] at e
    cases e
    rw [pth_num]
    refine ⟨x, ?_, hv⟩
    have := h.size
    rw [Array.getElem?_setIfInBounds_self_of_lt (by omega)]
  · rw [Tr.get_set_ne hp] at e
    obtain ⟨y, hy, hv'⟩ := h.slot p u e
    refine ⟨y, ?_, hv'⟩
    have hne : d ≠ p.num := fun e => hp (by rw [e, num_pth])
    rw [Array.getElem?_setIfInBounds_ne hne]
    exact hy
/-- What an operand says stands for what the model's does. -/
def EvR (ρ : Rho) (fr : Fr) (x : X) (v : Value) : Prop := ∀ u, ev x fr = some u → VR ρ u v
def EvRs (ρ : Rho) (fr : Fr) (l : List X) (vs : List Value) : Prop := ∀ u, evs l fr = some u → VRs ρ u vs

/-! ### Memory -/
def MR (ρ : Rho) : List (AV × AV) → List MapEntry → Prop
  | [], l => l = []
  | (k, v) :: es, l => ∃ e l', l = e :: l' ∧ VR ρ k e.key ∧ VR ρ v e.val ∧ MR ρ es l'
theorem MR.mono {ρ ρ' : Rho} (h : ρ.le ρ') : ∀ {es : List (AV × AV)} {l : List MapEntry}, MR ρ es l → MR ρ' es l
  | [], _, e => e
  | (k, v) :: es, _, ⟨e, l', he, hk, hv, hl⟩ => ⟨e, l', he, hk.mono h, hv.mono h, MR.mono h hl⟩
end Go.Kx

/- The model's code, brought into the evaluator's. -/
namespace Go.Kx
noncomputable section
abbrev TT := Tr TypeInfo

mutual
def ofV : Value → Option AV
  | .bool b => some (.bool b)
  | .int k n => if toI k (imgK k n) = n then some (.int k (imgK k n)) else none
  | .float k b => some (.flt k b)
  | .string s => some (.str s.data.toList.length (strNat s.data.toList))
  | .pointer none => some .nilp
  | .slice none 0 0 => some .nils
  | .map none => some .nilm
  | .nilFunc => some .nilf
  | .nilIface => some .nili
  | .func (.func f) ⟨[]⟩ ⟨[]⟩ => some (.fn f [] [])
  | .agg ⟨l⟩ => match ofVs l with | some l => if l.all oneC then some (.agg l) else none | none => none
  | .tuple ⟨l⟩ => match ofVs l with | some l => some (.tup l) | none => none
  | _ => none
def ofVs : List Value → Option (List AV)
  | [] => some []
  | v :: l => match ofV v, ofVs l with | some v, some l => some (v :: l) | _, _ => none
end

def cX : Operand → X
  | .tmp t => .t (pth t)
  | .const v => match ofV v with | some a => .c a | none => .bad
  | .global g => .c (.ptr (pth g) 0)
  | .func f => .c (.fn f [] [])
def ti (T : TT) (t : Nat) : Option TypeInfo := Tr.get (pth t) T
def und (T : TT) (t : Nat) : Option TypeDesc := match ti T t with
  | some i => match i.desc with
    | .named _ u => match ti T u with | some j => some j.desc | none => none
    | d => some d
  | none => none
def siz (T : TT) (t : Nat) : Option Nat := match ti T t with | some i => some i.size | none => none
def byt (T : TT) (t : Nat) : Option Nat := match ti T t with | some i => some i.bytes | none => none
/-- the zero value, and its cells -/
def zv (T : TT) (t : Nat) : Option AV := match ti T t with
  | some i => match i.zero with | some v => ofV v | none => none
  | none => none
def zc (T : TT) (t : Nat) : Option (List AV) := match zv T t with | some v => if okCells v then some (cellsOf v) else none | none => none
/-- is a variable of the type one cell? -/
def one? (T : TT) (t : Nat) : Option Bool := match und T t with
  | some (.struct _) => some false
  | some (.array ..) => some false
  | some _ => some true
  | none => none
def bk : BinOp → BK
  | .add => .add | .sub => .sub | .mul => .mul | .and => .and | .or => .or | .xor => .xor | .andNot => .andNot | .shl => .shl | .shr => .shr | .quo => .quo | .rem => .rem
  | .eql => .eql | .neq => .neq | .lss => .lss | .leq => .leq | .gtr => .gtr | .geq => .geq
def isEqOp : BinOp → Option Bool | .eql => some false | .neq => some true | _ => none
def isConstO : Operand → Bool | .const _ => true | _ => false
/-- where parts lie in a struct: offsets and sizes -/
def fPlaces (T : TT) : List Field → Option (List (Nat × Nat))
  | [] => some []
  | f :: l => match siz T f.type, fPlaces T l with | some n, some r => some ((f.offset, n) :: r) | _, _ => none
def cPartsS (pl : List (Nat × Nat)) : List (Nat × Operand) → Option (List (Nat × Nat × X))
  | [] => some []
  | (i, x) :: l => match pl[i]?, cPartsS pl l with | some (o, n), some r => some ((o, n, cX x) :: r) | _, _ => none
def cPartsA (n : Nat) : List (Nat × Operand) → List (Nat × Nat × X)
  | [] => []
  | (i, x) :: l => (i * n, n, cX x) :: cPartsA n l
def keyKd (T : TT) (t : Nat) : Option Nat := match und T t with
  | some (.int _) => some 0 | some .string => some 1 | some .bool => some 2 | _ => none
def cBin (T : TT) (op : BinOp) (t : Nat) (x y : Operand) : FOp := match und T t with
  | some (.int _) => .ibin (bk op) (cX x) (cX y)
  | some .string => .sbin (bk op) (cX x) (cX y)
  | some .bool => match isEqOp op with | some ng => .bbin ng (cX x) (cX y) | none => .bad 200
  | some (.pointer e) => match isEqOp op, siz T e with | some ng, some (n + 1) => .eq ng 0 (cX x) (cX y) | _, _ => .bad 201
  | some (.interface _) => match isEqOp op with | some ng => if isConstO x || isConstO y then .eq ng 1 (cX x) (cX y) else .bad 202 | none => .bad 203
  | some (.slice _) => match isEqOp op with | some ng => .eq ng 2 (cX x) (cX y) | none => .bad 204
  | some (.map _ _) => match isEqOp op with | some ng => .eq ng 3 (cX x) (cX y) | none => .bad 205
  | some (.func ..) => match isEqOp op with | some ng => .eq ng 4 (cX x) (cX y) | none => .bad 206
  | _ => .bad 207
def cBuiltin (T : TT) (b : Builtin) (args : List Operand) (tys : List Nat) : FOp := match b, args, tys with
  | .len, [x], [t] => match und T t with
    | some .string => .len 0 (cX x) | some (.slice _) => .len 1 (cX x) | some (.map _ _) => .len 2 (cX x)
    | some (.array n _) => if n < big then .mov (.c (.int .i64 n)) else .bad 208
    | _ => .bad 209
  | .cap, [x], [t] => match und T t with | some (.slice _) => .cap (cX x) | _ => .bad 210
  | .append, [a, b], [t, u] => match und T t, und T u with
    | some (.slice e), some (.int _) => match siz T e, byt T e, zc T e with | some n, some y, some z => .appn n y z (cX a) (cX b) | _, _, _ => .bad 211
    | some (.slice e), some (.slice _) => match siz T e, byt T e, zc T e with | some n, some y, some z => if lenL z = n then .app n y (cX a) (cX b) else .bad 212 | _, _, _ => .bad 212
    | some (.slice e), some .string => match siz T e, byt T e, zc T e with | some n, some y, some z => if lenL z = n then .app n y (cX a) (cX b) else .bad 213 | _, _, _ => .bad 213
    | _, _ => .bad 214
  | .max, [x, y], _ => .max (cX x) (cX y)
  | .min, [x, y], _ => .min (cX x) (cX y)
  | .clear, [x], [t] => match und T t with
    | some (.slice e) => match siz T e, zc T e with | some n, some z => .clr n z (cX x) | _, _ => .bad 215
    | _ => .bad 216
  | .recover, _, _ => .recov
  | _, _, _ => .bad 217
def cConv (T : TT) (s d : Nat) (x : Operand) : FOp := match und T s, und T d with
  | some (.int _), some (.int k) => .conv k (cX x)
  | some .string, some .string => .sbin .add (cX x) (.c (.str 0 0))
  | some .string, some (.slice e) => match und T e with | some (.int .u8) => .toBytes (cX x) | _ => .bad 218
  | _, _ => .bad 219
def cSlice (T : TT) (t : Nat) (x : Operand) (lo hi mx : Option Operand) : FOp := match und T t with
  | some .string => match mx with | none => .slS (cX x) (lo.map cX) (hi.map cX) | some _ => .bad 220
  | some (.slice e) => match siz T e with | some n => (match mx, hi with | some _, none => .bad 221 | _, _ => .slL n (cX x) (lo.map cX) (hi.map cX) (mx.map cX)) | none => .bad 222
  | some (.array m e) => match siz T e with | some (n + 1) => (match mx, hi with | some _, none => .bad 223 | _, _ => .slA m (n + 1) (cX x) (lo.map cX) (hi.map cX) (mx.map cX)) | _ => .bad 224
  | _ => .bad 225
def cOp (T : TT) (o : Op) : FOp := match o with
  | .move x => .mov (cX x)
  | .assign x => .mov (cX x)
  | .pick c a b => .pick (cX c) (cX a) (cX b)
  | .alloc t => match zc T t with | some l => .box l | none => .bad 226
  | .box t x => .boxv (cX x)
  | .build t ps => match und T t, zc T t with
    | some (.struct fs), some z => match fPlaces T fs.toList with
      | some pl => match cPartsS pl ps.toList with | some l => .build z l | none => .bad 227
      | none => .bad 228
    | some (.array _ e), some z => match siz T e with | some s => .build z (cPartsA s ps.toList) | none => .bad 229
    | _, _ => .bad 230
  | .buildSlice t n ps => match und T t with
    | some (.slice e) => match siz T e, zc T e with
      | some (s + 1), some z => if n * (s + 1) ≤ 2 ^ 20 ∧ lenL z = s + 1 then .bsl (s + 1) n (repL z n) (cPartsA (s + 1) ps.toList) else .bad 231
      | _, _ => .bad 232
    | _ => .bad 233
  | .load t a => match one? T t, siz T t with
    | some true, _ => .ld1 (cX a)
    | some false, some n => .ldn n (cX a)
    | _, _ => .bad 234
  | .store t a x => match one? T t, siz T t with
    | some true, some 1 => .st1 (cX a) (cX x)
    | some false, some n => .stn n (cX a) (cX x)
    | _, _ => .bad 235
  | .nilCheck x => .nilc (cX x)
  | .binOp op t x y _ => cBin T op t x y
  | .unOp .neg t x => .neg (cX x)
  | .unOp .not _ x => .not (cX x)
  | .convert s d x => cConv T s d x
  | .makeInterface t x => match und T t with | some (.interface _) => .bad 236 | some _ => .mkif t (cX x) | none => .bad 237
  | .makeFunc (.func f) fi ca => .mkfn f (fi.toList.map cX) (ca.toList.map cX)
  | .makeMap _ none => .mkmap
  | .makeSlice t l c => match und T t with
    | some (.slice e) => match siz T e, byt T e, zc T e with | some n, some y, some z => .mksl n y z (cX l) (cX c) | _, _, _ => .bad 238
    | _ => .bad 239
  | .slice t x lo hi mx => cSlice T t x lo hi mx
  | .fieldAddr t x i => match und T t with
    | some (.struct fs) => match fs[i]? with
      | some f => match siz T f.type with | some (_ + 1) => .fadr f.offset (cX x) | _ => .bad 240
      | none => .bad 241
    | _ => .bad 242
  | .field t x i => match und T t with
    | some (.struct fs) => match fs[i]? with
      | some f => match one? T f.type, siz T f.type with | some b, some n => .fld f.offset n b (cX x) | _, _ => .bad 243
      | none => .bad 244
    | _ => .bad 245
  | .indexAddr t x i => match und T t with
    | some (.slice e) => match siz T e with | some n => .idxL n (cX x) (cX i) | none => .bad 246
    | some (.array m e) => match siz T e with | some n => .idxA m n (cX x) (cX i) | none => .bad 247
    | _ => .bad 248
  | .index t x i => match und T t with
    | some .string => .idxS (cX x) (cX i)
    | some (.array m e) => match one? T e, siz T e with | some b, some n => .idxV m n b (cX x) (cX i) | _, _ => .bad 249
    | _ => .bad 250
  | .lookup t x i ok => match und T t with
    | some (.map k e) => match keyKd T k, zv T e with | some kd, some z => .look kd z (cX x) (cX i) ok | _, _ => .bad 251
    | _ => .bad 252
  | .mapUpdate t m k x => match und T t with
    | some (.map kt _) => match keyKd T kt with | some kd => .mset kd (cX m) (cX k) (cX x) | none => .bad 253
    | _ => .bad 254
  | .insert t m k x => match und T t with
    | some (.map kt _) => match keyKd T kt with | some kd => .mset kd (cX m) (cX k) (cX x) | none => .bad 255
    | _ => .bad 256
  | .extract x i => .ext (cX x) i
  | .typeAssert x _ t ok => match und T t, zv T t with
    | some (.interface _), _ => .bad 257
    | some _, some z => .tass t z (cX x) ok
    | _, _ => .bad 258
  | .call c => match c.callee with
    | .builtin b => cBuiltin T b c.args.toList c.argTypes.toList
    | .value (.func f) => .call (pth f) (c.args.toList.map cX)
    | .value f => .callv (cX f) (c.args.toList.map cX)
    | _ => .bad 259
  | .defer c => match c.callee with
    | .value f => .defr (cX f) (c.args.toList.map cX)
    | _ => .bad 260
  | .panic x => .pan (cX x)
  | _ => .bad 261
def cDst (n : Nat) (d : Option Tmp) : Option (Option Pth) := match d with
  | none => some none
  | some t => if t < n then some (some (pth t)) else none
def cGuard (ops : Array Oper) (g : Option (Nat × Bool)) : Option (Option (Pth × Bool)) := match g with
  | none => some none
  | some (j, w) => match ops[j]? with
    | some o => match o.dst with | some d => some (some (pth d, w)) | none => none
    | none => none
def gB (g : Nat) : Operand → Bool | .global i => Nat.blt i g | _ => true
def cStep (T : TT) (g n : Nat) (ops : Array Oper) (o : Oper) : FSt := match cDst n o.dst, cGuard ops o.guard with
  | some d, some gd => match o.op.operands.toList.all (gB g) with | true => .op gd d (cOp T o.op) | false => .op none none (.bad 263)
  | _, _ => .op none none (.bad 262)
def cSteps (T : TT) (g n : Nat) (ops : Array Oper) : List Oper → List FSt
  | [] => []
  | o :: l => cStep T g n ops o :: cSteps T g n ops l

/-! ### Drawn regions -/
/-- 0: hangs on its operands alone; 1: reads memory; 2: a new block; 3: else -/
def cls : FOp → Nat
  | .mov _ | .pick .. | .build .. | .nilc _ | .ibin .. | .sbin .. | .bbin .. | .eq .. | .neg _ | .not _ | .conv .. | .mkif .. | .mkfn .. | .slS .. | .slL .. | .fadr .. | .fld .. | .idxL .. | .idxA .. | .idxS .. | .idxV .. | .ext .. | .tass .. | .lkl .. | .cap _ | .max .. | .min .. => 0
  | .len kd _ => match kd with | 2 => 1 | _ => 0
  | .ld1 _ | .ldn .. | .look .. | .slA .. => 1
  | .box _ | .boxv _ | .bsl .. | .toBytes _ | .mkmap | .mksl .. => 2
  | _ => 3
/-- the operations that come ahead of each, as bits: those of the edges that always bind, and what comes ahead of these -/
def ancE (acc : List Nat) : List Edge → Nat
  | [] => 0
  | e :: l => match e.ground with
    | .textOnly _ => ancE acc l
    | .gcOnly _ => ancE acc l
    | _ => Nat.lor (ancE acc l) (Nat.lor (Nat.pow 2 e.on) (acc.getD e.on 0))
def ancs : List Oper → List Nat → List Nat
  | [], acc => acc
  | o :: l, acc => ancs l (acc ++ [ancE acc o.after.toList])
def subB (a b : Nat) : Bool := Nat.beq (Nat.land a b) a
def bitB (i a : Nat) : Bool := Nat.beq (Nat.mod (Nat.div a (Nat.pow 2 i)) 2) 1
/-- how many of these lie in a set -/
def lvl (a : Nat) : List Nat → Nat
  | [] => 0
  | e :: l => match bitB e a with | true => Nat.succ (lvl a l) | false => lvl a l
/-- the numbers of the elements for which it holds -/
def numsIf {α : Type} (p : α → Bool) : Nat → List α → List Nat
  | _, [] => []
  | i, x :: l => match p x with | true => i :: numsIf p (i + 1) l | false => numsIf p (i + 1) l
def stOp : FSt → FOp | .op _ _ o => o
/-! a map literal: made, filled in any order, looked at once -/
structure Lit where
  q : Nat
  t : Nat
  mv : Nat
  u : Nat
  lk : Nat
  kd : Nat
def asMk (o : Oper) : Option Nat := match o.op, o.dst, o.guard with | .makeMap _ none, some t, none => some t | _, _, _ => none
def asIns (T : TT) (t kd : Nat) (o : Oper) : Option (AV × Operand) := match o.op, o.dst, o.guard with
  | .insert ty (.tmp t') (.const k) v, none, none => match und T ty, ofV k with
    | some (.map kt _), some a => (match keyKd T kt with | some kd' => (match Nat.beq t' t && Nat.beq kd' kd && keyOk kd a with | true => some (a, v) | false => none) | none => none)
    | _, _ => none
  | _, _, _ => none
def asMv (t : Nat) (o : Oper) : Option Nat := match o.op, o.dst, o.guard with | .move (.tmp t'), some u, none => (match Nat.beq t' t with | true => some u | false => none) | _, _, _ => none
def asLk (T : TT) (u : Nat) (o : Oper) : Option (Nat × AV × Operand × Bool) := match o.op, o.guard with
  | .lookup ty (.tmp u') key ok, none => match und T ty with
    | some (.map k e) => (match keyKd T k, zv T e, Nat.beq u' u with | some kd, some z, true => some (kd, z, key, ok) | _, _, _ => none)
    | _ => none
  | _, _ => none
def insL (T : TT) (t kd : Nat) : Nat → List Oper → List (Nat × AV × Operand)
  | _, [] => []
  | i, o :: l => match asIns T t kd o with | some (a, v) => (i, a, v) :: insL T t kd (i + 1) l | none => insL T t kd (i + 1) l
def findO {α : Type} (f : Oper → Option α) : Nat → List Oper → Option (Nat × α)
  | _, [] => none
  | i, o :: l => match f o with | some a => some (i, a) | none => findO f (i + 1) l
def litOf (T : TT) (os : List Oper) : Option Lit := match findO asMk 0 os with
  | some (q, t) => match findO (asMv t) 0 os with
    | some (mv, u) => match findO (asLk T u) 0 os with
      | some (lk, kd, _) => (match insL T t kd 0 os with | [] => none | _ => some ⟨q, t, mv, u, lk, kd⟩)
      | none => none
    | none => none
  | none => none
/-- slots that an operation looks at -/
def seesO (ops : Array Oper) (o : Oper) : List Nat :=
  (o.op.operands.toList.filterMap fun | .tmp t => some t | _ => none) ++ (match o.guard with | some (j, _) => (match ops[j]? with | some q => q.dst.toList | none => []) | none => [])
def opT : Operand → List Nat | .tmp t => [t] | _ => []
def insT : List (Nat × AV × Operand) → List Nat | [] => [] | (_, _, v) :: l => opT v ++ insT l
def insX : List (Nat × AV × Operand) → List (AV × X) | [] => [] | (_, a, v) :: l => (a, cX v) :: insX l
/-- an operation of a region: what comes ahead of it, its sort, its step, what it looks at; sort of literal: 0 none, 1 made, 2 filled, 3 moved, 4 looked at -/
structure DO where
  an : Nat
  cl : Nat
  st : FSt
  se : List Nat
  kd : Nat
  o : Oper
def nrmDO (T : TT) (g n : Nat) (ops : Array Oper) (o : Oper) (a : Nat) : DO := ⟨a, cls (stOp (cStep T g n ops o)), cStep T g n ops o, seesO ops o, 0, o⟩
def litDO (T : TT) (g n : Nat) (ops : Array Oper) (L : Lit) (i : Nat) (o : Oper) (a : Nat) : DO :=
  match Nat.beq i L.q, asMk o with
  | true, some t => (match Nat.beq t L.t && Nat.blt t n with | true => ⟨a, 5, .op none none (.bad 271), [], 1, o⟩ | false => nrmDO T g n ops o a)
  | _, _ => match asIns T L.t L.kd o with
    | some (_, v) => (match gB g v with | true => ⟨a, 5, .op none none (.bad 271), opT v, 2, o⟩ | false => nrmDO T g n ops o a)
    | none => match Nat.beq i L.mv, asMv L.t o with
      | true, some u => (match Nat.beq u L.u && Nat.blt u n with | true => ⟨a, 5, .op none none (.bad 271), [], 3, o⟩ | false => nrmDO T g n ops o a)
      | _, _ => match Nat.beq i L.lk, asLk T L.u o, cDst n o.dst with
        | true, some (kd, z, key, ok), some dd => (match Nat.beq kd L.kd && gB g key with
          | true => ⟨a, 0, .op none dd (.lkl kd z (insX (insL T L.t L.kd 0 ops.toList)) (cX key) ok), opT key ++ insT (insL T L.t L.kd 0 ops.toList), 4, o⟩
          | false => nrmDO T g n ops o a)
        | _, _, _ => nrmDO T g n ops o a
def oneDO (T : TT) (g n : Nat) (ops : Array Oper) (lit : Option Lit) (i : Nat) (o : Oper) (a : Nat) : DO := match lit with | some L => litDO T g n ops L i o a | none => nrmDO T g n ops o a
def mkDO (T : TT) (g n : Nat) (ops : Array Oper) (lit : Option Lit) : Nat → List Oper → List Nat → List DO
  | i, o :: l, a :: as => oneDO T g n ops lit i o a :: mkDO T g n ops lit (i + 1) l as
  | _, _, _ => []
/-- those that the evaluator leaves out, as bits -/
def freeB : Nat → List DO → Nat
  | _, [] => 0
  | i, d :: l => match Nat.beq d.cl 5 with | true => Nat.lor (Nat.pow 2 i) (freeB (i + 1) l) | false => freeB (i + 1) l
def freeD : List DO → List Pth
  | [] => []
  | d :: l => match Nat.beq d.cl 5, d.o.dst with | true, some t => pth t :: freeD l | _, _ => freeD l
def insAnOK (ds : List DO) (L : Lit) (lkan : Nat) : List (Nat × AV × Operand) → Bool
  | [] => true
  | (i, _, _) :: l => (match ds[i]? with | some d => bitB L.q d.an && bitB i lkan && Nat.beq d.kd 2 | none => false) && insAnOK ds L lkan l
def keyNe (kd : Nat) (a b : AV) : Bool := match keyEq kd a b with | some false => true | _ => false
def insKeyOK (kd : Nat) (ins : List (Nat × AV × Operand)) : List (Nat × AV × Operand) → Bool
  | [] => true
  | (i, a, _) :: l => ins.all (fun (j, b, _) => Nat.beq i j || keyNe kd a b) && insKeyOK kd ins l
def litOK (T : TT) (ops : Array Oper) (lit : Option Lit) (ds : List DO) : Bool := match lit with
  | none => true
  | some L => let ins := insL T L.t L.kd 0 ops.toList
    match ds[L.q]?, ds[L.mv]?, ds[L.lk]? with
    | some a, some b, some c => Nat.beq a.kd 1 && Nat.beq b.kd 3 && Nat.beq c.kd 4 && bitB L.q b.an && bitB L.mv c.an && bitB L.q c.an && insAnOK ds L c.an ins && insKeyOK L.kd ins ins && !Nat.beq L.t L.u && Nat.beq L.kd 1
    | _, _, _ => false
/-- the order: what comes first, then each effect and what hangs on it -/
def segsOf (ds : List DO) (effs : List Nat) : Nat → List Nat → List (Nat × List Nat)
  | _, [] => []
  | k, e :: l => (e, numsIf (fun d => !Nat.beq d.cl 3 && !Nat.beq d.cl 5 && Nat.beq (lvl d.an effs) (k + 1)) 0 ds) :: segsOf ds effs (k + 1) l
/-- each slot that is written in the region, of those that an operation (number j, of sort c) looks at, is written ahead of it, or behind it -/
def seesOK (j c an : Nat) (t : Nat) : Nat → List DO → Bool
  | _, [] => true
  | i, d :: l => (match d.o.dst with | some u => (match Nat.beq u t with | true => !Nat.beq d.cl 5 && (bitB i an || (!Nat.beq c 1 && (!Nat.beq c 5 && (Nat.beq i j || bitB j d.an)))) | false => true) | none => true) && seesOK j c an t (i + 1) l
def allSeeOK (ds : List DO) : Nat → List DO → Bool
  | _, [] => true
  | j, d :: l => d.se.all (fun t => seesOK j d.cl d.an t 0 ds) && allSeeOK ds (j + 1) l
def dstOK (t : Nat) : List DO → Bool
  | [] => true
  | d :: l => (match d.o.dst with | some u => !Nat.beq u t | none => true) && dstOK t l
def dstsOK : List DO → Bool
  | [] => true
  | d :: l => (match d.o.dst with | some t => dstOK t l | none => true) && dstsOK l
/-- each edge but those of gc's order alone points backwards -/
def edgesOK : Nat → List DO → Bool
  | _, [] => true
  | i, d :: l => (d.o.after.toList.all fun e => match e.ground with | .gcOnly _ => true | _ => Nat.blt e.on i) && edgesOK (i + 1) l
/-- an order of all, by gc's edges -/
def gcOK (ds : List DO) : List Nat → Nat → Bool
  | [], done => Nat.beq done (Nat.sub (Nat.pow 2 ds.length) 1)
  | i :: l, done => match ds[i]? with
    | some d => (d.o.after.toList.all fun e => match e.ground with | .textOnly _ => true | _ => bitB e.on done) && gcOK ds l (Nat.lor done (Nat.pow 2 i))
    | none => false
def departs (ds : List DO) : Bool := ds.any fun d => d.o.after.toList.any fun e => match e.ground with | .textOnly _ => true | .gcOnly _ => true | _ => false
/-- a part that is no effect: each lies behind what comes ahead of it; e: the effect ahead of the part -/
def preOK (ds : List DO) (e : Option Nat) : List Nat → Nat → Option Nat
  | [], done => some done
  | i :: l, done => match ds[i]? with
    | some d => match subB d.an done && !bitB i done && !Nat.beq d.cl 3 && !Nat.beq d.cl 5 && (match e with | some e => bitB e d.an | none => true) with
      | true => preOK ds e l (Nat.lor done (Nat.pow 2 i))
      | false => none
    | none => none
/-- the reads among these that do not come ahead of an effect -/
def readsOf (ds : List DO) (an : Nat) : List Nat → List FSt
  | [] => []
  | i :: l => match ds[i]? with | some d => (match Nat.beq d.cl 1 && !bitB i an with | true => d.st :: readsOf ds an l | false => readsOf ds an l) | none => readsOf ds an l
/-- a store -/
def stX : FSt → Option X
  | .op none none (.st1 a _) => some a
  | .op none none (.stn _ a _) => some a
  | _ => none
/-- two stores at the end, in either order -/
def swQ (ds : List DO) (i : Nat) (p : List Nat) (l : List (Nat × List Nat)) : Option (Nat × X × X) := match p, l with
  | [], [(j, [])] => match ds[i]?, ds[j]? with
    | some d, some e => (match bitB i e.an, stX d.st, stX e.st with | false, some a, some b => some (j, a, b) | _, _, _ => none)
    | _, _ => none
  | _, _ => none
def nilL {α : Type} : List α → Bool | [] => true | _ => false
def aheadE (e : Option Nat) (a : Nat) : Bool := match e with | some e => bitB e a | none => true
def swOK (ds : List DO) (e : Option Nat) (was : List Nat) (done i j : Nat) : Bool := match ds[i]?, ds[j]? with
  | some c, some d => subB c.an done && !bitB i done && Nat.beq c.cl 3 && aheadE e c.an && (subB d.an done && !bitB j done && Nat.beq d.cl 3 && aheadE e d.an) && !Nat.beq i j && Nat.beq (Nat.lor (Nat.lor done (Nat.pow 2 i)) (Nat.pow 2 j)) (Nat.sub (Nat.pow 2 ds.length) 1) &&
      nilL (readsOf ds c.an was) && nilL (readsOf ds d.an was)
  | _, _ => false
def segOK (ds : List DO) : Option Nat → List Nat → List (Nat × List Nat) → Nat → Bool
  | _, _, [], done => Nat.beq done (Nat.sub (Nat.pow 2 ds.length) 1)
  | e, was, (i, p) :: l, done => match swQ ds i p l with
    | some (j, _, _) => swOK ds e was done i j
    | none => match ds[i]? with
      | some d => match subB d.an done && !bitB i done && Nat.beq d.cl 3 && aheadE e d.an with
        | true => match preOK ds (some i) p (Nat.lor done (Nat.pow 2 i)) with
          | some done => segOK ds (some i) (was ++ p) l done
          | none => false
        | false => false
      | none => false
def ordOK (ds : List DO) (p : List Nat) (l : List (Nat × List Nat)) : Bool := match preOK ds none p (freeB 0 ds) with
  | some done => segOK ds none p l done
  | none => false
def steps (ds : List DO) : List Nat → List FSt
  | [] => []
  | i :: l => match ds[i]? with | some d => d.st :: steps ds l | none => steps ds l
def mkSegs (ds : List DO) : List Nat → List (Nat × List Nat) → List FSeg
  | _, [] => []
  | was, (i, p) :: l => match swQ ds i p l with
    | some (j, a, b) => (match ds[i]?, ds[j]? with | some d, some e => [.sw d.st e.st a b] | _, _ => [])
    | none => match ds[i]? with
      | some d => .mk d.st (readsOf ds d.an was) (steps ds p) :: mkSegs ds (was ++ p) l
      | none => []
def dstsOf : List DO → List Pth
  | [] => []
  | d :: l => match d.o.dst with | some t => pth t :: dstsOf l | none => dstsOf l
def cDrw (T : TT) (g n : Nat) (ops : Array Oper) : FC :=
  let lit := litOf T ops.toList
  let ds := mkDO T g n ops lit 0 ops.toList (ancs ops.toList [])
  let effs := numsIf (fun d => Nat.beq d.cl 3) 0 ds
  let p := numsIf (fun d => !Nat.beq d.cl 3 && !Nat.beq d.cl 5 && Nat.beq (lvl d.an effs) 0) 0 ds
  let l := segsOf ds effs 0 effs
  match ordOK ds p l && dstsOK ds && edgesOK 0 ds && allSeeOK ds 0 ds && (!departs ds || gcOK ds (Region.linearise .gc ops 0) 0) && Nat.beq ds.length ops.size && litOK T ops lit ds with
  | true => .drw (freeD ds) (steps ds p) (mkSegs ds p l) (dstsOf ds)
  | false => .bad 270
def cCode (T : TT) (g n : Nat) : Code → FC
  | .skip => .skip
  | .region _ ops false => .reg (cSteps T g n ops ops.toList)
  | .region _ ops true => cDrw T g n ops
  | .seq a b => .seq (cCode T g n a) (cCode T g n b)
  | .cond c a b => match gB g c with | true => .cnd (cX c) (cCode T g n a) (cCode T g n b) | false => .bad 264
  | .block i a => .blk i (cCode T g n a)
  | .loop a => .lop (cCode T g n a)
  | .exit i => .ext i
  | .ret => .ret
  | .rangeFunc f ps a b => match gB g f && ps.toList.all (fun t => Nat.blt t n) with | true => .rf (cX f) (ps.toList.map pth) (cCode T g n a) (cCode T g n b) | false => .bad 265
  | _ => .bad 266
/-- A function: its code, its results: in a cell?, the slot, 0: one cell, else the cells. -/
inductive FI | mk (body : FC) (res : List (Bool × Pth × Nat))
def cRes (T : TT) : List ResultVar → Option (List (Bool × Pth × Nat))
  | [] => some []
  | .tmp t :: l => match cRes T l with | some r => some ((false, pth t, 0) :: r) | none => none
  | .cell a t :: l => match one? T t, siz T t, cRes T l with
    | some true, _, some r => some ((true, pth a, 0) :: r)
    | some false, some (n + 1), some r => some ((true, pth a, n + 1) :: r)
    | _, _, _ => none
def cFn (T : TT) (g : Nat) (f : Func) : FI := match f.body, cRes T f.results.toList with
  | some c, some r => .mk (cCode T g f.ntmps c) r
  | _, _ => .mk (.bad 267) []
end
end Go.Kx

/- Memory of the evaluator, and of the model; what an operation has to show. -/
namespace Go.Kx

/-- What a loop's block stands for: given from outside. -/
structure Lp where
  rel : Rho → Fr → List Pth → FC → FC → Option (Option Nat) → Obj → Prop
  mono : ∀ {ρ ρ' : Rho}, ρ.le ρ' → ∀ {fr ps a b pe o}, rel ρ fr ps a b pe o → rel ρ' fr ps a b pe o
  /-- an object that is never turned -/
  ro : Option (Nat × Obj)
  /-- what is known of the numbers that are not known -/
  S : (Nat → Int) → Prop
/-- each of one cell -/
def OC (c : Array Value) : Prop := ∀ (i : Nat) (v : Value), c[i]? = some v → v.oneCell' = true
def BkR (L : Lp) (ρ : Rho) (x : Nat × Nat × Nat) (k : Bk) (o : Obj) : Prop := match k with
  | .own cs => ∃ c e fz, o = .cells c e fz ∧ c.size = x.2.2 ∧ (∀ i, i < c.size → ¬(fz.1 ≤ i ∧ i < fz.2)) ∧
      (∀ p v, Tr.get p cs = some v → oneC v = true ∧ ∃ y, c[x.2.1 + p.num]? = some y ∧ VR ρ v y) ∧ OC c
  | .mp es => ∃ en clk, o = .map en clk ∧ MR ρ es en.toList
  | .lp fr ps a b pe => L.rel ρ fr ps a b pe o
  | .col => o = .deferred (some [])
  | .ro cs => ∃ c e fz, o = .cells c e fz ∧ c.size = x.2.2 ∧ ∀ p v, Tr.get p cs = some v → oneC v = true ∧ ∃ y, c[x.2.1 + p.num]? = some y ∧ VR ρ v y
theorem BkR.mono {L : Lp} {ρ ρ' : Rho} (h : ρ.le ρ') {x k o} (hk : BkR L ρ x k o) : BkR L ρ' x k o := by
  cases k with
  | own cs => obtain ⟨c, e, fz, ho, hs, hf, hc, hoc⟩ := hk; exact ⟨c, e, fz, ho, hs, hf, fun p v hv => let ⟨h1, y, hy, hr⟩ := hc p v hv; ⟨h1, y, hy, hr.mono h⟩, hoc⟩
  | mp es => obtain ⟨en, clk, ho, hm⟩ := hk; exact ⟨en, clk, ho, hm.mono h⟩
  | lp fr ps a b pe => exact L.mono h hk
  | col => exact hk
  | ro cs => obtain ⟨c, e, fz, ho, hs, hc⟩ := hk; exact ⟨c, e, fz, ho, hs, fun p v hv => let ⟨h1, y, hy, hr⟩ := hc p v hv; ⟨h1, y, hy, hr.mono h⟩⟩

structure HR (L : Lp) (ρ : Rho) (h : H) (w : World) : Prop where
  blk : ∀ b x k, ρ.blk b = some x → hget b h = some k → ∃ o, w.heap[x.1]? = some o ∧ BkR L ρ x k o
  inj : ∀ b b' x x', ρ.blk b = some x → ρ.blk b' = some x' → x.1 = x'.1 → hget b h ≠ none → hget b' h ≠ none → b = b'
  lt : ∀ b x, ρ.blk b = some x → x.1 < w.heap.size ∧ b.num < (hnx h).num
  wf : ∀ b, (hnx h).num ≤ b.num → hget b h = none
  ro : ∀ B o, L.ro = some (B, o) → w.heap[B]? = some o ∧ ∃ n t, ρ.blk (pth B) = some (B, 0, n) ∧ hget (pth B) h = some (.ro t)
  sy : L.S ρ.sy
theorem HR.ro_ne {L : Lp} {ρ : Rho} {h : H} {w : World} (hr : HR L ρ h w) {b x k} (hb : ρ.blk b = some x) (hk : hget b h = some k) (hro : ∀ t, k ≠ .ro t) {B o} (e : L.ro = some (B, o)) : pth B ≠ b ∧ x.1 ≠ B := by
  obtain ⟨_, n, t, q1, q2⟩ := hr.ro B o e
  have h1 : pth B ≠ b := fun e => by rw [e, hk] at q2; cases q2; exact hro t rfl
  exact ⟨h1, fun e => h1 (hr.inj _ _ _ _ q1 hb e.symm (by rw [q2]; simp) (by rw [hk]; simp))⟩
/-- From one state to a later one. -/
structure Ext (ρ : Rho) (h : H) (w : World) (ρ' : Rho) (h' : H) (w' : World) : Prop where
  le : ρ.le ρ'
  fresh : ∀ b x, ρ.blk b = none → ρ'.blk b = some x → (w.heap.size ≤ x.1 ∨ ∃ b0 x0, ρ.blk b0 = some x0 ∧ x0.1 = x.1) ∧ (hnx h).num ≤ b.num
  size : w.heap.size ≤ w'.heap.size
  keep : ∀ B, B < w.heap.size → (∀ b x, ρ.blk b = some x → x.1 ≠ B) → w'.heap[B]? = w.heap[B]?
  nx : (hnx h).num ≤ (hnx h').num
  akeep : ∀ b, b.num < (hnx h).num → ρ.blk b = none → hget b h' = hget b h
  os : w'.os = w.os
  out : w'.output = w.output
theorem Ext.refl (ρ : Rho) (h : H) (w : World) : Ext ρ h w ρ h w :=
  ⟨.refl ρ, fun b x e e' => (by rw [e] at e'; cases e'), Nat.le_refl _, fun _ _ _ => rfl, Nat.le_refl _, fun _ _ _ => rfl, rfl, rfl⟩
theorem Ext.trans {ρ ρ' ρ'' : Rho} {h h' h'' : H} {w w' w'' : World} (e : Ext ρ h w ρ' h' w') (f : Ext ρ' h' w' ρ'' h'' w'') : Ext ρ h w ρ'' h'' w'' where
  le := e.le.trans f.le
  fresh := fun b x hn hs => by
    cases hb : ρ'.blk b with
    | some y =>
      have := f.le.mono b y hb
      rw [hs] at this; cases this
      exact e.fresh b x hn hb
    | none =>
      obtain ⟨h1, h2⟩ := f.fresh b x hb hs
      refine ⟨?_, Nat.le_trans e.nx h2⟩
      rcases h1 with h1 | ⟨b0, x0, h0, hx⟩
      · exact .inl (Nat.le_trans e.size h1)
      · cases hc : ρ.blk b0 with
        | some y => have := e.le.mono b0 y hc; rw [h0] at this; cases this; exact .inr ⟨b0, x0, hc, hx⟩
        | none => rw [← hx]; exact (e.fresh b0 x0 hc h0).1
  size := Nat.le_trans e.size f.size
  keep := fun B hB hn => by
    rw [f.keep B (Nat.lt_of_lt_of_le hB e.size) fun b x hs hx => ?_, e.keep B hB hn]
    cases hb : ρ.blk b with
    | some y => have := e.le.mono b y hb; rw [hs] at this; cases this; exact hn b x hb hx
    | none =>
      rcases (e.fresh b x hb hs).1 with h1 | ⟨b0, x0, h0, h1⟩
      · omega
      · exact hn b0 x0 h0 (h1.trans hx)
  nx := Nat.le_trans e.nx f.nx
  akeep := fun b hb hn => by
    rw [f.akeep b (Nat.lt_of_lt_of_le hb e.nx) ?_, e.akeep b hb hn]
    cases hc : ρ'.blk b with
    | none => rfl
    | some x => have := (e.fresh b x hn hc).2; omega
  os := f.os.trans e.os
  out := f.out.trans e.out

theorem hget_hset_same (b : Pth) (k : Option Bk) (h : H) : hget b (hset b k h) = k := by cases h; exact Tr.get_set_same _ _ _
theorem hget_hset_ne {b c : Pth} (hn : c ≠ b) (k : Option Bk) (h : H) : hget c (hset b k h) = hget c h := by cases h; exact Tr.get_set_ne hn _ _
theorem hnx_hset (b : Pth) (k : Option Bk) (h : H) : hnx (hset b k h) = hnx h := by cases h; rfl
theorem hget_hput_same (k : Bk) (h : H) : hget (hnx h) (hput k h) = some k := by cases h; exact Tr.get_set_same _ _ _
theorem hget_hput_ne {c : Pth} {h : H} (hn : c ≠ hnx h) (k : Bk) : hget c (hput k h) = hget c h := by cases h; exact Tr.get_set_ne hn _ _
theorem hnx_hput (k : Bk) (h : H) : (hnx (hput k h)).num = (hnx h).num + 1 := by cases h; exact Pth.num_inc _

/-- A block is turned, in both. -/
theorem HR.upd {L : Lp} {ρ : Rho} {h : H} {w w' : World} (hr : HR L ρ h w) {b x k k' o'} (hb : ρ.blk b = some x) (hk : hget b h = some k)
    (ho : w'.heap[x.1]? = some o') (hR : BkR L ρ x k' o') (hoth : ∀ B, B ≠ x.1 → w'.heap[B]? = w.heap[B]?) (hsz : w'.heap.size = w.heap.size) (hro : ∀ t, k ≠ .ro t := by intro _ h; cases h) :
    HR L ρ (hset b (some k') h) w' where
  sy := hr.sy
  ro := fun B o e => by
    obtain ⟨h1, h2⟩ := hr.ro_ne hb hk hro e
    obtain ⟨q0, n, t, q1, q2⟩ := hr.ro B o e
    exact ⟨by rw [hoth B (Ne.symm h2)]; exact q0, n, t, q1, by rw [hget_hset_ne h1]; exact q2⟩
  blk := fun c y j hc hj => by
    by_cases hcb : c = b
    · subst hcb
      rw [hb] at hc; cases hc
      rw [hget_hset_same] at hj; cases hj
      exact ⟨o', ho, hR⟩
    · rw [hget_hset_ne hcb] at hj
      obtain ⟨o, h1, h2⟩ := hr.blk c y j hc hj
      refine ⟨o, ?_, h2⟩
      rw [hoth _ fun e => hcb (hr.inj c b y x hc hb e (by rw [hj]; simp) (by rw [hk]; simp))]
      exact h1
  inj := fun c c' y y' hc hc' e h1 h2 => by
    refine hr.inj c c' y y' hc hc' e ?_ ?_
    · by_cases hcb : c = b
      · subst hcb; rw [hk]; simp
      · rwa [hget_hset_ne hcb] at h1
    · by_cases hcb : c' = b
      · subst hcb; rw [hk]; simp
      · rwa [hget_hset_ne hcb] at h2
  lt := fun c y hc => by rw [hnx_hset, hsz]; exact hr.lt c y hc
  wf := fun c hc => by
    rw [hnx_hset] at hc
    rw [hget_hset_ne (fun e => by subst e; have := (hr.lt _ x hb).2; omega)]
    exact hr.wf c hc
theorem Ext.upd {ρ : Rho} {h : H} {w w' : World} {b x k'} (hb : ρ.blk b = some x)
    (hoth : ∀ B, B ≠ x.1 → w'.heap[B]? = w.heap[B]?) (hsz : w'.heap.size = w.heap.size) (hos : w'.os = w.os) (hout : w'.output = w.output) :
    Ext ρ h w ρ (hset b k' h) w' :=
  ⟨.refl ρ, fun c y e e' => (by rw [e] at e'; cases e'), by omega, fun B hB hn => hoth B fun e => hn b x hb e.symm, by rw [hnx_hset]; exact Nat.le_refl _,
    fun c hc hn => hget_hset_ne (fun e => by subst e; rw [hb] at hn; cases hn) _ _, hos, hout⟩
/-- A block is struck. -/
theorem HR.del {L : Lp} {ρ : Rho} {h : H} {w : World} (hr : HR L ρ h w) (b : Pth) (hro : ∀ t, hget b h ≠ some (.ro t)) : HR L ρ (hset b none h) w where
  sy := hr.sy
  ro := fun B o e => by
    obtain ⟨q0, n, t, q1, q2⟩ := hr.ro B o e
    exact ⟨q0, n, t, q1, by rw [hget_hset_ne (fun e => hro t (by rw [← e]; exact q2))]; exact q2⟩
  blk := fun c y j hc hj => by
    by_cases hcb : c = b
    · subst hcb; rw [hget_hset_same] at hj; cases hj
    · rw [hget_hset_ne hcb] at hj; exact hr.blk c y j hc hj
  inj := fun c c' y y' hc hc' e h1 h2 => by
    refine hr.inj c c' y y' hc hc' e ?_ ?_
    · by_cases hcb : c = b
      · subst hcb; rw [hget_hset_same] at h1; exact absurd rfl h1
      · rwa [hget_hset_ne hcb] at h1
    · by_cases hcb : c' = b
      · subst hcb; rw [hget_hset_same] at h2; exact absurd rfl h2
      · rwa [hget_hset_ne hcb] at h2
  lt := fun c y hc => by rw [hnx_hset]; exact hr.lt c y hc
  wf := fun c hc => by
    rw [hnx_hset] at hc
    by_cases hcb : c = b
    · subst hcb; exact hget_hset_same _ _ _
    · rw [hget_hset_ne hcb]; exact hr.wf c hc
/-- The world has more, or other blocks that nothing stands for. -/
theorem HR.world {L : Lp} {ρ : Rho} {h : H} {w w' : World} (hr : HR L ρ h w) (hsz : w.heap.size ≤ w'.heap.size)
    (hk : ∀ b x, ρ.blk b = some x → w'.heap[x.1]? = w.heap[x.1]?) : HR L ρ h w' where
  blk := fun b x k hb hg => by rw [hk b x hb]; exact hr.blk b x k hb hg
  inj := hr.inj
  lt := fun b x hb => ⟨Nat.lt_of_lt_of_le (hr.lt b x hb).1 hsz, (hr.lt b x hb).2⟩
  wf := hr.wf
  sy := hr.sy
  ro := fun B o e => by
    obtain ⟨q0, n, t, q1, q2⟩ := hr.ro B o e
    exact ⟨by rw [hk _ _ q1]; exact q0, n, t, q1, q2⟩
def Rho.put (ρ : Rho) (b : Pth) (x : Nat × Nat × Nat) : Rho := ⟨fun c => if c = b then some x else ρ.blk c, ρ.sy⟩
theorem Rho.put_same (ρ : Rho) (b : Pth) (x) : (ρ.put b x).blk b = some x := if_pos rfl
theorem Rho.put_ne (ρ : Rho) {b c : Pth} (x) (hn : c ≠ b) : (ρ.put b x).blk c = ρ.blk c := if_neg hn
theorem HR.fresh {L : Lp} {ρ : Rho} {h : H} {w : World} (hr : HR L ρ h w) : ρ.blk (hnx h) = none := by
  cases hc : ρ.blk (hnx h) with
  | none => rfl
  | some x => have := (hr.lt _ x hc).2; omega
theorem HR.le_put {L : Lp} {ρ : Rho} {h : H} {w : World} (hr : HR L ρ h w) (x) : ρ.le (ρ.put (hnx h) x) :=
  ⟨fun b y hb => by rw [Rho.put_ne _ _ (fun e => by subst e; rw [hr.fresh] at hb; cases hb)]; exact hb, rfl⟩
/-- A new block comes to stand for a place where none that lives stands for. -/
theorem HR.bind {L : Lp} {ρ : Rho} {h : H} {w : World} (hr : HR L ρ h w) {x k o} (hx : x.1 < w.heap.size) (ho : w.heap[x.1]? = some o)
    (hR : BkR L (ρ.put (hnx h) x) x k o) (hno : ∀ b y, ρ.blk b = some y → y.1 = x.1 → hget b h = none) : HR L (ρ.put (hnx h) x) (hput k h) w where
  sy := hr.sy
  ro := fun B o e => by
    obtain ⟨q0, n, t, q1, q2⟩ := hr.ro B o e
    have hne : pth B ≠ hnx h := fun e => by rw [e, hr.fresh] at q1; cases q1
    exact ⟨q0, n, t, by rw [Rho.put_ne _ _ hne]; exact q1, by rw [hget_hput_ne hne]; exact q2⟩
  blk := fun b y j hb hj => by
    by_cases hbn : b = hnx h
    · subst hbn
      rw [Rho.put_same] at hb; cases hb
      rw [hget_hput_same] at hj; cases hj
      exact ⟨o, ho, hR⟩
    · rw [Rho.put_ne _ _ hbn] at hb
      rw [hget_hput_ne hbn] at hj
      obtain ⟨o', h1, h2⟩ := hr.blk b y j hb hj
      exact ⟨o', h1, h2.mono (hr.le_put x)⟩
  inj := fun b b' y y' hb hb' e h1 h2 => by
    by_cases hbn : b = hnx h <;> by_cases hbn' : b' = hnx h
    · rw [hbn, hbn']
    · subst hbn
      rw [Rho.put_same] at hb; cases hb
      rw [Rho.put_ne _ _ hbn'] at hb'
      rw [hget_hput_ne hbn'] at h2
      exact absurd (hno b' y' hb' e.symm) h2
    · subst hbn'
      rw [Rho.put_same] at hb'; cases hb'
      rw [Rho.put_ne _ _ hbn] at hb
      rw [hget_hput_ne hbn] at h1
      exact absurd (hno b y hb e) h1
    · rw [Rho.put_ne _ _ hbn] at hb
      rw [Rho.put_ne _ _ hbn'] at hb'
      rw [hget_hput_ne hbn] at h1
      rw [hget_hput_ne hbn'] at h2
      exact hr.inj b b' y y' hb hb' e h1 h2
  lt := fun b y hb => by
    rw [hnx_hput]
    by_cases hbn : b = hnx h
    · subst hbn; rw [Rho.put_same] at hb; cases hb; exact ⟨hx, by omega⟩
    · rw [Rho.put_ne _ _ hbn] at hb; have := hr.lt b y hb; exact ⟨this.1, by omega⟩
  wf := fun b hb => by
    rw [hnx_hput] at hb
    rw [hget_hput_ne (fun e => by subst e; omega)]
    exact hr.wf b (by omega)
theorem Ext.bind {ρ : Rho} {h h1 : H} {w w1 : World} (e : Ext ρ h w ρ h1 w1) (hn : ρ.blk (hnx h1) = none) {x k}
    (hx : w.heap.size ≤ x.1 ∨ ∃ b0 x0, ρ.blk b0 = some x0 ∧ x0.1 = x.1) : Ext ρ h w (ρ.put (hnx h1) x) (hput k h1) w1 where
  le := ⟨fun b y hb => by rw [Rho.put_ne _ _ (fun e => by subst e; rw [hn] at hb; cases hb)]; exact hb, rfl⟩
  fresh := fun b y hb hb' => by
    by_cases hbn : b = hnx h1
    · subst hbn; rw [Rho.put_same] at hb'; cases hb'; exact ⟨hx, e.nx⟩
    · rw [Rho.put_ne _ _ hbn, hb] at hb'; cases hb'
  size := e.size
  keep := e.keep
  nx := by rw [hnx_hput]; have := e.nx; omega
  akeep := fun b hb hn' => by
    rw [hget_hput_ne fun e' => ?_, e.akeep b hb hn']
    subst e'; have := e.nx; omega
  os := e.os
  out := e.out
/-- A new block, a new object. -/
theorem HR.push {L : Lp} {ρ : Rho} {h : H} {w : World} (hr : HR L ρ h w) {n k o}
    (hR : BkR L (ρ.put (hnx h) (w.heap.size, 0, n)) (w.heap.size, 0, n) k o) :
    HR L (ρ.put (hnx h) (w.heap.size, 0, n)) (hput k h) { w with heap := w.heap.push o } := by
  refine HR.bind (hr.world (w' := { w with heap := w.heap.push o }) (by simp) fun b x hb => ?_) (by simp) (by simp) hR fun b y hb e => ?_
  · have := (hr.lt b x hb).1
    simp [Array.getElem?_push, Nat.ne_of_lt this]
  · have := (hr.lt b y hb).1
    exact absurd e (by simp; omega)
theorem Ext.push {L : Lp} {ρ : Rho} {h : H} {w : World} (hr : HR L ρ h w) {n k o} :
    Ext ρ h w (ρ.put (hnx h) (w.heap.size, 0, n)) (hput k h) { w with heap := w.heap.push o } := by
  refine Ext.bind (h1 := h) (x := (w.heap.size, 0, n)) (w := w) (w1 := { w with heap := w.heap.push o }) ⟨.refl ρ, fun b x e e' => ?_, by simp, fun B hB _ => ?_, Nat.le_refl _, fun _ _ _ => rfl, rfl, rfl⟩ hr.fresh (Or.inl (Nat.le_refl _))
  · rw [e] at e'; cases e'
  · simp [Array.getElem?_push, Nat.ne_of_lt hB]

/-! ### What an operation has to show -/
def VOK (L : Lp) (ρ : Rho) (h : H) (w : World) (res : Result Value) : AR → Prop
  | .val u h' => ∃ ρ' v w', res = .ok v w' ∧ Ext ρ h w ρ' h' w' ∧ VR ρ' u v ∧ HR L ρ' h' w'
  | .bad _ => True
  | _ => False
def UOK (L : Lp) (ρ : Rho) (h : H) (w : World) (res : Result Unit) : AR → Prop
  | .skip h' => ∃ ρ' w', res = .ok () w' ∧ Ext ρ h w ρ' h' w' ∧ HR L ρ' h' w'
  | .bad _ => True
  | _ => False
section
variable {Φ : AR → Prop} (hb : ∀ n, Φ (.bad n))
include hb
theorem g_optK {α : Type} {o : Option α} {n : Nat} {k : α → AR} (h : ∀ a, o = some a → Φ (k a)) : Φ (optK o (.bad n) k) := by
  cases o with
  | none => exact hb n
  | some a => exact h a rfl
theorem g_ifB {b : Bool} {n : Nat} {r : AR} (h : b = true → Φ r) : Φ (ifB b r (.bad n)) := by
  cases b with
  | false => exact hb n
  | true => exact h rfl
theorem g_onPtr {v : AV} {n : Nat} {k : Pth → Nat → AR} (h : ∀ b o, v = .ptr b o → Φ (k b o)) : Φ (onPtr v (.bad n) k) := by
  rcases onPtr_cases v (.bad n) k with ⟨b, o, e, e'⟩ | e' <;> rw [e']
  · exact h b o e
  · exact hb n
theorem g_onInt {v : AV} {n : Nat} {k : IntKind → Nat → AR} (h : ∀ j z, v = .int j z → Φ (k j z)) : Φ (onInt v (.bad n) k) := by
  rcases onInt_cases v (.bad n) k with ⟨b, o, e, e'⟩ | e' <;> rw [e']
  · exact h b o e
  · exact hb n
theorem g_onBool {v : AV} {n : Nat} {k : Bool → AR} (h : ∀ z, v = .bool z → Φ (k z)) : Φ (onBool v (.bad n) k) := by
  rcases onBool_cases v (.bad n) k with ⟨o, e, e'⟩ | e' <;> rw [e']
  · exact h o e
  · exact hb n
theorem g_onStr {v : AV} {n : Nat} {k : Nat → Nat → AR} (h : ∀ l z, v = .str l z → Φ (k l z)) : Φ (onStr v (.bad n) k) := by
  rcases onStr_cases v (.bad n) k with ⟨b, o, e, e'⟩ | e' <;> rw [e']
  · exact h b o e
  · exact hb n
theorem g_onSl {v : AV} {n : Nat} {r : AR} {k : Pth → Nat → Nat → Nat → Bool → Nat → AR} (h0 : v = .nils → Φ r) (h : ∀ b o l c x e, v = .sl b o l c x e → Φ (k b o l c x e)) : Φ (onSl v (.bad n) r k) := by
  rcases onSl_cases v (.bad n) r k with ⟨b, o, l, c, x, e, e1, e'⟩ | ⟨e1, e'⟩ | e' <;> rw [e']
  · exact h b o l c x e e1
  · exact h0 e1
  · exact hb n
theorem g_onCells {k : Option Bk} {n : Nat} {f : Tr AV → AR} (h : ∀ t, k = some (.own t) → Φ (f t)) : Φ (onCells k (.bad n) f) := by
  rcases onCells_cases k (.bad n) f with ⟨t, e, e'⟩ | e' <;> rw [e']
  · exact h t e
  · exact hb n
theorem g_onCellsR {k : Option Bk} {n : Nat} {f : Tr AV → AR} (h : ∀ t, (k = some (.own t) ∨ k = some (.ro t)) → Φ (f t)) : Φ (onCellsR k (.bad n) f) := by
  rcases onCellsR_cases k (.bad n) f with ⟨t, e, e'⟩ | e' <;> rw [e']
  · exact h t e
  · exact hb n
theorem g_onMap {k : Option Bk} {n : Nat} {f : List (AV × AV) → AR} (h : ∀ t, k = some (.mp t) → Φ (f t)) : Φ (onMap k (.bad n) f) := by
  rcases onMap_cases k (.bad n) f with ⟨t, e, e'⟩ | e' <;> rw [e']
  · exact h t e
  · exact hb n
theorem g_ev1 {x : X} {fr : Fr} {k : AV → AR} (h : ∀ a, ev x fr = some a → Φ (k a)) : Φ (ev1 x fr k) := g_optK hb h
theorem g_ev2 {x y : X} {fr : Fr} {k : AV → AV → AR} (h : ∀ a b, ev x fr = some a → ev y fr = some b → Φ (k a b)) : Φ (ev2 x y fr k) :=
  g_optK hb fun a ha => g_optK hb fun b hb' => h a b ha hb'
end
theorem g_if2 {Φ : AR → Prop} {b : Bool} {r s : AR} (h1 : b = true → Φ r) (h2 : b = false → Φ s) : Φ (ifB b r s) := by
  cases b with
  | false => exact h2 rfl
  | true => exact h1 rfl
theorem g_opt2 {Φ : AR → Prop} {α : Type} {o : Option α} {d : AR} {k : α → AR} (h0 : o = none → Φ d) (h : ∀ a, o = some a → Φ (k a)) : Φ (optK o d k) := by
  cases o with
  | none => exact h0 rfl
  | some a => exact h a rfl
theorem VOK.bad {L ρ h w res} (n : Nat) : VOK L ρ h w res (.bad n) := trivial
theorem UOK.bad {L ρ h w res} (n : Nat) : UOK L ρ h w res (.bad n) := trivial
/-- A value that leaves all as it was. -/
theorem VOK.pure {L : Lp} {ρ : Rho} {h : H} {w : World} (hr : HR L ρ h w) {u : AV} {v : Value} {res : Result Value} (e : res = .ok v w) (hv : VR ρ u v) : VOK L ρ h w res (.val u h) :=
  ⟨ρ, v, w, e, .refl _ _ _, hv, hr⟩
end Go.Kx

/- Rows of cells: read, and written. -/
namespace Go.Kx

theorem lenL_eq : ∀ l : List AV, lenL l = l.length
  | [] => rfl
  | _ :: l => congrArg Nat.succ (lenL_eq l)
theorem get_putL : ∀ (l : List AV) (o : Nat) (t : Tr AV) (p : Pth),
    Tr.get p (putL l o t) = if o ≤ p.num ∧ p.num < o + l.length then l[p.num - o]? else Tr.get p t
  | [], o, t, p => by rw [if_neg (by simp)]; rfl
  | v :: l, o, t, p => by
    show Tr.get p (putL l (o + 1) (Tr.set (pth o) (some v) t)) = _
    rw [get_putL l (o + 1)]
    by_cases hp : p = pth o
    · subst hp
      rw [pth_num, if_neg (by omega), Tr.get_set_same, if_pos (by simp)]; simp
    · have hn : p.num ≠ o := fun e => hp (by rw [← e, num_pth])
      rw [Tr.get_set_ne hp]
      by_cases h1 : o + 1 ≤ p.num ∧ p.num < o + 1 + l.length
      · rw [if_pos h1, if_pos (by simp; omega)]
        obtain ⟨k, hk⟩ : ∃ k, p.num - o = k + 1 := ⟨p.num - o - 1, by omega⟩
        rw [hk, List.getElem?_cons_succ, show p.num - (o + 1) = k by omega]
      · rw [if_neg h1, if_neg (by simp; omega)]
theorem takeL_spec : ∀ (n o : Nat) (t : Tr AV) (l : List AV), takeL n o t = some l → l.length = n ∧ ∀ i, i < n → Tr.get (pth (o + i)) t = l[i]?
  | 0, o, t, l, h => by
    have : some [] = some l := h
    cases this; exact ⟨rfl, fun i hi => by omega⟩
  | n + 1, o, t, l, h => by
    have h : optK (Tr.get (pth o) t) none (fun v => optK (takeL n (o + 1) t) none (fun l => some (v :: l))) = some l := h
    rcases optK_cases (Tr.get (pth o) t) none (fun v => optK (takeL n (o + 1) t) none (fun l => some (v :: l))) with ⟨v, hv, e⟩ | ⟨_, e⟩ <;> rw [e] at h
    · rcases optK_cases (takeL n (o + 1) t) none (fun l => some (v :: l)) with ⟨m, hm, e'⟩ | ⟨_, e'⟩ <;> rw [e'] at h
      · cases h
        obtain ⟨h1, h2⟩ := takeL_spec n (o + 1) t m hm
        refine ⟨by simp [h1], fun i hi => ?_⟩
        cases i with
        | zero => simpa using hv
        | succ i => rw [show o + (i + 1) = o + 1 + i by omega, h2 i (by omega)]; simp
      · cases h
    · cases h

section
variable {L : Lp} {ρ : Rho} {h : H} {w : World} {P : Program}
/-- A row that stands for one: its cells. -/
theorem HR.row (hr : HR L ρ h w) {b x t} (hb : ρ.blk b = some x) (ht : hget b h = some (.own t)) :
    ∃ c e fz, w.heap[x.1]? = some (.cells c e fz) ∧ c.size = x.2.2 ∧ (∀ i, i < c.size → ¬(fz.1 ≤ i ∧ i < fz.2)) ∧
      ∀ p v, Tr.get p t = some v → oneC v = true ∧ ∃ y, c[x.2.1 + p.num]? = some y ∧ VR ρ v y := by
  obtain ⟨o, h1, c, e, fz, rfl, h2, h3, h4, _⟩ := hr.blk b x _ hb ht
  exact ⟨c, e, fz, h1, h2, h3, h4⟩
theorem HR.rowOC (hr : HR L ρ h w) {b x t} (hb : ρ.blk b = some x) (ht : hget b h = some (.own t)) {c e fz} (h1 : w.heap[x.1]? = some (.cells c e fz)) : OC c := by
  obtain ⟨o, g1, c', e', fz', rfl, _, _, _, g5⟩ := hr.blk b x _ hb ht
  rw [h1] at g1; cases g1; exact g5
theorem OC.of_list {l : List Value} (h : ∀ v ∈ l, v.oneCell' = true) {c : Array Value} (e : c.toList = l) : OC c := fun i v hv => h v (by rw [← e]; exact List.mem_of_getElem? (by simpa using hv))
theorem one_of_VRs {cs : List AV} {vs : List Value} (hv : VRs ρ cs vs) (ho : cs.all oneC = true) : ∀ v ∈ vs, v.oneCell' = true := by
  induction cs generalizing vs with
  | nil => simp [VRs] at hv; subst hv; simp
  | cons a cs ih =>
    obtain ⟨v, l, rfl, hv1, hv2⟩ := hv
    simp at ho
    intro u hu
    rcases List.mem_cons.1 hu with rfl | hu
    · obtain ⟨q1, q2, _⟩ := hv1.one ho.1
      cases u <;> first | rfl | exact absurd rfl (q1 _) | exact absurd rfl (q2 _)
    · exact ih hv2 (by simpa using ho.2) u hu
theorem OC.of_VRs {cs : List AV} {c : Array Value} (hv : VRs ρ cs c.toList) (ho : cs.all oneC = true) : OC c := OC.of_list (one_of_VRs hv ho) rfl
theorem OC.app {a b : Array Value} (ha : OC a) (hb : OC b) : OC (a ++ b) := fun i v hv => by
  rw [Array.getElem?_append] at hv
  split at hv
  · exact ha i v hv
  · exact hb _ v hv
theorem OC.bytes (d : Array UInt8) (k : Nat) : OC ((d.map fun b : UInt8 => Value.int .u8 b.toNat) ++ Array.replicate k (Value.int .u8 0)) :=
  OC.app (fun i v hv => by
    rw [Array.getElem?_map] at hv
    cases hq : d[i]? with
    | none => rw [hq] at hv; cases hv
    | some u => rw [hq] at hv; cases hv; rfl) (fun i v hv => by
    rw [Array.getElem?_replicate] at hv
    split at hv
    · cases hv; rfl
    · cases hv)
theorem OC.zeros {z : Array Value} (hz : OC z) (n : Nat) : OC (Builtin.zeroCells z n) := fun i v hv => by
  unfold Builtin.zeroCells at hv
  rw [Array.getElem?_map] at hv
  cases hq : (Array.range (n * z.size))[i]? with
  | none => rw [hq] at hv; cases hv
  | some j =>
    rw [hq] at hv
    have hj : j < n * z.size := by
      have := Array.getElem?_eq_some_iff.1 hq
      obtain ⟨h1, h2⟩ := this
      simp at h1 h2; omega
    have hz0 : 0 < z.size := by rcases Nat.eq_zero_or_pos z.size with e | e
                                · rw [e] at hj; simp at hj
                                · exact e
    have hm : j % z.size < z.size := Nat.mod_lt _ hz0
    have hv : z[j % z.size]! = v := by simpa using hv
    rw [getElem!_pos z (j % z.size) hm] at hv
    exact hz (j % z.size) v (by rw [Array.getElem?_eq_getElem hm, hv])
/-- cells written over -/
theorem OC.turn {c c' : Array Value} {vs : List Value} {o : Nat} (hc : OC c) (hv : ∀ v ∈ vs, v.oneCell' = true) (hs : c'.size = c.size) (q3 : ∀ j, o ≤ j → j < o + vs.length → j < c.size → c'[j]? = vs[j - o]?) (q4 : ∀ j, ¬(o ≤ j ∧ j < o + vs.length) → c'[j]? = c[j]?) : OC c' := fun i v hv' => by
  by_cases h : o ≤ i ∧ i < o + vs.length
  · have hi : i < c'.size := (Array.getElem?_eq_some_iff.1 hv').1
    rw [q3 i h.1 h.2 (by omega)] at hv'
    exact hv v (List.mem_of_getElem? hv')
  · rw [q4 i h] at hv'; exact hc i v hv'
theorem HR.rowR (hr : HR L ρ h w) {b x t} (hb : ρ.blk b = some x) (ht : hget b h = some (.own t) ∨ hget b h = some (.ro t)) :
    ∃ c e fz, w.heap[x.1]? = some (.cells c e fz) ∧ c.size = x.2.2 ∧ ∀ p v, Tr.get p t = some v → oneC v = true ∧ ∃ y, c[x.2.1 + p.num]? = some y ∧ VR ρ v y := by
  rcases ht with ht | ht
  · obtain ⟨o, h1, c, e, fz, rfl, h2, _, h4, _⟩ := hr.blk b x _ hb ht
    exact ⟨c, e, fz, h1, h2, h4⟩
  · obtain ⟨o, h1, c, e, fz, rfl, h2, h4⟩ := hr.blk b x _ hb ht
    exact ⟨c, e, fz, h1, h2, h4⟩
theorem HR.cellR (hr : HR L ρ h w) {b x t} (hb : ρ.blk b = some x) (ht : hget b h = some (.own t) ∨ hget b h = some (.ro t)) {i : Nat} {v : AV} (hv : Tr.get (pth i) t = some v) :
    oneC v = true ∧ ∃ y, w.cell? ⟨x.1, x.2.1 + i, none⟩ = some y ∧ VR ρ v y := by
  obtain ⟨c, e, fz, h1, h2, h4⟩ := hr.rowR hb ht
  obtain ⟨ho, y, hy, hvr⟩ := h4 _ v hv
  rw [pth_num] at hy
  exact ⟨ho, y, by simp [World.cell?, h1, hy], hvr⟩
theorem HR.cell (hr : HR L ρ h w) {b x t} (hb : ρ.blk b = some x) (ht : hget b h = some (.own t)) {i : Nat} {v : AV} (hv : Tr.get (pth i) t = some v) :
    oneC v = true ∧ ∃ y, w.cell? ⟨x.1, x.2.1 + i, none⟩ = some y ∧ VR ρ v y := hr.cellR hb (.inl ht) hv
theorem add_addr (B o n : Nat) : (⟨B, o, none⟩ : Addr).add n = ⟨B, o + n, none⟩ := by unfold Addr.add; split <;> simp_all
theorem HR.cellsR (hr : HR L ρ h w) {b x t} (hb : ρ.blk b = some x) (ht : hget b h = some (.own t) ∨ hget b h = some (.ro t)) {n o : Nat} {l : List AV} (hl : takeL n o t = some l) :
    ∃ a : List Value, (∀ w', w'.heap = w.heap → (loadCells ⟨x.1, x.2.1 + o, none⟩ n).run P w' = .ok a.toArray w') ∧ VRs ρ l a ∧ l.all oneC = true ∧ a.length = n ∧ ∀ i y, a[i]? = some y → w.cell? ⟨x.1, x.2.1 + o + i, none⟩ = some y := by
  obtain ⟨h1, h2⟩ := takeL_spec n o t l hl
  have key : ∀ (m : List AV) (k : Nat), (∀ i v, m[i]? = some v → oneC v = true ∧ ∃ y, w.cell? ⟨x.1, x.2.1 + o + (k + i), none⟩ = some y ∧ VR ρ v y) →
      ∃ a : List Value, VRs ρ m a ∧ m.all oneC = true ∧ ∀ i y, a[i]? = some y → w.cell? ⟨x.1, x.2.1 + o + (k + i), none⟩ = some y := by
    intro m
    induction m with
    | nil => exact fun k _ => ⟨[], rfl, rfl, fun i y h => by simp at h⟩
    | cons v m ih =>
      intro k hk
      obtain ⟨ho, y, hy, hv⟩ := hk 0 v rfl
      obtain ⟨a, ha, hall, hc⟩ := ih (k + 1) (fun i u hu => by have := hk (i + 1) u (by simpa using hu); rwa [show k + (i + 1) = k + 1 + i by omega] at this)
      refine ⟨y :: a, ⟨y, a, rfl, hv, ha⟩, by simp [ho, hall], fun i z hz => ?_⟩
      cases i with
      | zero => simp at hz; subst hz; simpa using hy
      | succ i => rw [show k + (i + 1) = k + 1 + i by omega]; exact hc i z (by simpa using hz)
  obtain ⟨a, ha, hall, hc⟩ := key l 0 (fun i v hv => by
    have hi : i < n := by rw [← h1]; exact (List.getElem?_eq_some_iff.1 hv).1
    have := hr.cellR hb ht (i := o + i) (v := v) (by rw [h2 i hi]; exact hv)
    simpa [Nat.add_assoc] using this)
  have hlen : a.length = n := by rw [← ha.length, h1]
  refine ⟨a, fun w' hw' => ?_, ha, hall, hlen, fun i y hy => by simpa using hc i y hy⟩
  rw [← hlen]
  refine run_loadCells_list w' _ a fun j v hv => ?_
  rw [add_addr]
  have := hc j v hv
  simp only [World.cell?, hw', Nat.zero_add] at this ⊢
  exact this
theorem HR.cells (hr : HR L ρ h w) {b x t} (hb : ρ.blk b = some x) (ht : hget b h = some (.own t)) {n o : Nat} {l : List AV} (hl : takeL n o t = some l) :
    ∃ a : List Value, (∀ w', w'.heap = w.heap → (loadCells ⟨x.1, x.2.1 + o, none⟩ n).run P w' = .ok a.toArray w') ∧ VRs ρ l a ∧ l.all oneC = true ∧ a.length = n ∧ ∀ i y, a[i]? = some y → w.cell? ⟨x.1, x.2.1 + o + i, none⟩ = some y := hr.cellsR hb (.inl ht) hl
/-- What writing cells leaves. -/
theorem setCells_obj : ∀ (vs : List Value) (o : Nat) (w : World) (B : Nat) (c : Array Value) (e : TypeId) (fz : Nat × Nat), w.heap[B]? = some (.cells c e fz) →
    ∃ c', (w.setCells B o vs).heap[B]? = some (.cells c' e fz) ∧ c'.size = c.size ∧ (∀ j, o ≤ j → j < o + vs.length → j < c.size → c'[j]? = vs[j - o]?) ∧
      (∀ j, ¬(o ≤ j ∧ j < o + vs.length) → c'[j]? = c[j]?) ∧ (∀ B', B' ≠ B → (w.setCells B o vs).heap[B']? = w.heap[B']?) ∧ (w.setCells B o vs).heap.size = w.heap.size ∧
      (w.setCells B o vs).os = w.os ∧ (w.setCells B o vs).output = w.output
  | [], o, w, B, c, e, fz, h => ⟨c, h, rfl, fun j h1 h2 _ => by simp at h2; omega, fun _ _ => rfl, fun _ _ => rfl, rfl, rfl, rfl⟩
  | v :: vs, o, w, B, c, e, fz, h => by
    have hB : B < w.heap.size := (Array.getElem?_eq_some_iff.1 h).1
    have h' : (w.setCell ⟨B, o, none⟩ v).heap[B]? = some (.cells (c.setIfInBounds o v) e fz) := by
      simp [World.setCell, Array.getElem?_modify, h]
    obtain ⟨c', h1, h2, h3, h4, h5, h6, h7, h8⟩ := setCells_obj vs (o + 1) _ B _ e fz h'
    refine ⟨c', h1, by simpa using h2, fun j ja jb jc => ?_, fun j hj => ?_, fun B' hB' => ?_, ?_, h7, h8⟩
    · by_cases hj : j = o
      · subst hj
        rw [h4 j (by omega)]
        simp [jc]
      · rw [h3 j (by omega) (by simp at jb; omega) (by simpa using jc)]
        obtain ⟨k, hk⟩ : ∃ k, j - o = k + 1 := ⟨j - o - 1, by omega⟩
        rw [hk, List.getElem?_cons_succ, show j - (o + 1) = k by omega]
    · rw [h4 j (by simp at hj; omega)]
      rw [Array.getElem?_setIfInBounds_ne]
      simp at hj; omega
    · show ((w.setCell ⟨B, o, none⟩ v).setCells B (o + 1) vs).heap[B']? = _
      rw [h5 B' hB']
      have hB'' : B ≠ B' := fun e => hB' e.symm
      simp [World.setCell, Array.getElem?_modify, hB'']
    · show ((w.setCell ⟨B, o, none⟩ v).setCells B (o + 1) vs).heap.size = _
      rw [h6]; simp [World.setCell]
/-- Cells are written: into the row that stands for one. -/
theorem HR.write (hr : HR L ρ h w) {b x t} (hb : ρ.blk b = some x) (ht : hget b h = some (.own t)) {o : Nat} {cs : List AV} {vs : List Value} (hv : VRs ρ cs vs) (ho : cs.all oneC = true)
    (hfit : cs = [] ∨ x.2.1 + o + cs.length ≤ x.2.2) :
    ∃ w', (storeCells ⟨x.1, x.2.1 + o, none⟩ vs).run P w = .ok () w' ∧ HR L ρ (hset b (some (.own (putL cs o t))) h) w' ∧ Ext ρ h w ρ (hset b (some (.own (putL cs o t))) h) w' := by
  obtain ⟨c, e, fz, h1, h2, h3, h4⟩ := hr.row hb ht
  have hlen := hv.length
  have hfit' : ∀ j, j < vs.length → x.2.1 + o + j < c.size := by
    intro j hj
    rcases hfit with rfl | hf
    · simp [VRs] at hv; subst hv; simp at hj
    · rw [h2]; omega
  have hone := one_of_VRs hv ho
  have hrun := run_storeCells_cells (P := P) x.1 (x.2.1 + o) vs 0 w (fun j hj => by
      have := hfit' j hj
      simp [World.cell?, h1, Nat.add_zero]
      exact this) (fun j hj => by
      have := h3 _ (hfit' j hj)
      simp only [World.frozen?, h1, Nat.add_zero]
      simp; omega) hone
  rw [Nat.add_zero] at hrun
  obtain ⟨c', q1, q2, q3, q4, q5, q6, q7, q8⟩ := setCells_obj vs (x.2.1 + o) w x.1 c e fz h1
  refine ⟨_, hrun, hr.upd hb ht q1 ⟨c', e, fz, rfl, q2.trans h2, fun i hi => h3 i (by omega), fun p v hpv => ?_, (hr.rowOC hb ht h1).turn hone q2 q3 q4⟩ q5 q6, Ext.upd hb q5 q6 q7 q8⟩
  rw [get_putL] at hpv
  by_cases hp : o ≤ p.num ∧ p.num < o + cs.length
  · rw [if_pos hp] at hpv
    refine ⟨by have := List.all_eq_true.1 ho v (List.mem_of_getElem? hpv); exact this, ?_⟩
    obtain ⟨y, hy, hvy⟩ := hv.get _ hpv
    refine ⟨y, ?_, hvy⟩
    have hlt := hfit' (p.num - o) (by omega)
    rw [q3 _ (by omega) (by omega) (by omega), show x.2.1 + p.num - (x.2.1 + o) = p.num - o by omega]
    exact hy
  · rw [if_neg hp] at hpv
    obtain ⟨ho', y, hy, hvy⟩ := h4 p v hpv
    exact ⟨ho', y, by rw [q4 _ (by omega)]; exact hy, hvy⟩
/-- A new row of cells. -/
theorem HR.newRow (hr : HR L ρ h w) {cs : List AV} {c : Array Value} (hv : VRs ρ cs (c.toList.take cs.length)) (ho : cs.all oneC = true) (hoc : OC c) (e : TypeId) (fz : Nat × Nat) (hfz : fz.2 ≤ fz.1 ∨ c.size ≤ fz.1) :
    HR L (ρ.put (hnx h) (w.heap.size, 0, c.size)) (hput (.own (putL cs 0 .e)) h) { w with heap := w.heap.push (.cells c e fz) } ∧
    Ext ρ h w (ρ.put (hnx h) (w.heap.size, 0, c.size)) (hput (.own (putL cs 0 .e)) h) { w with heap := w.heap.push (.cells c e fz) } := by
  refine ⟨hr.push ⟨c, e, fz, rfl, rfl, fun i hi => by omega, fun p v hp => ?_, hoc⟩, Ext.push hr⟩
  rw [get_putL] at hp
  by_cases hq : 0 ≤ p.num ∧ p.num < 0 + cs.length
  · rw [if_pos hq] at hp
    have hp : cs[p.num]? = some v := by simpa using hp
    refine ⟨List.all_eq_true.1 ho v (List.mem_of_getElem? hp), ?_⟩
    obtain ⟨y, hy, hvy⟩ := hv.get _ hp
    refine ⟨y, ?_, hvy.mono (hr.le_put _)⟩
    rw [List.getElem?_take_of_lt (by omega)] at hy
    simpa using hy
  · rw [if_neg hq, Tr.get_e] at hp; cases hp
end
end Go.Kx

/- Each operation does in the model what it does in the evaluator. First part. -/
namespace Go.Kx

/-! ### Types -/
def TOK (T : TT) (P : Program) : Prop := ∀ t i, Tr.get (pth t) T = some i → P.info? t = some i
section types
variable {T : TT} {P : Program} (hT : TOK T P)
include hT
theorem und_ok {t d} (h : und T t = some d) : P.underlying t = some d := by
  unfold und ti at h
  cases hi : Tr.get (pth t) T with
  | none => rw [hi] at h; cases h
  | some i =>
    rw [hi] at h
    have h1 := hT t i hi
    unfold Program.underlying
    rw [h1]
    obtain ⟨desc, _, _, _, _, _, _, _, _, _⟩ := i
    cases desc <;> first
      | (simp only [] at h ⊢; rename_i nm u; cases hj : Tr.get (pth u) T with
          | none => rw [hj] at h; cases h
          | some j => rw [hj] at h; rw [hT u j hj]; simpa using h)
      | (simpa using h)
theorem siz_ok {t n} (h : siz T t = some n) (w : World) : (sizeOf t).run P w = .ok n w := by
  unfold siz ti at h
  cases hi : Tr.get (pth t) T with
  | none => rw [hi] at h; cases h
  | some i => rw [hi] at h; cases h; simp [sizeOf, typeInfo, hT t i hi]
theorem byt_ok {t n} (h : byt T t = some n) : ∃ i, P.info? t = some i ∧ i.bytes = n := by
  unfold byt ti at h
  cases hi : Tr.get (pth t) T with
  | none => rw [hi] at h; cases h
  | some i => rw [hi] at h; cases h; exact ⟨i, hT t i hi, rfl⟩
theorem one_ok {t b} (h : one? T t = some b) (w : World) : (isAgg t).run P w = .ok (!b) w := by
  unfold one? at h
  cases hd : und T t with
  | none => rw [hd] at h; cases h
  | some d =>
    rw [hd] at h
    have := und_ok hT hd
    cases d <;> simp only [] at h <;> cases h <;> simp [isAgg, run_underlying this]
end types

/-! ### Constants -/
mutual
theorem ofV_ok (ρ : Rho) : ∀ {v : Value} {a : AV}, ofV v = some a → VR ρ a v
  | .bool b, a, h => by simp only [ofV] at h; cases h; rfl
  | .int k n, a, h => by
    simp only [ofV] at h
    split at h
    · rename_i e; cases h; exact ⟨imgK_lt k n, by rw [e]⟩
    · cases h
  | .float k b, a, h => by simp only [ofV] at h; cases h; rfl
  | .complex k x y, a, h => by simp [ofV] at h
  | .string s, a, h => by simp only [ofV] at h; cases h; exact ⟨s, rfl, rfl, rfl⟩
  | .pointer none, a, h => by simp only [ofV] at h; cases h; rfl
  | .pointer (some p), a, h => by simp [ofV] at h
  | .slice none 0 0, a, h => by simp only [ofV] at h; cases h; rfl
  | .slice none 0 (n + 1), a, h => by simp [ofV] at h
  | .slice none (n + 1) c, a, h => by simp [ofV] at h
  | .slice (some p) n c, a, h => by simp [ofV] at h
  | .map none, a, h => by simp only [ofV] at h; cases h; rfl
  | .map (some p), a, h => by simp [ofV] at h
  | .chan r, a, h => by simp [ofV] at h
  | .func f x y, a, h => by
    unfold ofV at h
    split at h <;> first | (cases h; done) | skip
    all_goals (rename_i e; first | (cases e; cases h; exact ⟨_, _, rfl, rfl, rfl⟩) | (exact absurd e nofun) | skip)
  | .nilFunc, a, h => by simp only [ofV] at h; cases h; rfl
  | .iface t v, a, h => by simp [ofV] at h
  | .nilIface, a, h => by simp only [ofV] at h; cases h; rfl
  | .agg ⟨l⟩, a, h => by
    simp only [ofV] at h
    cases hl : ofVs l with
    | none => rw [hl] at h; cases h
    | some m =>
      rw [hl] at h; simp only [] at h
      split at h
      · rename_i e; cases h; exact ⟨_, rfl, ofVs_ok ρ hl, e⟩
      · cases h
  | .tuple ⟨l⟩, a, h => by
    simp only [ofV] at h
    cases hl : ofVs l with
    | none => rw [hl] at h; cases h
    | some m => rw [hl] at h; cases h; exact ⟨_, rfl, ofVs_ok ρ hl⟩
theorem ofVs_ok (ρ : Rho) : ∀ {l : List Value} {m : List AV}, ofVs l = some m → VRs ρ m l
  | [], m, h => by simp only [ofVs] at h; cases h; rfl
  | v :: l, m, h => by
    simp only [ofVs] at h
    cases hv : ofV v with
    | none => rw [hv] at h; cases h
    | some a =>
      cases hl : ofVs l with
      | none => rw [hv, hl] at h; cases h
      | some m' => rw [hv, hl] at h; cases h; exact ⟨v, l, rfl, ofV_ok ρ hv, ofVs_ok ρ hl⟩
end
/-- Globals stand for themselves. -/
def GR (ρ : Rho) (g : Nat) : Prop := ∀ i, i < g → ∃ n, ρ.blk (pth i) = some (i, 0, n)
theorem GR.mono {ρ ρ' : Rho} (h : ρ.le ρ') {g} (hg : GR ρ g) : GR ρ' g := fun i hi => let ⟨n, e⟩ := hg i hi; ⟨n, h.mono _ _ e⟩
/-- The globals that an operand names. -/
def gOK (g : Nat) : Operand → Prop | .global i => i < g | _ => True
theorem ev_c (v : AV) (fr : Fr) : ev (.c v) fr = some v := rfl
theorem ev_cX {ρ : Rho} {n g : Nat} {fr : Fr} {a : Act} (hf : FrR ρ n fr a.tmps) (hg : GR ρ g) (o : Operand) (ho : gOK g o) : EvR ρ fr (cX o) (a.eval o) := by
  intro u hu
  cases o with
  | tmp t =>
    obtain ⟨x, hx, hv⟩ := hf.slot (pth t) u hu
    rw [pth_num] at hx
    simpa [Act.eval, hx] using hv
  | const v =>
    show VR ρ u v
    unfold cX at hu
    simp only [] at hu
    cases hv : ofV v with
    | none => rw [hv] at hu; cases hu
    | some b => rw [hv] at hu; cases hu; exact ofV_ok ρ hv
  | global i =>
    obtain ⟨m, hm⟩ := hg i ho
    cases hu
    exact ⟨_, hm, rfl⟩
  | func f => cases hu; exact ⟨_, _, rfl, rfl, rfl⟩
theorem zv_ok {T : TT} {P : Program} (hT : TOK T P) (ρ : Rho) {t a} (h : zv T t = some a) (w : World) : ∃ v, (zeroValue t).run P w = .ok v w ∧ VR ρ a v := by
  unfold zv ti at h
  cases hi : Tr.get (pth t) T with
  | none => rw [hi] at h; cases h
  | some i =>
    rw [hi] at h; simp only [] at h
    cases hz : i.zero with
    | none => rw [hz] at h; cases h
    | some v => rw [hz] at h; exact ⟨v, by simp [zeroValue, typeInfo, hT t i hi, hz], ofV_ok ρ h⟩
theorem zc_ok {T : TT} {P : Program} (hT : TOK T P) (ρ : Rho) {t l} (h : zc T t = some l) (w : World) : ∃ v, (zeroValue t).run P w = .ok v w ∧ VRs ρ l v.cells.toList ∧ l.all oneC = true := by
  unfold zc at h
  cases hz : zv T t with
  | none => rw [hz] at h; cases h
  | some a =>
    rw [hz] at h; simp only [] at h
    split at h
    · rename_i hk; cases h
      obtain ⟨v, h1, h2⟩ := zv_ok hT ρ hz w
      exact ⟨v, h1, h2.cells hk⟩
    · cases h

/-! ### Operations on values alone -/
section ops
variable {L : Lp} {ρ : Rho} {h : H} {w : World} {P : Program} {fr : Fr} (hr : HR L ρ h w)
include hr
theorem s_mov {x v} (hx : EvR ρ fr x v) : VOK L ρ h w (.ok v w) (hMov x fr h) := g_optK (VOK.bad) fun a ha => .pure hr rfl (hx a ha)
theorem s_pick {c x y cv xv yv} (hc : EvR ρ fr c cv) (hx : EvR ρ fr x xv) (hy : EvR ρ fr y yv) :
    VOK L ρ h w ((do pure (if ← asBool cv then xv else yv) : Sem Value).run P w) (hPick c x y fr h) := by
  refine g_ev1 VOK.bad fun a ha => g_onBool VOK.bad fun t e => ?_
  subst e
  have := hc _ ha
  cases this
  cases t
  · simpa [asBool, ifB] using s_mov hr hy
  · simpa [asBool, ifB] using s_mov hr hx
theorem s_ld1 {t a av} (ho : (isAgg t).run P w = .ok false w) (ha : EvR ρ fr a av) : VOK L ρ h w ((Instr.loadAt t av).run P w) (hLd1 a fr h) := by
  refine g_ev1 VOK.bad fun u hu => g_onPtr VOK.bad fun b o e => g_onCellsR VOK.bad fun t' ht => g_optK VOK.bad fun v hv => ?_
  subst e
  obtain ⟨x, hb, rfl⟩ := ha _ hu
  obtain ⟨_, y, hy, hvy⟩ := hr.cellR hb ht hv
  refine .pure hr ?_ hvy
  simp [Instr.loadAt, Instr.sureAddr, loadVar, ho, hy]
theorem s_ldn {t n a av} (ho : (isAgg t).run P w = .ok true w) (hs : (sizeOf t).run P w = .ok n w) (ha : EvR ρ fr a av) : VOK L ρ h w ((Instr.loadAt t av).run P w) (hLdn n a fr h) := by
  refine g_ev1 VOK.bad fun u hu => g_onPtr VOK.bad fun b o e => g_onCellsR VOK.bad fun t' ht => g_optK VOK.bad fun l hl => ?_
  subst e
  obtain ⟨x, hb, rfl⟩ := ha _ hu
  obtain ⟨c, hc, hv, hall, _⟩ := hr.cellsR (P := P) hb ht hl
  refine .pure hr ?_ ⟨c.toArray, rfl, by simpa using hv, hall⟩
  simp [Instr.loadAt, Instr.sureAddr, loadVar, ho, hs, hc w rfl]
theorem s_st1 {t a x av xv} (hs : (sizeOf t).run P w = .ok 1 w) (ha : EvR ρ fr a av) (hx : EvR ρ fr x xv) : UOK L ρ h w ((Instr.storeAt t av xv).run P w) (hSt1 a x fr h) := by
  refine g_ev2 UOK.bad fun u v hu hv => g_onPtr UOK.bad fun b o e => g_onCells UOK.bad fun t' ht => g_optK UOK.bad fun old hold => g_ifB UOK.bad fun hone => ?_
  subst e
  obtain ⟨y, hb, rfl⟩ := ha _ hu
  have hv' := hx _ hv
  obtain ⟨q1, q2, q3⟩ := hv'.one hone
  obtain ⟨c, e, fz, r1, r2, r3, r4⟩ := hr.row hb ht
  obtain ⟨_, z, hz, _⟩ := r4 _ old hold
  rw [pth_num] at hz
  have hlt := (Array.getElem?_eq_some_iff.1 hz).1
  obtain ⟨w', s1, s2, s3⟩ := hr.write (P := P) hb ht (o := o) (cs := [v]) (vs := [xv]) ⟨_, _, rfl, hv', rfl⟩ (by simp [hone]) (.inr (by simp; omega))
  exact ⟨ρ, w', by simp [Instr.storeAt, Instr.sureAddr, storeVar, hs, q3, s1], s3, s2⟩
theorem s_stn {t n a x av xv} (hs : (sizeOf t).run P w = .ok n w) (ha : EvR ρ fr a av) (hx : EvR ρ fr x xv) : UOK L ρ h w ((Instr.storeAt t av xv).run P w) (hStn n a x fr h) := by
  refine g_ev2 UOK.bad fun u v hu hv => g_onPtr UOK.bad fun b o e => g_onCells UOK.bad fun t' ht => g_optK UOK.bad fun old hold => g_ifB UOK.bad fun hc => ?_
  subst e
  simp only [Bool.and_eq_true, Nat.beq_eq, lenL_eq, Nat.blt_eq] at hc
  obtain ⟨⟨hk, hl⟩, hn⟩ := hc
  obtain ⟨y, hb, rfl⟩ := ha _ hu
  have hv' := hx _ hv
  obtain ⟨q1, q2⟩ := hv'.cells hk
  obtain ⟨c, e, fz, r1, r2, r3, r4⟩ := hr.row hb ht
  obtain ⟨_, z, hz, _⟩ := r4 _ old hold
  rw [pth_num] at hz
  have hlt := (Array.getElem?_eq_some_iff.1 hz).1
  obtain ⟨w', s1, s2, s3⟩ := hr.write (P := P) hb ht (o := o) q1 q2 (.inr (by simp at hlt; omega))
  have hsz : xv.cells.size = n := by rw [← Array.length_toList, ← q1.length, hl]
  exact ⟨ρ, w', by simp [Instr.storeAt, Instr.sureAddr, storeVar, hs, hsz, s1], s3, s2⟩
theorem s_newRow {cs : List AV} {e : TypeId} {c : Array Value} (hv : VRs ρ cs c.toList) (ho : cs.all oneC = true) :
    VOK L ρ h w ((do pure (Value.pointer (some (← newRow e c))) : Sem Value).run P w) (newRowA cs h) := by
  obtain ⟨q1, q2⟩ := hr.newRow (c := c) (by rw [hv.length, List.take_length]; exact hv) ho (OC.of_VRs hv ho) e (0, 0) (.inl (Nat.le_refl _))
  refine ⟨_, _, _, by simp [newRow], q2, ⟨_, Rho.put_same _ _ _, rfl⟩, q1⟩
theorem s_box {t : TypeId} {l : List AV} {v : Value} (hz : (zeroValue t).run P w = .ok v w) (hv : VRs ρ l v.cells.toList) (ho : l.all oneC = true) :
    VOK L ρ h w ((Instr.alloc t true (.tuple #[])).run P w) (hBox l fr h) := by
  have := s_newRow (P := P) hr (e := t) hv ho
  show VOK L ρ h w _ (newRowA l h)
  simpa [Instr.alloc, hz, newVar] using this
theorem s_boxv {t : TypeId} {x : X} {xv : Value} (hx : EvR ρ fr x xv) : VOK L ρ h w ((Instr.box t xv).run P w) (hBoxv x fr h) := by
  refine g_ev1 VOK.bad fun u hu => g_ifB VOK.bad fun hk => ?_
  obtain ⟨q1, q2⟩ := (hx u hu).cells hk
  exact s_newRow hr q1 q2
theorem s_nilc {x xv} (hx : EvR ρ fr x xv) : VOK L ρ h w (.ok xv w) (hNilc x fr h) := by
  refine g_ev1 VOK.bad fun u hu => ?_
  rcases ifB_cases (isNil u) (AR.bad 32) (AR.val u h) with ⟨_, e⟩ | ⟨_, e⟩ <;> rw [e]
  · trivial
  · exact .pure hr rfl (hx u hu)
end ops
end Go.Kx

/- Operations: numbers, texts, truths, and what is made of values. -/
namespace Go.Kx

theorem toI_bit (k : IntKind) (a : Nat) (h : a < M k) : (BitVec.ofInt k.bits (toI k a)).toNat = a := by
  rw [BitVec.toNat_ofInt]
  have := toI_mod k a h
  have hm := M_eq k
  rw [show ((2 ^ k.bits : Nat) : Int) = (M k : Int) by rw [hm]; norm_cast, this]
  simp
theorem M_pow (k : IntKind) : M k = 2 ^ k.bits := by cases k <;> rfl
theorem wrap_nat (k : IntKind) (a : Nat) (h : a < M k) : k.wrap (a : Int) = toI k a := by
  rw [wrap_img]; congr 1
  cases k <;> simp only [imgK, M] at * <;> omega
theorem isSh_cases (op : BinOp) : (isSh (bk op) = 0 ∧ op ≠ .shl ∧ op ≠ .shr) ∨ (isSh (bk op) = 1 ∧ op = .shl) ∨ (isSh (bk op) = 2 ∧ op = .shr) := by
  cases op <;> simp [bk, isSh]
theorem shl_img (k : IntKind) (a b : Nat) (h : a < M k) : k.wrap (toI k a * 2 ^ (min b k.bits)) = toI k ((a * 2 ^ b) % M k) := by
  rw [wrap_img]; congr 1
  unfold imgK
  have h2 : (toI k a * 2 ^ (min b k.bits)) % (M k : Int) = ((a * 2 ^ (min b k.bits) % M k : Nat) : Int) := by
    rw [Int.mul_emod, toI_mod k a h]
    push_cast
    rw [Int.mul_emod (a : Int) (2 ^ min b k.bits)]
    rw [Int.emod_eq_of_lt (a := (a : Int)) (by omega) (by exact_mod_cast h)]
  rw [h2, Int.toNat_natCast]
  rcases Nat.le_total b k.bits with hb | hb
  · rw [Nat.min_eq_left hb]
  · rw [Nat.min_eq_right hb, M_pow]
    obtain ⟨c, rfl⟩ := Nat.exists_eq_add_of_le hb
    rw [Nat.mul_mod_left, Nat.pow_add, ← Nat.mul_assoc, Nat.mul_right_comm, Nat.mul_mod_left]
theorem shr_img (k : IntKind) (a b : Nat) (h : a < lim k) : (toI k a).fdiv (2 ^ (min b k.bits)) = toI k (a / 2 ^ b) := by
  have hlt : a / 2 ^ b < lim k := Nat.lt_of_le_of_lt (Nat.div_le_self _ _) h
  rw [toI_lt h, toI_lt hlt]
  have hm : a < 2 ^ k.bits := by rw [← M_pow]; exact Nat.lt_of_lt_of_le h (lim_le k)
  have : (a : Int).fdiv (2 ^ (min b k.bits)) = ((a / 2 ^ (min b k.bits) : Nat) : Int) := by
    have e : (2 : Int) ^ (min b k.bits) = ((2 ^ (min b k.bits) : Nat) : Int) := by norm_cast
    rw [e, Int.ofNat_fdiv]
  rw [this]
  rcases Nat.le_total b k.bits with hb | hb
  · rw [Nat.min_eq_left hb]
  · rw [Nat.min_eq_right hb, Nat.div_eq_of_lt hm, Nat.div_eq_of_lt (Nat.lt_of_lt_of_le hm (Nat.pow_le_pow_right (by omega) hb))]

section ops
variable {L : Lp} {ρ : Rho} {h : H} {w : World} {P : Program} {fr : Fr} (hr : HR L ρ h w)
include hr
theorem s_ib {op : BinOp} (hs : op ≠ .shl ∧ op ≠ .shr) {k : IntKind} {a b : Nat} (ha : a < M k) (hb : b < M k) (t : TypeId) :
    VOK L ρ h w ((binOp op t (.int k (toI k a)) (.int k (toI k b))).run P w) (ibin (bk op) k a b h) := by
  have iff1 : (toI k a == toI k b) = Nat.beq a b := by
    rw [Bool.eq_iff_iff]; simp
    exact ⟨fun e => toI_inj ha hb e, fun e => by rw [e]⟩
  cases op <;> simp only [bk, ibin, binOp, ne_eq, not_true_eq_false, reduceIte, Op.intArith, Op.intDiv, Op.intBits, Op.intCmp]
  case add => exact .pure hr rfl ⟨Nat.mod_lt _ (M_pos k), by rw [wrap_add k a b ha hb]; rfl⟩
  case sub => exact .pure hr rfl ⟨Nat.mod_lt _ (M_pos k), by rw [wrap_sub k a b ha hb]; rfl⟩
  case mul => exact .pure hr rfl ⟨Nat.mod_lt _ (M_pos k), by rw [wrap_mul k a b ha hb]; rfl⟩
  case quo =>
    unfold ibQuo
    rcases ifB_cases (Nat.beq b 0) (AR.bad 2) (AR.val (.int k (imgK k ((toI k a).tdiv (toI k b)))) h) with ⟨_, e⟩ | ⟨hz, e⟩ <;> rw [e]
    · trivial
    · have hz' : b ≠ 0 := by rintro rfl; simp at hz
      have hne : toI k b ≠ 0 := fun e => hz' (toI_inj hb (M_pos k) (by rw [e]; cases k <;> rfl))
      rw [if_neg hne]
      exact .pure hr rfl ⟨imgK_lt _ _, by rw [wrap_img]⟩
  case rem =>
    unfold ibRem
    rcases ifB_cases (Nat.beq b 0) (AR.bad 3) (ifB (decide (toI k (imgK k ((toI k a).tmod (toI k b))) = (toI k a).tmod (toI k b))) (.val (.int k (imgK k ((toI k a).tmod (toI k b)))) h) (.bad 3)) with ⟨_, e⟩ | ⟨hz, e⟩ <;> rw [e]
    · trivial
    · have hz' : b ≠ 0 := by rintro rfl; simp at hz
      have hne : toI k b ≠ 0 := fun e => hz' (toI_inj hb (M_pos k) (by rw [e]; cases k <;> rfl))
      rw [if_neg hne]
      refine g_ifB VOK.bad fun hd => ?_
      have hd := of_decide_eq_true hd
      exact .pure hr rfl ⟨imgK_lt _ _, by rw [hd]⟩
  case and =>
    have hlt : a &&& b < M k := Nat.lt_of_le_of_lt Nat.and_le_left ha
    refine .pure hr rfl ⟨hlt, ?_⟩
    rw [BitVec.toNat_and, toI_bit k a ha, toI_bit k b hb, wrap_nat k _ hlt]; rfl
  case or =>
    have hlt : a ||| b < M k := by rw [M_pow] at *; exact Nat.or_lt_two_pow ha hb
    refine .pure hr rfl ⟨hlt, ?_⟩
    rw [BitVec.toNat_or, toI_bit k a ha, toI_bit k b hb, wrap_nat k _ hlt]; rfl
  case xor =>
    have hlt : a ^^^ b < M k := by rw [M_pow] at *; exact Nat.xor_lt_two_pow ha hb
    refine .pure hr rfl ⟨hlt, ?_⟩
    rw [BitVec.toNat_xor, toI_bit k a ha, toI_bit k b hb, wrap_nat k _ hlt]; rfl
  case eql => exact .pure hr rfl (by show _ = _; rw [iff1])
  case neq => exact .pure hr rfl (by show _ = _; rw [bne, iff1])
  case lss => exact .pure hr rfl (by show Value.bool _ = Value.bool _; congr 1; rw [Bool.eq_iff_iff]; simp [sgn_lt k a b ha hb])
  case leq => exact .pure hr rfl (by show Value.bool _ = Value.bool _; congr 1; rw [Bool.eq_iff_iff]; have := sgn_lt k b a hb ha; simp; omega)
  case gtr => exact .pure hr rfl (by show Value.bool _ = Value.bool _; congr 1; rw [Bool.eq_iff_iff]; simp [sgn_lt k b a hb ha])
  case geq => exact .pure hr rfl (by show Value.bool _ = Value.bool _; congr 1; rw [Bool.eq_iff_iff]; have := sgn_lt k a b ha hb; simp; omega)
  all_goals first | exact trivial | simp_all
end ops
end Go.Kx

/- Operations: numbers, texts, truths, and what is made of values. Second part. -/
namespace Go.Kx

theorem eqGuard_ok {P : Program} {w : World} {op : BinOp} {t : TypeId} {x y : Operand} {a b : Value}
    (h : (a = .nilIface → b = .nilIface → isConstO x = true ∨ isConstO y = true) ∧ ¬(∃ c d, a = .agg c ∧ b = .agg d)) : (eqGuard op t x y a b).run P w = .ok () w := by
  obtain ⟨h1, h2⟩ := h
  cases op <;> first
    | rfl
    | (cases a <;> cases b <;> first
        | rfl
        | exact absurd ⟨_, _, rfl, rfl⟩ h2
        | (have h3 := h1 rfl rfl; cases x <;> cases y <;> first | rfl | (simp [isConstO] at h3)))
theorem equal_run {P : Program} {w : World} {t : TypeId} {a b : Value} {r : Bool} (h : ∀ d, (Op.equalIn (d + 1) t a b).run P w = .ok r w) : (Op.equal t a b).run P w = .ok r w := h 9999

theorem VR_int {ρ : Rho} {j z v} (h : VR ρ (.int j z) v) : z < M j ∧ v = .int j (toI j z) := h
section ops
variable {L : Lp} {ρ : Rho} {h : H} {w : World} {P : Program} {fr : Fr} (hr : HR L ρ h w)
include hr
omit hr in
theorem toS_ok {ρ : Rho} {a : AV} {s : SI} (e : toS a = some s) {v : Value} (hv : VR ρ a v) : v = .int .i64 (s.val ρ.sy) := by
  unfold toS at e
  split at e
  · cases e; exact hv
  · cases e; rw [cI_val]; exact hv.2
  · cases e
omit hr in
theorem wrap_in {n : Int} (h1 : -big62 < n) (h2 : n < big62) : IntKind.i64.wrap n = n := by
  unfold big62 at h1 h2
  simp [IntKind.wrap, IntKind.bits, IntKind.signed] <;> (repeat' split) <;> omega
theorem s_symV {s : SI} {res : Result Value} (he : (-big62 < s.val ρ.sy ∧ s.val ρ.sy < big62) → res = .ok (.int .i64 (s.val ρ.sy)) w) : VOK L ρ h w res (symV s h) := by
  refine g_ifB VOK.bad fun hq => .pure hr (he (SI.rng_val hq _)) rfl
theorem s_symC {ng : Bool} {s t : SI} {o : Option Bool} {res : Result Value} {p : Bool} (hp : s.ok = true → t.ok = true → ∀ r, o = some r → p = r) (he : res = .ok (.bool (p != ng)) w) : VOK L ρ h w res (symC ng s t o h) := by
  refine g_ifB VOK.bad fun hq => g_optK VOK.bad fun r hr' => ?_
  simp only [Bool.and_eq_true] at hq
  have := hp hq.1 hq.2 r hr'
  subst this
  exact .pure hr he rfl
theorem s_symB {op : BinOp} {t : TypeId} {xo yo : Operand} {a b : AV} {xv yv : Value} (hx : VR ρ a xv) (hy : VR ρ b yv) :
    VOK L ρ h w ((do eqGuard op t xo yo xv yv; binOp op t xv yv : Sem Value).run P w) (symB (bk op) a b h) := by
  unfold symB
  split
  case h_2 => exact trivial
  rename_i s u hs hu
  obtain rfl := toS_ok hs hx
  obtain rfl := toS_ok hu hy
  have hg := eqGuard_ok (P := P) (w := w) (op := op) (t := t) (x := xo) (y := yo) (a := .int .i64 (s.val ρ.sy)) (b := .int .i64 (u.val ρ.sy)) ⟨nofun, nofun⟩
  have e : (do eqGuard op t xo yo (.int .i64 (s.val ρ.sy)) (.int .i64 (u.val ρ.sy)); binOp op t (.int .i64 (s.val ρ.sy)) (.int .i64 (u.val ρ.sy)) : Sem Value).run P w = (binOp op t (.int .i64 (s.val ρ.sy)) (.int .i64 (u.val ρ.sy))).run P w := by
    simp [hg]
  rw [e]
  have heq : ((s.val ρ.sy) == (u.val ρ.sy)) = decide (s.val ρ.sy = u.val ρ.sy) := rfl
  cases op <;> first | exact trivial | skip
  case add =>
    refine g_optK VOK.bad fun r hr' => s_symV hr fun hb => ?_
    rw [SI.add_val hr'] at hb ⊢
    show Result.ok (Value.int .i64 (IntKind.i64.wrap (s.val ρ.sy + u.val ρ.sy))) w = _
    rw [wrap_in hb.1 hb.2]
  case sub =>
    refine g_optK VOK.bad fun r hr' => s_symV hr fun hb => ?_
    rw [SI.sub_val hr'] at hb ⊢
    show Result.ok (Value.int .i64 (IntKind.i64.wrap (s.val ρ.sy - u.val ρ.sy))) w = _
    rw [wrap_in hb.1 hb.2]
  case eql => exact s_symC hr (p := decide (s.val ρ.sy = u.val ρ.sy)) (fun h1 h2 r e => SI.eq_val h1 h2 e _) (by simp [binOp, Op.intCmp, Bool.beq_eq_decide_eq, heq] <;> rfl)
  case neq => exact s_symC hr (p := decide (s.val ρ.sy = u.val ρ.sy)) (fun h1 h2 r e => SI.eq_val h1 h2 e _) (by simp [binOp, Op.intCmp, bne, heq])
  case lss => exact s_symC hr (p := decide (s.val ρ.sy < u.val ρ.sy)) (fun h1 h2 r e => SI.lt_val h1 h2 e _) (by simp [binOp, Op.intCmp])
  case gtr => exact s_symC hr (p := decide (u.val ρ.sy < s.val ρ.sy)) (fun h1 h2 r e => SI.lt_val h1 h2 e _) (by simp [binOp, Op.intCmp])
  case leq =>
    refine s_symC hr (p := decide (u.val ρ.sy < s.val ρ.sy)) (fun h1 h2 r e => SI.lt_val h1 h2 e _) ?_
    have : decide (s.val ρ.sy ≤ u.val ρ.sy) = (decide (u.val ρ.sy < s.val ρ.sy) != true) := by
      by_cases hq : u.val ρ.sy < s.val ρ.sy
      · rw [decide_eq_true hq, decide_eq_false (by omega)]; rfl
      · rw [decide_eq_false hq, decide_eq_true (by omega)]; rfl
    rw [← this]; simp [binOp, Op.intCmp]
  case geq =>
    refine s_symC hr (p := decide (s.val ρ.sy < u.val ρ.sy)) (fun h1 h2 r e => SI.lt_val h1 h2 e _) ?_
    have : decide (u.val ρ.sy ≤ s.val ρ.sy) = (decide (s.val ρ.sy < u.val ρ.sy) != true) := by
      by_cases hq : s.val ρ.sy < u.val ρ.sy
      · rw [decide_eq_true hq, decide_eq_false (by omega)]; rfl
      · rw [decide_eq_false hq, decide_eq_true (by omega)]; rfl
    rw [← this]; simp [binOp, Op.intCmp]
theorem s_ibin {op : BinOp} {t : TypeId} {x y : X} {xo yo : Operand} {xv yv : Value} (hx : EvR ρ fr x xv) (hy : EvR ρ fr y yv) :
    VOK L ρ h w ((do eqGuard op t xo yo xv yv; binOp op t xv yv : Sem Value).run P w) (hIbin (bk op) x y fr h) := by
  refine g_ev2 VOK.bad fun a b ha hb => ?_
  have sym := s_symB (P := P) (w := w) (op := op) hr (t := t) (xo := xo) (yo := yo) (hx _ ha) (hy _ hb)
  rcases onInt_cases a (symB (bk op) a b h) (fun j za => onInt b (symB (bk op) a b h) (fun k zb => Nat.casesOn (motive := fun _ => AR) (isSh (bk op)) (ifB (Nat.beq (kno j) (kno k)) (ibin (bk op) j za zb h) (.bad 35)) (fun s => ifB (Nat.blt zb (lim k)) (Nat.casesOn (motive := fun _ => AR) s (ishl j za zb h) (fun _ => ishr j za zb h)) (.bad 36)))) with ⟨j, za, ea, e'⟩ | e' <;> rw [e']
  case inr => exact sym
  rcases onInt_cases b (symB (bk op) a b h) (fun k zb => Nat.casesOn (motive := fun _ => AR) (isSh (bk op)) (ifB (Nat.beq (kno j) (kno k)) (ibin (bk op) j za zb h) (.bad 35)) (fun s => ifB (Nat.blt zb (lim k)) (Nat.casesOn (motive := fun _ => AR) s (ishl j za zb h) (fun _ => ishr j za zb h)) (.bad 36))) with ⟨k, zb, eb, e'⟩ | e' <;> rw [e']
  case inr => exact sym
  subst ea eb
  obtain ⟨hza, rfl⟩ := VR_int (hx _ ha)
  obtain ⟨hzb, rfl⟩ := VR_int (hy _ hb)
  have hg := eqGuard_ok (P := P) (w := w) (op := op) (t := t) (x := xo) (y := yo) (a := .int j (toI j za)) (b := .int k (toI k zb)) ⟨nofun, nofun⟩
  have e : (do eqGuard op t xo yo (.int j (toI j za)) (.int k (toI k zb)); binOp op t (.int j (toI j za)) (.int k (toI k zb)) : Sem Value).run P w = (binOp op t (.int j (toI j za)) (.int k (toI k zb))).run P w := by
    simp [hg]
  rw [e]
  rcases isSh_cases op with ⟨e0, hs⟩ | ⟨e0, rfl⟩ | ⟨e0, rfl⟩ <;> rw [e0]
  · show VOK L ρ h w _ (ifB (Nat.beq (kno j) (kno k)) (ibin (bk op) j za zb h) (.bad 35))
    refine g_ifB VOK.bad fun hk => ?_
    obtain rfl := kno_inj (Nat.eq_of_beq_eq_true hk)
    exact s_ib hr hs hza hzb t
  · show VOK L ρ h w _ (ifB (Nat.blt zb (lim k)) (ishl j za zb h) (.bad 36))
    refine g_ifB VOK.bad fun hk => g_ifB VOK.bad fun hb64 => ?_
    have hk : zb < lim k := Nat.le_of_ble_eq_true hk
    rw [toI_lt hk]
    refine .pure hr (v := .int j (toI j ((za * 2 ^ zb) % M j))) ?_ ⟨Nat.mod_lt _ (M_pos j), rfl⟩
    have hn : ¬ ((zb : Int) < 0) := by omega
    simp only [binOp, Op.shift, if_neg hn, Int.toNat_natCast]
    rw [shl_img j za zb hza]; rfl
  · show VOK L ρ h w _ (ifB (Nat.blt zb (lim k)) (ishr j za zb h) (.bad 36))
    refine g_ifB VOK.bad fun hk => g_ifB VOK.bad fun hc => ?_
    have hk : zb < lim k := Nat.le_of_ble_eq_true hk
    simp only [Bool.and_eq_true] at hc
    have hl : za < lim j := Nat.le_of_ble_eq_true hc.1
    rw [toI_lt hk]
    refine .pure hr (v := .int j (toI j (za / 2 ^ zb))) ?_ ⟨Nat.lt_of_le_of_lt (Nat.div_le_self _ _) hza, rfl⟩
    have hn : ¬ ((zb : Int) < 0) := by omega
    simp only [binOp, Op.shift, if_neg hn, Int.toNat_natCast]
    rw [shr_img j za zb hl]; rfl
omit hr in
theorem VR_str {ρ : Rho} {l z v} (h : VR ρ (.str l z) v) : ∃ s : ByteArray, v = .string s ∧ s.data.toList.length = l ∧ strNat s.data.toList = z := h
omit hr in
theorem str_eq {s t : ByteArray} : (s.toList == t.toList) = (Nat.beq s.data.toList.length t.data.toList.length && Nat.beq (strNat s.data.toList) (strNat t.data.toList)) := by
  rw [Lib.toList_data, Lib.toList_data, Bool.eq_iff_iff]
  simp only [beq_iff_eq, Bool.and_eq_true, Nat.beq_eq]
  exact ⟨fun e => by rw [e]; exact ⟨rfl, rfl⟩, fun ⟨a, b⟩ => strNat_inj a b⟩
omit hr in
theorem sLess_ok : ∀ (a b : List UInt8), sLess a.length (strNat a) b.length (strNat b) = Op.bytesLess a b
  | [], [] => rfl
  | _ :: _, [] => by simp [sLess, Op.bytesLess]
  | [], _ :: _ => by simp [sLess, Op.bytesLess]
  | a :: l, b :: m => by
    have ha : a.toNat < 256 := a.toNat_lt
    have hb : b.toNat < 256 := b.toNat_lt
    have e1 : Nat.mod (strNat (a :: l)) 256 = a.toNat := by show (a.toNat + 256 * strNat l) % 256 = _; omega
    have e2 : Nat.mod (strNat (b :: m)) 256 = b.toNat := by show (b.toNat + 256 * strNat m) % 256 = _; omega
    have e3 : Nat.div (strNat (a :: l)) 256 = strNat l := by show (a.toNat + 256 * strNat l) / 256 = _; omega
    have e4 : Nat.div (strNat (b :: m)) 256 = strNat m := by show (b.toNat + 256 * strNat m) / 256 = _; omega
    simp only [List.length_cons, sLess, Op.bytesLess, e1, e2, e3, e4, sLess_ok l m]
    have q1 : Nat.blt a.toNat b.toNat = decide (a < b) := by rw [Bool.eq_iff_iff]; simp [Nat.blt_eq, UInt8.lt_iff_toNat_lt]
    have q2 : Nat.beq a.toNat b.toNat = (a == b) := by rw [Bool.eq_iff_iff]; simp [UInt8.toNat_inj]
    rw [q1, q2]
    cases decide (a < b) <;> cases (a == b) <;> simp [ifB]
theorem s_sb {op : BinOp} {t : TypeId} {a b : ByteArray} :
    VOK L ρ h w ((binOp op t (.string a) (.string b)).run P w) (sbin (bk op) a.data.toList.length (strNat a.data.toList) b.data.toList.length (strNat b.data.toList) h) := by
  have he := @str_eq a b
  have l1 := sLess_ok a.data.toList b.data.toList
  have l2 := sLess_ok b.data.toList a.data.toList
  have tri : (Op.bytesLess a.data.toList b.data.toList || a.data.toList == b.data.toList) = !Op.bytesLess b.data.toList a.data.toList := by
    generalize a.data.toList = x
    generalize b.data.toList = y
    induction x generalizing y with
    | nil => cases y <;> simp [Op.bytesLess]
    | cons c x ih =>
      cases y with
      | nil => simp [Op.bytesLess]
      | cons d y =>
        have := ih y
        simp only [Op.bytesLess]
        rcases Nat.lt_trichotomy c.toNat d.toNat with q | q | q
        · have h1 : c < d := q
          have h2 : ¬ d < c := by rw [UInt8.lt_iff_toNat_lt]; omega
          have h3 : (d == c) = false := by simp; intro e; subst e; omega
          simp [h1, h2, h3]
        · obtain rfl := UInt8.toNat_inj.1 q
          simp only [UInt8.lt_irrefl, decide_false, Bool.false_or, beq_self_eq_true, Bool.true_and]
          rw [← this]
          simp
        · have h1 : ¬ c < d := by rw [UInt8.lt_iff_toNat_lt]; omega
          have h2 : d < c := q
          have h3 : (c == d) = false := by simp; intro e; subst e; omega
          have h4 : ¬ (c = d) := by simpa using h3
          simp [h1, h2, h3, h4]
  have tri2 : (Op.bytesLess a.toList b.toList || a.toList == b.toList) = !Op.bytesLess b.toList a.toList := by simpa [Lib.toList_data] using tri
  cases op <;> simp only [bk, sbin, binOp, Op.stringOp, sAdd, sEql, sNeq, sLss, sLeq, sGtr, sGeq, sNo]
  case add =>
    refine g_ifB VOK.bad fun hl => ?_
    have hl : a.data.toList.length + b.data.toList.length < big := Nat.le_of_ble_eq_true hl
    have hl' : a.size + b.size < big := hl
    have : ¬ (((a.size + b.size : Nat) : Int) > IntKind.i64.max) := by
      have : IntKind.i64.max = 9223372036854775807 := rfl
      unfold big at hl'
      omega
    rw [if_neg this]
    refine .pure hr rfl ⟨a ++ b, rfl, ?_, ?_⟩
    · simp
    · have : (a ++ b).data.toList = a.data.toList ++ b.data.toList := by simp
      rw [this, strNat_append]; rfl
  case eql => exact .pure hr rfl (by show Value.bool _ = _; rw [he])
  case neq => exact .pure hr rfl (by show Value.bool _ = _; rw [he])
  case lss => exact .pure hr rfl (by show Value.bool _ = _; rw [l1, Lib.toList_data, Lib.toList_data])
  case leq => exact .pure hr rfl (by show Value.bool _ = Value.bool (Bool.not _); rw [l2, tri2, Lib.toList_data, Lib.toList_data])
  case gtr => exact .pure hr rfl (by show Value.bool _ = Value.bool _; rw [l2, tri2, Bool.not_not, Lib.toList_data, Lib.toList_data])
  case geq => exact .pure hr rfl (by show Value.bool _ = Value.bool (Bool.not _); rw [l1, Lib.toList_data, Lib.toList_data])
  all_goals trivial
theorem s_sbin {op : BinOp} {t : TypeId} {x y : X} {xo yo : Operand} {xv yv : Value} (hx : EvR ρ fr x xv) (hy : EvR ρ fr y yv) :
    VOK L ρ h w ((do eqGuard op t xo yo xv yv; binOp op t xv yv : Sem Value).run P w) (hSbin (bk op) x y fr h) := by
  refine g_ev2 VOK.bad fun a b ha hb => g_onStr VOK.bad fun j za ea => g_onStr VOK.bad fun k zb eb => ?_
  subst ea eb
  obtain ⟨s, rfl, rfl, rfl⟩ := VR_str (hx _ ha)
  obtain ⟨u, rfl, rfl, rfl⟩ := VR_str (hy _ hb)
  have hg := eqGuard_ok (P := P) (w := w) (op := op) (t := t) (x := xo) (y := yo) (a := .string s) (b := .string u) ⟨nofun, nofun⟩
  have e : (do eqGuard op t xo yo (.string s) (.string u); binOp op t (.string s) (.string u) : Sem Value).run P w = (binOp op t (.string s) (.string u)).run P w := by
    simp [hg]
  rw [e]
  exact s_sb hr
theorem s_bbin {op : BinOp} {ng : Bool} (ho : isEqOp op = some ng) {t : TypeId} (hd : P.underlying t = some .bool) {x y : X} {xo yo : Operand} {xv yv : Value} (hx : EvR ρ fr x xv) (hy : EvR ρ fr y yv) :
    VOK L ρ h w ((do eqGuard op t xo yo xv yv; binOp op t xv yv : Sem Value).run P w) (hBbin ng x y fr h) := by
  refine g_ev2 VOK.bad fun a b ha hb => g_onBool VOK.bad fun za ea => g_onBool VOK.bad fun zb eb => ?_
  subst ea eb
  obtain rfl : xv = .bool za := hx _ ha
  obtain rfl : yv = .bool zb := hy _ hb
  have hg := eqGuard_ok (P := P) (w := w) (op := op) (t := t) (x := xo) (y := yo) (a := .bool za) (b := .bool zb) ⟨nofun, nofun⟩
  refine .pure hr (v := .bool (Bool.xor ng (za == zb))) ?_ rfl
  have hq : (Op.equal t (.bool za) (.bool zb)).run P w = .ok (za == zb) w := equal_run fun d => by simp [Op.equalIn, run_underlying hd]
  have e1 : binOp .eql t (.bool za) (.bool zb) = (do pure (Value.bool (← Op.equal t (.bool za) (.bool zb)))) := rfl
  have e2 : binOp .neq t (.bool za) (.bool zb) = (do pure (Value.bool (!(← Op.equal t (.bool za) (.bool zb))))) := rfl
  cases op <;> simp [isEqOp] at ho <;> subst ho <;> simp only [Sem.run_bind, hg, e1, e2, Result.andThen_ok, hq, Sem.run_pure, Bool.false_xor, Bool.true_xor]
/-- What the two sides of a == may be, and what the model says of them. -/
theorem s_eq {op : BinOp} {ng : Bool} (ho : isEqOp op = some ng) {kd : Nat} {t : TypeId} {d : TypeDesc} (hd : P.underlying t = some d)
    (k0 : kd = 0 → ∃ e n, d = .pointer e ∧ ∀ w, (sizeOf e).run P w = .ok (n + 1) w) (k1 : kd = 1 → ∃ m, d = .interface m) (k2 : kd = 2 → ∃ e, d = .slice e) (k3 : kd = 3 → ∃ a b, d = .map a b) (k4 : kd = 4 → ∃ a b c, d = .func a b c)
    {x y : X} {xo yo : Operand} (hc : kd = 1 → isConstO xo = true ∨ isConstO yo = true) {xv yv : Value} (hx : EvR ρ fr x xv) (hy : EvR ρ fr y yv) :
    VOK L ρ h w ((do eqGuard op t xo yo xv yv; binOp op t xv yv : Sem Value).run P w) (hEq ng kd x y fr h) := by
  refine g_ev2 VOK.bad fun a b ha hb => g_optK VOK.bad fun r hrr => ?_
  have hva := hx _ ha
  have hvb := hy _ hb
  have key : (eqGuard op t xo yo xv yv).run P w = .ok () w ∧ (Op.equal t xv yv).run P w = .ok r w ∧ binOp .eql t xv yv = (do pure (Value.bool (← Op.equal t xv yv))) ∧ binOp .neq t xv yv = (do pure (Value.bool (!(← Op.equal t xv yv)))) := by
    unfold eqN at hrr
    split at hrr
    · obtain ⟨e, n, rfl, hs⟩ := k0 rfl
      obtain rfl : xv = .pointer none := hva
      obtain rfl : yv = .pointer none := hvb
      cases hrr
      exact ⟨eqGuard_ok ⟨nofun, nofun⟩, equal_run fun d => by simp [Op.equalIn, run_underlying hd], rfl, rfl⟩
    · obtain ⟨e, n, rfl, hs⟩ := k0 rfl
      obtain rfl : xv = .pointer none := hva
      obtain ⟨y1, h1, rfl⟩ := hvb
      cases hrr
      exact ⟨eqGuard_ok ⟨nofun, nofun⟩, equal_run fun d => by simp [Op.equalIn, run_underlying hd], rfl, rfl⟩
    · obtain ⟨e, n, rfl, hs⟩ := k0 rfl
      obtain ⟨y1, h1, rfl⟩ := hva
      obtain rfl : yv = .pointer none := hvb
      cases hrr
      exact ⟨eqGuard_ok ⟨nofun, nofun⟩, equal_run fun d => by simp [Op.equalIn, run_underlying hd], rfl, rfl⟩
    · rename_i p o q u
      obtain ⟨e, n, rfl, hs⟩ := k0 rfl
      obtain ⟨y1, h1, rfl⟩ := hva
      obtain ⟨y2, h2, rfl⟩ := hvb
      split at hrr
      · rename_i hpq
        obtain rfl := Pth.same_iff.1 hpq
        rw [h1] at h2; cases h2
        cases hrr
        have hq : (({ block := y1.1, off := y1.2.1 + o } : Addr) == ({ block := y1.1, off := y1.2.1 + u } : Addr)) = Nat.beq o u := by
          rw [Bool.eq_iff_iff]; simp
        exact ⟨eqGuard_ok ⟨nofun, nofun⟩, equal_run fun d => by simp [Op.equalIn, run_underlying hd, hs, sameAddr, hq], rfl, rfl⟩
      · cases hrr
    · obtain ⟨m, rfl⟩ := k1 rfl
      obtain rfl : xv = .nilIface := hva
      obtain rfl : yv = .nilIface := hvb
      cases hrr
      exact ⟨eqGuard_ok ⟨fun _ _ => hc rfl, nofun⟩, equal_run fun d => by simp [Op.equalIn, run_underlying hd], rfl, rfl⟩
    · obtain ⟨m, rfl⟩ := k1 rfl
      obtain rfl : xv = .nilIface := hva
      obtain ⟨y1, rfl, h1⟩ := hvb
      cases hrr
      exact ⟨eqGuard_ok ⟨nofun, nofun⟩, equal_run fun d => by simp [Op.equalIn, run_underlying hd], rfl, rfl⟩
    · obtain ⟨m, rfl⟩ := k1 rfl
      obtain ⟨y1, rfl, h1⟩ := hva
      obtain rfl : yv = .nilIface := hvb
      cases hrr
      exact ⟨eqGuard_ok ⟨nofun, nofun⟩, equal_run fun d => by simp [Op.equalIn, run_underlying hd], rfl, rfl⟩
    · obtain ⟨m, rfl⟩ := k2 rfl
      obtain rfl : xv = .slice none 0 0 := hva
      obtain rfl : yv = .slice none 0 0 := hvb
      cases hrr
      exact ⟨eqGuard_ok ⟨nofun, nofun⟩, equal_run fun d => by simp [Op.equalIn, run_underlying hd], rfl, rfl⟩
    · obtain ⟨m, rfl⟩ := k2 rfl
      obtain rfl : xv = .slice none 0 0 := hva
      obtain ⟨y1, o1, c1, h1, rfl, _⟩ := hvb
      cases hrr
      exact ⟨eqGuard_ok ⟨nofun, nofun⟩, equal_run fun d => by simp [Op.equalIn, run_underlying hd], rfl, rfl⟩
    · obtain ⟨m, rfl⟩ := k2 rfl
      obtain ⟨y1, o1, c1, h1, rfl, _⟩ := hva
      obtain rfl : yv = .slice none 0 0 := hvb
      cases hrr
      exact ⟨eqGuard_ok ⟨nofun, nofun⟩, equal_run fun d => by simp [Op.equalIn, run_underlying hd], rfl, rfl⟩
    · obtain ⟨m, n, rfl⟩ := k3 rfl
      obtain rfl : xv = .map none := hva
      obtain rfl : yv = .map none := hvb
      cases hrr
      exact ⟨eqGuard_ok ⟨nofun, nofun⟩, equal_run fun d => by simp [Op.equalIn, run_underlying hd], rfl, rfl⟩
    · obtain ⟨m, n, rfl⟩ := k3 rfl
      obtain rfl : xv = .map none := hva
      obtain ⟨y1, h1, rfl⟩ := hvb
      cases hrr
      exact ⟨eqGuard_ok ⟨nofun, nofun⟩, equal_run fun d => by simp [Op.equalIn, run_underlying hd], rfl, rfl⟩
    · obtain ⟨m, n, rfl⟩ := k3 rfl
      obtain ⟨y1, h1, rfl⟩ := hva
      obtain rfl : yv = .map none := hvb
      cases hrr
      exact ⟨eqGuard_ok ⟨nofun, nofun⟩, equal_run fun d => by simp [Op.equalIn, run_underlying hd], rfl, rfl⟩
    · obtain ⟨m, n, q, rfl⟩ := k4 rfl
      obtain rfl : xv = .nilFunc := hva
      obtain rfl : yv = .nilFunc := hvb
      cases hrr
      exact ⟨eqGuard_ok ⟨nofun, nofun⟩, equal_run fun d => by simp [Op.equalIn, run_underlying hd], rfl, rfl⟩
    · obtain ⟨m, n, q, rfl⟩ := k4 rfl
      obtain rfl : xv = .nilFunc := hva
      obtain ⟨y1, o1, rfl, h1⟩ := hvb
      cases hrr
      exact ⟨eqGuard_ok ⟨nofun, nofun⟩, equal_run fun d => by simp [Op.equalIn, run_underlying hd], rfl, rfl⟩
    · obtain ⟨m, n, q, rfl⟩ := k4 rfl
      obtain ⟨y1, o1, rfl, h1⟩ := hva
      obtain rfl : yv = .nilFunc := hvb
      cases hrr
      exact ⟨eqGuard_ok ⟨nofun, nofun⟩, equal_run fun d => by simp [Op.equalIn, run_underlying hd], rfl, rfl⟩
    · cases hrr
  obtain ⟨k1, k2, k3, k4⟩ := key
  refine .pure hr (v := .bool (Bool.xor ng r)) ?_ rfl
  cases op <;> simp [isEqOp] at ho <;> subst ho <;> simp only [Sem.run_bind, k1, k2, k3, k4, Result.andThen_ok, Sem.run_pure, Bool.false_xor, Bool.true_xor]
end ops
end Go.Kx
