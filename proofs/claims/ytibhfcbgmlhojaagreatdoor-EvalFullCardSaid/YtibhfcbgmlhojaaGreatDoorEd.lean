/- The environments of the runs. Conditions: none. -/
import Derived.Test.YtibhfcbgmlhojaaGreatDoorEc
set_option linter.unusedVariables false
namespace Go.Proofs.YtibhfcbgmlhojaaGreatDoor
open Go.Kx
noncomputable section
/-- what Pick says, where it is asked for less than ten -/
def pickA (d : AV) : List AV → H → Option CR := fun xs h => match xs with
  | [a, b] => (match sameA a (.sym (argI 0)) && sameA b (.int .i64 10) with | true => some (.ret d h) | false => none)
  | _ => none
/-- where it is asked for less than seventy -/
def pickB (d : AV) : List AV → H → Option CR := fun xs h => match xs with
  | [a, b] => (match sameA a (.sym (argI 1)) && sameA b (.int .i64 70) with | true => some (.ret d h) | false => none)
  | _ => none
def withP (E : Env) (q : List AV → H → Option CR) : Env := { E with pr := Tr.set (pth 6) (some q) E.pr }
def Eb2 : Env := (Eb.put 188 [m_ri1, m_ri0]).put 131 [m_z0]
def EA0 : Env := (((Eb.put 4 [m_aw]).put 5 [m_rd2]).put 24 [m_lk2]).put 188 [m_ri1, m_ri0]
def EAd (n : Nat) (m : Memo) : Env := withP (EA0.put 98 [m]) (pickA (.int .i64 (n - 1018)))
def l_ro : List Memo := [m_ro0, m_ro1, m_ro2, m_ro3, m_ro4, m_ro5, m_ro6, m_ro7, m_ro8, m_ro9, m_ro10]
def EB0 : Env := (Eb2.put 24 [m_lk2]).put 30 l_ro
def EBk (m : Memo) (l : List Memo) (v : AV) : Env := withP ((EB0.put 14 [m]).put 9 l) (pickB v)
def argS : List AV := [.sym (argI 0), .sym (argI 1)]
def cutN (n : Nat) (m : Memo) : Bool := cutC (EAd n m) 10000 3 6 psX argS known frX hX
def lpN (h : Hint) (m : Memo) : Bool := hintC Eb2 10000 98 h m
def restK (m : Memo) (l : List Memo) (v : AV) : Bool := restC (EBk m l v) 10000 3 6 frX hX
def kBig : AV := .sym ⟨false, 3, 11, 69, 0⟩
end
end Go.Proofs.YtibhfcbgmlhojaaGreatDoor
