/-
  DERIVED. GIVEN WITH THE SEED: THE CARDS: each row of YtibhfcbgmlhojaaGreatDoorRows.lean that lists a variable, with what it lists TIED to the program's text (the seventh form; the later family's looks); each row that meets fmt, with fmt's text TOLD by the authors' own Lean function (tested against real Go, not proved from fmt's source: count such statements apart). THE CARD IS WHAT COUNTS. Prove the row's statement (the work); the ties are given (YtibhfcbgmlhojaaGreatDoorTie.lean); close each card by the builder's one call (the guide's Derived/Test/ToyasCard.lean, 'card_holds'). Laid BY PROGRAM, IN A SANDBOX (cutbox-door.mjs). By AI agents, Wed Nov 11 2026. No macro, syntax, notation, axiom, sorry.
-/
import Derived.Test.YtibhfcbgmlhojaaGreatDoorRows
import GoSem.ClaimSeven
namespace Go.Proofs.YtibhfcbgmlhojaaGreatDoor
namespace Rows

/-- THE TIED CARD OF 'gristmilllaw09.EvalFull'. -/
def evalFullCard : Claim7 := { stood := { row := evalFullRow, standIns := [], harness := (true, "c7f6bf2ac907c921862d67b6bdc9057be3b506e52e1fd9606e4372672135fcb6"), looks := true }, kinds := [], alts := [], laidByText := true, laidKinds := [.data, .data, .widerDeep, .widerDeep, .data, .data, .data, .data, .data, .data, .sentinel, .sentinel, .widerDeep, .pinned, .pinned, .pinned], laidTests := true, laidLooks := .later }
def EvalFullCardSaid : Prop := Claim7.holds Tryz.pinned (.plain (OpenSpec.ofChange evalFullSpec)) evalFullCard

/-- THE SECOND FORM's CARD OF 'gristmilllaw09.EvalFull'. -/
def evalFullUptoCard : Claim7 := { stood := { row := evalFullUptoRow, standIns := [], harness := (true, "c7f6bf2ac907c921862d67b6bdc9057be3b506e52e1fd9606e4372672135fcb6"), looks := true }, kinds := [], alts := [], laidByText := true, laidKinds := [.data, .data, .widerDeep, .widerDeep, .data, .data, .data, .data, .data, .data, .sentinel, .sentinel, .widerDeep, .pinned, .pinned, .pinned], laidTests := true, laidLooks := .later }
def EvalFullUptoCardSaid : Prop := Claim7.holds Tryz.pinned (.plain (OpenSpec.upto evalFullSpec)) evalFullUptoCard
end Rows
end Go.Proofs.YtibhfcbgmlhojaaGreatDoor
