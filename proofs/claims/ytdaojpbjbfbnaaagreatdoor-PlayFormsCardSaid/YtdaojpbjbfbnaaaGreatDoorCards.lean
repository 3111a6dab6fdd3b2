/-
  DERIVED. GIVEN WITH THE SEED: THE CARDS: each row of YtdaojpbjbfbnaaaGreatDoorRows.lean that lists a variable, with what it lists TIED to the program's text (the seventh form; the later family's looks); each row that meets fmt, with fmt's text TOLD by the authors' own Lean function (tested against real Go, not proved from fmt's source: count such statements apart). THE CARD IS WHAT COUNTS. Prove the row's statement (the work); the ties are given (YtdaojpbjbfbnaaaGreatDoorTie.lean); close each card by the builder's one call (the guide's Derived/Test/ToyasCard.lean, 'card_holds'). Laid BY PROGRAM, IN A SANDBOX (cutbox-door.mjs). By AI agents, Wed Nov 11 2026. No macro, syntax, notation, axiom, sorry.
-/
import Derived.Test.YtdaojpbjbfbnaaaGreatDoorRows
import GoSem.ClaimSeven
namespace Go.Proofs.YtdaojpbjbfbnaaaGreatDoor
namespace Rows

/-- THE TIED CARD OF 'glacislaw26.PlayForms'. -/
def playFormsCard : Claim7 := { stood := { row := playFormsRow, standIns := [], harness := (true, "45d9e8ae69833abb2dbaa775160bd7a4fa1632029881121678914e54c65c5ea1"), looks := true }, kinds := [], alts := [], laidByText := true, laidKinds := [.data, .data, .data, .data, .pinned], laidTests := true, laidLooks := .later }
def PlayFormsCardSaid : Prop := Claim7.holds Tryz.pinned (.plain (OpenSpec.ofChange playFormsSpec)) playFormsCard

/-- THE SECOND FORM's CARD OF 'glacislaw26.PlayForms'. -/
def playFormsUptoCard : Claim7 := { stood := { row := playFormsUptoRow, standIns := [], harness := (true, "45d9e8ae69833abb2dbaa775160bd7a4fa1632029881121678914e54c65c5ea1"), looks := true }, kinds := [], alts := [], laidByText := true, laidKinds := [.data, .data, .data, .data, .pinned], laidTests := true, laidLooks := .later }
def PlayFormsUptoCardSaid : Prop := Claim7.holds Tryz.pinned (.plain (OpenSpec.upto playFormsSpec)) playFormsUptoCard
end Rows
end Go.Proofs.YtdaojpbjbfbnaaaGreatDoor
