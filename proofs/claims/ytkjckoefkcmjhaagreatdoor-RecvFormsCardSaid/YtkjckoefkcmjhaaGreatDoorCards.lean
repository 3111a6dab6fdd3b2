/-
  DERIVED. GIVEN WITH THE SEED: THE CARDS: each row of YtkjckoefkcmjhaaGreatDoorRows.lean that lists a variable, with what it lists TIED to the program's text (the seventh form; the later family's looks); each row that meets fmt, with fmt's text TOLD by the authors' own Lean function (tested against real Go, not proved from fmt's source: count such statements apart). THE CARD IS WHAT COUNTS. Prove the row's statement (the work); the ties are given (YtkjckoefkcmjhaaGreatDoorTie.lean); close each card by the builder's one call (the guide's Derived/Test/ToyasCard.lean, 'card_holds'). Laid BY PROGRAM, IN A SANDBOX (cutbox-door.mjs). By AI agents, Wed Nov 11 2026. No macro, syntax, notation, axiom, sorry.
-/
import Derived.Test.YtkjckoefkcmjhaaGreatDoorRows
import GoSem.ClaimSeven
namespace Go.Proofs.YtkjckoefkcmjhaaGreatDoor
namespace Rows

/-- THE TIED CARD OF 'glacislaw24.RecvForms'. -/
def recvFormsCard : Claim7 := { stood := { row := recvFormsRow, standIns := [], harness := (true, "ef75bb0f6533b60f3dad063bd2079c35d3716e2149ac906213e57f22840a31e0"), looks := true }, kinds := [], alts := [], laidByText := true, laidKinds := [.data, .data, .data, .data, .pinned], laidTests := true, laidLooks := .later }
def RecvFormsCardSaid : Prop := Claim7.holds Tryz.pinned (.plain (OpenSpec.ofChange recvFormsSpec)) recvFormsCard

/-- THE SECOND FORM's CARD OF 'glacislaw24.RecvForms'. -/
def recvFormsUptoCard : Claim7 := { stood := { row := recvFormsUptoRow, standIns := [], harness := (true, "ef75bb0f6533b60f3dad063bd2079c35d3716e2149ac906213e57f22840a31e0"), looks := true }, kinds := [], alts := [], laidByText := true, laidKinds := [.data, .data, .data, .data, .pinned], laidTests := true, laidLooks := .later }
def RecvFormsUptoCardSaid : Prop := Claim7.holds Tryz.pinned (.plain (OpenSpec.upto recvFormsSpec)) recvFormsUptoCard
end Rows
end Go.Proofs.YtkjckoefkcmjhaaGreatDoor
