/-
  DERIVED. GIVEN WITH THE SEED: THE CARDS: each row of YtapnfgnofdgliaaGreatDoorRows.lean that lists a variable, with what it lists TIED to the program's text (the seventh form; the later family's looks); each row that meets fmt, with fmt's text TOLD by the authors' own Lean function (tested against real Go, not proved from fmt's source: count such statements apart). THE CARD IS WHAT COUNTS. Prove the row's statement (the work); the ties are given (YtapnfgnofdgliaaGreatDoorTie.lean); close each card by the builder's one call (the guide's Derived/Test/ToyasCard.lean, 'card_holds'). Laid BY PROGRAM, IN A SANDBOX (cutbox-door.mjs). By AI agents, Wed Nov 11 2026. No macro, syntax, notation, axiom, sorry.
-/
import Derived.Test.YtapnfgnofdgliaaGreatDoorRows
import GoSem.ClaimSeven
namespace Go.Proofs.YtapnfgnofdgliaaGreatDoor
namespace Rows

/-- THE TIED CARD OF 'glacislaw21.PlanForms'. -/
def planFormsCard : Claim7 := { stood := { row := planFormsRow, standIns := [], harness := (true, "b572a427022eb219018619a34e0fc1729fe40836449abd19801ebca5e87805c1"), looks := true }, kinds := [], alts := [], laidByText := true, laidKinds := [.data, .data, .data, .data, .pinned], laidTests := true, laidLooks := .later }
def PlanFormsCardSaid : Prop := Claim7.holds Tryz.pinned (.plain (OpenSpec.ofChange planFormsSpec)) planFormsCard

/-- THE TIED CARD OF 'glacislaw23.SendForms'. -/
def sendFormsCard : Claim7 := { stood := { row := sendFormsRow, standIns := [], harness := (true, "b572a427022eb219018619a34e0fc1729fe40836449abd19801ebca5e87805c1"), looks := true }, kinds := [], alts := [], laidByText := true, laidKinds := [.data, .data, .data, .data, .pinned], laidTests := true, laidLooks := .later }
def SendFormsCardSaid : Prop := Claim7.holds Tryz.pinned (.plain (OpenSpec.ofChange sendFormsSpec)) sendFormsCard

/-- THE SECOND FORM's CARD OF 'glacislaw21.PlanForms'. -/
def planFormsUptoCard : Claim7 := { stood := { row := planFormsUptoRow, standIns := [], harness := (true, "b572a427022eb219018619a34e0fc1729fe40836449abd19801ebca5e87805c1"), looks := true }, kinds := [], alts := [], laidByText := true, laidKinds := [.data, .data, .data, .data, .pinned], laidTests := true, laidLooks := .later }
def PlanFormsUptoCardSaid : Prop := Claim7.holds Tryz.pinned (.plain (OpenSpec.upto planFormsSpec)) planFormsUptoCard

/-- THE SECOND FORM's CARD OF 'glacislaw23.SendForms'. -/
def sendFormsUptoCard : Claim7 := { stood := { row := sendFormsUptoRow, standIns := [], harness := (true, "b572a427022eb219018619a34e0fc1729fe40836449abd19801ebca5e87805c1"), looks := true }, kinds := [], alts := [], laidByText := true, laidKinds := [.data, .data, .data, .data, .pinned], laidTests := true, laidLooks := .later }
def SendFormsUptoCardSaid : Prop := Claim7.holds Tryz.pinned (.plain (OpenSpec.upto sendFormsSpec)) sendFormsUptoCard
end Rows
end Go.Proofs.YtapnfgnofdgliaaGreatDoor
