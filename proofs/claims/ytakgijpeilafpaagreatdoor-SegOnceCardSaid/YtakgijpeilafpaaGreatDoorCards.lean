/-
  DERIVED. GIVEN WITH THE SEED: THE CARDS: each row of YtakgijpeilafpaaGreatDoorRows.lean that lists a variable, with what it lists TIED to the program's text (the seventh form; the later family's looks); each row that meets fmt, with fmt's text TOLD by the authors' own Lean function (tested against real Go, not proved from fmt's source: count such statements apart). THE CARD IS WHAT COUNTS. Prove the row's statement (the work); the ties are given (YtakgijpeilafpaaGreatDoorTie.lean); close each card by the builder's one call (the guide's Derived/Test/ToyasCard.lean, 'card_holds'). Laid BY PROGRAM, IN A SANDBOX (cutbox-door.mjs). By AI agents, Wed Nov 11 2026. No macro, syntax, notation, axiom, sorry.
-/
import Derived.Test.YtakgijpeilafpaaGreatDoorRows
import GoSem.ClaimSeven
namespace Go.Proofs.YtakgijpeilafpaaGreatDoor
namespace Rows

/-- THE TIED CARD OF 'glacislaw13.LiveForms'. -/
def liveFormsCard : Claim7 := { stood := { row := liveFormsRow, standIns := [], harness := (true, "71633423d2d0b749a1bca81ae4826de995d9bc762d908dae99f1e30a80db64bf"), looks := true }, kinds := [], alts := [], laidByText := true, laidKinds := [.data, .data, .data], laidTests := true, laidLooks := .later }
def LiveFormsCardSaid : Prop := Claim7.holds Tryz.pinned (.plain (OpenSpec.ofChange liveFormsSpec)) liveFormsCard

/-- THE TIED CARD OF 'glacislaw15.SegOnce'. -/
def segOnceCard : Claim7 := { stood := { row := segOnceRow, standIns := [], harness := (true, "71633423d2d0b749a1bca81ae4826de995d9bc762d908dae99f1e30a80db64bf"), looks := true }, kinds := [], alts := [], laidByText := true, laidKinds := [.data, .data, .data], laidTests := true, laidLooks := .later }
def SegOnceCardSaid : Prop := Claim7.holds Tryz.pinned (.plain (OpenSpec.ofChange segOnceSpec)) segOnceCard

/-- THE TIED CARD OF 'glacislaw15.SegForms'. -/
def segFormsCard : Claim7 := { stood := { row := segFormsRow, standIns := [], harness := (true, "71633423d2d0b749a1bca81ae4826de995d9bc762d908dae99f1e30a80db64bf"), looks := true }, kinds := [], alts := [], laidByText := true, laidKinds := [.data, .data, .data], laidTests := true, laidLooks := .later }
def SegFormsCardSaid : Prop := Claim7.holds Tryz.pinned (.plain (OpenSpec.ofChange segFormsSpec)) segFormsCard

/-- THE TIED CARD OF 'glacislaw14.LayForms'. -/
def layFormsCard : Claim7 := { stood := { row := layFormsRow, standIns := [], harness := (true, "71633423d2d0b749a1bca81ae4826de995d9bc762d908dae99f1e30a80db64bf"), looks := true }, kinds := [], alts := [], laidByText := true, laidKinds := [.data, .data, .data], laidTests := true, laidLooks := .later }
def LayFormsCardSaid : Prop := Claim7.holds Tryz.pinned (.plain (OpenSpec.ofChange layFormsSpec)) layFormsCard

/-- THE SECOND FORM's CARD OF 'glacislaw13.LiveForms'. -/
def liveFormsUptoCard : Claim7 := { stood := { row := liveFormsUptoRow, standIns := [], harness := (true, "71633423d2d0b749a1bca81ae4826de995d9bc762d908dae99f1e30a80db64bf"), looks := true }, kinds := [], alts := [], laidByText := true, laidKinds := [.data, .data, .data], laidTests := true, laidLooks := .later }
def LiveFormsUptoCardSaid : Prop := Claim7.holds Tryz.pinned (.plain (OpenSpec.upto liveFormsSpec)) liveFormsUptoCard

/-- THE SECOND FORM's CARD OF 'glacislaw15.SegOnce'. -/
def segOnceUptoCard : Claim7 := { stood := { row := segOnceUptoRow, standIns := [], harness := (true, "71633423d2d0b749a1bca81ae4826de995d9bc762d908dae99f1e30a80db64bf"), looks := true }, kinds := [], alts := [], laidByText := true, laidKinds := [.data, .data, .data], laidTests := true, laidLooks := .later }
def SegOnceUptoCardSaid : Prop := Claim7.holds Tryz.pinned (.plain (OpenSpec.upto segOnceSpec)) segOnceUptoCard

/-- THE SECOND FORM's CARD OF 'glacislaw15.SegForms'. -/
def segFormsUptoCard : Claim7 := { stood := { row := segFormsUptoRow, standIns := [], harness := (true, "71633423d2d0b749a1bca81ae4826de995d9bc762d908dae99f1e30a80db64bf"), looks := true }, kinds := [], alts := [], laidByText := true, laidKinds := [.data, .data, .data], laidTests := true, laidLooks := .later }
def SegFormsUptoCardSaid : Prop := Claim7.holds Tryz.pinned (.plain (OpenSpec.upto segFormsSpec)) segFormsUptoCard

/-- THE SECOND FORM's CARD OF 'glacislaw14.LayForms'. -/
def layFormsUptoCard : Claim7 := { stood := { row := layFormsUptoRow, standIns := [], harness := (true, "71633423d2d0b749a1bca81ae4826de995d9bc762d908dae99f1e30a80db64bf"), looks := true }, kinds := [], alts := [], laidByText := true, laidKinds := [.data, .data, .data], laidTests := true, laidLooks := .later }
def LayFormsUptoCardSaid : Prop := Claim7.holds Tryz.pinned (.plain (OpenSpec.upto layFormsSpec)) layFormsUptoCard
end Rows
end Go.Proofs.YtakgijpeilafpaaGreatDoor
