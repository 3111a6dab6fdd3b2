/-
  DERIVED. GIVEN WITH THE SEED: THE CARDS: each row of YtmglhbclhfgmaaaGreatDoorRows.lean that lists a variable, with what it lists TIED to the program's text (the seventh form; the later family's looks); each row that meets fmt, with fmt's text TOLD by the authors' own Lean function (tested against real Go, not proved from fmt's source: count such statements apart). THE CARD IS WHAT COUNTS. Prove the row's statement (the work); the ties are given (YtmglhbclhfgmaaaGreatDoorTie.lean); close each card by the builder's one call (the guide's Derived/Test/ToyasCard.lean, 'card_holds'). Laid BY PROGRAM, IN A SANDBOX (cutbox-door.mjs). By AI agents, Wed Nov 11 2026. No macro, syntax, notation, axiom, sorry.
-/
import Derived.Test.YtmglhbclhfgmaaaGreatDoorRows
import GoSem.ClaimSeven
namespace Go.Proofs.YtmglhbclhfgmaaaGreatDoor
namespace Rows

/-- THE TIED CARD OF 'glacislaw13.LiveAll'. -/
def liveAllCard : Claim7 := { stood := { row := liveAllRow, standIns := [], harness := (true, "0cb81ec59a8027747a61aaead0d147a787d0872607e3426de6bfd9eb2463d168"), looks := true }, kinds := [], alts := [], laidByText := true, laidKinds := [.data, .data, .data], laidTests := true, laidLooks := .later }
def LiveAllCardSaid : Prop := Claim7.holds Tryz.pinned (.plain (OpenSpec.ofChange liveAllSpec)) liveAllCard

/-- THE TIED CARD OF 'glacislaw15.SegAll'. -/
def segAllCard : Claim7 := { stood := { row := segAllRow, standIns := [], harness := (true, "0cb81ec59a8027747a61aaead0d147a787d0872607e3426de6bfd9eb2463d168"), looks := true }, kinds := [], alts := [], laidByText := true, laidKinds := [.data, .data, .data], laidTests := true, laidLooks := .later }
def SegAllCardSaid : Prop := Claim7.holds Tryz.pinned (.plain (OpenSpec.ofChange segAllSpec)) segAllCard

/-- THE SECOND FORM's CARD OF 'glacislaw13.LiveAll'. -/
def liveAllUptoCard : Claim7 := { stood := { row := liveAllUptoRow, standIns := [], harness := (true, "0cb81ec59a8027747a61aaead0d147a787d0872607e3426de6bfd9eb2463d168"), looks := true }, kinds := [], alts := [], laidByText := true, laidKinds := [.data, .data, .data], laidTests := true, laidLooks := .later }
def LiveAllUptoCardSaid : Prop := Claim7.holds Tryz.pinned (.plain (OpenSpec.upto liveAllSpec)) liveAllUptoCard

/-- THE SECOND FORM's CARD OF 'glacislaw15.SegAll'. -/
def segAllUptoCard : Claim7 := { stood := { row := segAllUptoRow, standIns := [], harness := (true, "0cb81ec59a8027747a61aaead0d147a787d0872607e3426de6bfd9eb2463d168"), looks := true }, kinds := [], alts := [], laidByText := true, laidKinds := [.data, .data, .data], laidTests := true, laidLooks := .later }
def SegAllUptoCardSaid : Prop := Claim7.holds Tryz.pinned (.plain (OpenSpec.upto segAllSpec)) segAllUptoCard
end Rows
end Go.Proofs.YtmglhbclhfgmaaaGreatDoor
