/-
  DERIVED. GIVEN WITH THE SEED: THE CARDS: each row of YtebhegkangheiaaGreatDoorRows.lean that lists a variable, with what it lists TIED to the program's text (the seventh form; the later family's looks); each row that meets fmt, with fmt's text TOLD by the authors' own Lean function (tested against real Go, not proved from fmt's source: count such statements apart). THE CARD IS WHAT COUNTS. Prove the row's statement (the work); the ties are given (YtebhegkangheiaaGreatDoorTie.lean); close each card by the builder's one call (the guide's Derived/Test/ToyasCard.lean, 'card_holds'). Laid BY PROGRAM, IN A SANDBOX (cutbox-door.mjs). By AI agents, Wed Nov 11 2026. No macro, syntax, notation, axiom, sorry.
-/
import Derived.Test.YtebhegkangheiaaGreatDoorRows
import GoSem.ClaimSeven
namespace Go.Proofs.YtebhegkangheiaaGreatDoor
namespace Rows

/-- THE TIED CARD OF 'glacislaw13.LiveTrees'. -/
def liveTreesCard : Claim7 := { stood := { row := liveTreesRow, standIns := [], harness := (true, "eaa031a44229ab93a3aa4a883c25437b4768efc28af88024467d1991441559be"), looks := true }, kinds := [], alts := [], laidByText := true, laidKinds := [.data, .data, .data], laidTests := true, laidLooks := .later }
def LiveTreesCardSaid : Prop := Claim7.holds Tryz.pinned (.plain (OpenSpec.ofChange liveTreesSpec)) liveTreesCard

/-- THE TIED CARD OF 'glacislaw13.LiveOnce'. -/
def liveOnceCard : Claim7 := { stood := { row := liveOnceRow, standIns := [], harness := (true, "eaa031a44229ab93a3aa4a883c25437b4768efc28af88024467d1991441559be"), looks := true }, kinds := [], alts := [], laidByText := true, laidKinds := [.data, .data, .data], laidTests := true, laidLooks := .later }
def LiveOnceCardSaid : Prop := Claim7.holds Tryz.pinned (.plain (OpenSpec.ofChange liveOnceSpec)) liveOnceCard

/-- THE TIED CARD OF 'glacislaw15.SegUsed'. -/
def segUsedCard : Claim7 := { stood := { row := segUsedRow, standIns := [], harness := (true, "eaa031a44229ab93a3aa4a883c25437b4768efc28af88024467d1991441559be"), looks := true }, kinds := [], alts := [], laidByText := true, laidKinds := [.data, .data, .data], laidTests := true, laidLooks := .later }
def SegUsedCardSaid : Prop := Claim7.holds Tryz.pinned (.plain (OpenSpec.ofChange segUsedSpec)) segUsedCard

/-- THE TIED CARD OF 'glacislaw14.LayAll'. -/
def layAllCard : Claim7 := { stood := { row := layAllRow, standIns := [], harness := (true, "eaa031a44229ab93a3aa4a883c25437b4768efc28af88024467d1991441559be"), looks := true }, kinds := [], alts := [], laidByText := true, laidKinds := [.data, .data, .data], laidTests := true, laidLooks := .later }
def LayAllCardSaid : Prop := Claim7.holds Tryz.pinned (.plain (OpenSpec.ofChange layAllSpec)) layAllCard

/-- THE SECOND FORM's CARD OF 'glacislaw13.LiveTrees'. -/
def liveTreesUptoCard : Claim7 := { stood := { row := liveTreesUptoRow, standIns := [], harness := (true, "eaa031a44229ab93a3aa4a883c25437b4768efc28af88024467d1991441559be"), looks := true }, kinds := [], alts := [], laidByText := true, laidKinds := [.data, .data, .data], laidTests := true, laidLooks := .later }
def LiveTreesUptoCardSaid : Prop := Claim7.holds Tryz.pinned (.plain (OpenSpec.upto liveTreesSpec)) liveTreesUptoCard

/-- THE SECOND FORM's CARD OF 'glacislaw13.LiveOnce'. -/
def liveOnceUptoCard : Claim7 := { stood := { row := liveOnceUptoRow, standIns := [], harness := (true, "eaa031a44229ab93a3aa4a883c25437b4768efc28af88024467d1991441559be"), looks := true }, kinds := [], alts := [], laidByText := true, laidKinds := [.data, .data, .data], laidTests := true, laidLooks := .later }
def LiveOnceUptoCardSaid : Prop := Claim7.holds Tryz.pinned (.plain (OpenSpec.upto liveOnceSpec)) liveOnceUptoCard

/-- THE SECOND FORM's CARD OF 'glacislaw15.SegUsed'. -/
def segUsedUptoCard : Claim7 := { stood := { row := segUsedUptoRow, standIns := [], harness := (true, "eaa031a44229ab93a3aa4a883c25437b4768efc28af88024467d1991441559be"), looks := true }, kinds := [], alts := [], laidByText := true, laidKinds := [.data, .data, .data], laidTests := true, laidLooks := .later }
def SegUsedUptoCardSaid : Prop := Claim7.holds Tryz.pinned (.plain (OpenSpec.upto segUsedSpec)) segUsedUptoCard

/-- THE SECOND FORM's CARD OF 'glacislaw14.LayAll'. -/
def layAllUptoCard : Claim7 := { stood := { row := layAllUptoRow, standIns := [], harness := (true, "eaa031a44229ab93a3aa4a883c25437b4768efc28af88024467d1991441559be"), looks := true }, kinds := [], alts := [], laidByText := true, laidKinds := [.data, .data, .data], laidTests := true, laidLooks := .later }
def LayAllUptoCardSaid : Prop := Claim7.holds Tryz.pinned (.plain (OpenSpec.upto layAllSpec)) layAllUptoCard
end Rows
end Go.Proofs.YtebhegkangheiaaGreatDoor
