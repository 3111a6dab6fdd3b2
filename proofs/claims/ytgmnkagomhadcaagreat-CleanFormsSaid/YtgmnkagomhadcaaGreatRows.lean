/-
  No cell of these rows narrows 'for every input' (looked for: loops, veiled, ifaces, maps, wideKeys, modest, calm, conditions, laid).
  DERIVED. THE GIVEN ROWS OF THIS SEAT. 4 by the template 'for every input the law returns true; each argument reads behind the call as it read before'; 0 by the template 'total and deterministic' (their statements: YtgmnkagomhadcaaGreatTotals.lean).
  GIVEN WITH THE SEED: the statements are not yours to turn. If you find one false, say at which input.
  Laid BY PROGRAM, IN A SANDBOX (cutbox-rows.mjs): the forced cells as the released guide's own fill.sh prints them over the translation a1e42937774f6999… (all of the seat's roots in one cut). By AI agents, Wed Nov 11 2026. No macro, syntax, notation, axiom, sorry.
-/
import Derived.Test.YtgmnkagomhadcaaGreatChecked
import GoSem.Claim
import GoSem.ClaimJoined
import GoSem.ClaimMapViews
import Derived.JoinedTies
import Derived.KernelRfl
namespace Go.Proofs.YtgmnkagomhadcaaGreat
/- THE CELL 'sum', in the pinned program and in every row, IS THE sha256 OF THE DUMP (.gsa) THAT YtgmnkagomhadcaaGreatProg.lean LOADS. Nothing in Lean hashes anything: it is a label: what it is worth is what the hold of that sum in a sandbox is worth. -/
noncomputable def Tryz.pinned : Pinned := { name := "ytgmnkagomhadcaagreat", sum := "a1e42937774f69997b051f08009d3113f6686917e8ae7e4e212bb81424128364", checked := Tryz.checked }
namespace Rows
def none {H : Type} : Left H := { results := [], args := [] }

/-- 'glacislaw16.LogForms': WHATEVER THE INPUT: true; the input reads as it did. -/
def logFormsSpec : ChangeSpec := { name := "logForms", fn := fun _ => fun
  | [] => { results := [.lit (.bool true)], args := [] }
  | _ => none }
def logFormsRow : OpenClaim := { program := "ytgmnkagomhadcaagreat", sum := "a1e42937774f69997b051f08009d3113f6686917e8ae7e4e212bb81424128364", func := "glacis/glacislaw16.LogForms", spec := "logForms", inPlace := ["internal/abi.NoEscape", "internal/bytealg.MakeNoZero"], unfollowed := true, recurses := true, plainKeys := false, apart := false }
def LogFormsSaid : Prop := logFormsRow.holds Tryz.pinned (OpenSpec.ofChange logFormsSpec)

/-- ITS FALSE NEIGHBOUR: 'it returns false'. Refute it at one input. -/
def logFormsWrong : ChangeSpec := { name := "logForms", fn := fun _ => fun
  | [] => { results := [.lit (.bool false)], args := [] }
  | _ => none }
def LogFormsWrongFalsely : Prop := logFormsRow.holds Tryz.pinned (OpenSpec.ofChange logFormsWrong)

/-- 'glacislaw19.CleanForms': WHATEVER THE INPUT: true; the input reads as it did. -/
def cleanFormsSpec : ChangeSpec := { name := "cleanForms", fn := fun _ => fun
  | [] => { results := [.lit (.bool true)], args := [] }
  | _ => none }
def cleanFormsRow : OpenClaim := { program := "ytgmnkagomhadcaagreat", sum := "a1e42937774f69997b051f08009d3113f6686917e8ae7e4e212bb81424128364", func := "glacis/glacislaw19.CleanForms", spec := "cleanForms", inPlace := ["internal/abi.NoEscape", "internal/bytealg.MakeNoZero", "slices.overlaps[glacis/api.Held]"], unfollowed := true, recurses := true, plainKeys := false, apart := false }
def CleanFormsSaid : Prop := cleanFormsRow.holds Tryz.pinned (OpenSpec.ofChange cleanFormsSpec)

/-- ITS FALSE NEIGHBOUR: 'it returns false'. Refute it at one input. -/
def cleanFormsWrong : ChangeSpec := { name := "cleanForms", fn := fun _ => fun
  | [] => { results := [.lit (.bool false)], args := [] }
  | _ => none }
def CleanFormsWrongFalsely : Prop := cleanFormsRow.holds Tryz.pinned (OpenSpec.ofChange cleanFormsWrong)

/-- 'glacislaw18.SnapForms': WHATEVER THE INPUT: true; the input reads as it did. -/
def snapFormsSpec : ChangeSpec := { name := "snapForms", fn := fun _ => fun
  | [] => { results := [.lit (.bool true)], args := [] }
  | _ => none }
def snapFormsRow : OpenClaim := { program := "ytgmnkagomhadcaagreat", sum := "a1e42937774f69997b051f08009d3113f6686917e8ae7e4e212bb81424128364", func := "glacis/glacislaw18.SnapForms", spec := "snapForms", inPlace := ["slices.overlaps[glacis/api.Held]", "internal/abi.NoEscape", "internal/bytealg.MakeNoZero"], unfollowed := true, recurses := true, plainKeys := false, apart := false }
def SnapFormsSaid : Prop := snapFormsRow.holds Tryz.pinned (OpenSpec.ofChange snapFormsSpec)

/-- ITS FALSE NEIGHBOUR: 'it returns false'. Refute it at one input. -/
def snapFormsWrong : ChangeSpec := { name := "snapForms", fn := fun _ => fun
  | [] => { results := [.lit (.bool false)], args := [] }
  | _ => none }
def SnapFormsWrongFalsely : Prop := snapFormsRow.holds Tryz.pinned (OpenSpec.ofChange snapFormsWrong)

/-- 'glacislaw17.VolForms': WHATEVER THE INPUT: true; the input reads as it did. -/
def volFormsSpec : ChangeSpec := { name := "volForms", fn := fun _ => fun
  | [] => { results := [.lit (.bool true)], args := [] }
  | _ => none }
def volFormsRow : OpenClaim := { program := "ytgmnkagomhadcaagreat", sum := "a1e42937774f69997b051f08009d3113f6686917e8ae7e4e212bb81424128364", func := "glacis/glacislaw17.VolForms", spec := "volForms", inPlace := ["internal/abi.NoEscape", "internal/bytealg.MakeNoZero", "slices.overlaps[glacis/api.Held]"], unfollowed := true, recurses := true, plainKeys := false, apart := false }
def VolFormsSaid : Prop := volFormsRow.holds Tryz.pinned (OpenSpec.ofChange volFormsSpec)

/-- ITS FALSE NEIGHBOUR: 'it returns false'. Refute it at one input. -/
def volFormsWrong : ChangeSpec := { name := "volForms", fn := fun _ => fun
  | [] => { results := [.lit (.bool false)], args := [] }
  | _ => none }
def VolFormsWrongFalsely : Prop := volFormsRow.holds Tryz.pinned (OpenSpec.ofChange volFormsWrong)

/- THE SECOND FORM. 'bulk': how many values and letters a reading holds, each counted each time it is reached (what is shared counts as often as it is met; a slice's spare places count too). A statement '..UptoSaid' is the law's where the arguments, and the package variables that the reading takes, are together of bulk at most 1048576: NARROWER than '..Said'. Prove '..Said' where nothing that the law and all that it calls make is longer than what came in: it says more and counts as full. Else prove '..UptoSaid'. A law counts once. -/
mutual
def uptoBulk {H : Type} : DataW H → Nat
  | .lit (.string bytes) => bytes.length + 1
  | .lit _ => 1
  | .nil => 1
  | .ptr d => uptoBulk d + 1
  | .slice elems spare => uptoBulkAll elems + uptoBulkAll spare + 1
  | .agg parts => uptoBulkAll parts + 1
  | .iface _ d => uptoBulk d + 1
  | .map entries => uptoBulkEntries entries + 1
  | .held _ => 1
def uptoBulkAll {H : Type} : List (DataW H) → Nat
  | [] => 0
  | d :: r => uptoBulk d + uptoBulkAll r
def uptoBulkEntries {H : Type} : List (Lit × DataW H) → Nat
  | [] => 0
  | x :: r => uptoBulkEntry x + uptoBulkEntries r
def uptoBulkEntry {H : Type} : Lit × DataW H → Nat
  | (.string bytes, d) => bytes.length + uptoBulk d + 1
  | (_, d) => uptoBulk d + 1
 end
def uptoSmall : (H : Type) → List (DataW H) → Bool := fun _ ds => decide (uptoBulkAll ds ≤ 1048576)
def OpenSpec.upto (s : _root_.Go.ChangeSpec) : _root_.Go.OpenSpec := { _root_.Go.OpenSpec.ofChange s with cond := some uptoSmall }

/-- 'glacislaw16.LogForms', WHERE WHAT IT READS IS OF BULK AT MOST 1048576: true; the input reads as it did. -/
def logFormsUptoRow : OpenClaim := { program := "ytgmnkagomhadcaagreat", sum := "a1e42937774f69997b051f08009d3113f6686917e8ae7e4e212bb81424128364", func := "glacis/glacislaw16.LogForms", spec := "logForms", inPlace := ["internal/abi.NoEscape", "internal/bytealg.MakeNoZero"], unfollowed := true, recurses := true, plainKeys := false, apart := false, narrowed := true }
def LogFormsUptoSaid : Prop := logFormsUptoRow.holds Tryz.pinned (OpenSpec.upto logFormsSpec)

/-- 'glacislaw19.CleanForms', WHERE WHAT IT READS IS OF BULK AT MOST 1048576: true; the input reads as it did. -/
def cleanFormsUptoRow : OpenClaim := { program := "ytgmnkagomhadcaagreat", sum := "a1e42937774f69997b051f08009d3113f6686917e8ae7e4e212bb81424128364", func := "glacis/glacislaw19.CleanForms", spec := "cleanForms", inPlace := ["internal/abi.NoEscape", "internal/bytealg.MakeNoZero", "slices.overlaps[glacis/api.Held]"], unfollowed := true, recurses := true, plainKeys := false, apart := false, narrowed := true }
def CleanFormsUptoSaid : Prop := cleanFormsUptoRow.holds Tryz.pinned (OpenSpec.upto cleanFormsSpec)

/-- 'glacislaw18.SnapForms', WHERE WHAT IT READS IS OF BULK AT MOST 1048576: true; the input reads as it did. -/
def snapFormsUptoRow : OpenClaim := { program := "ytgmnkagomhadcaagreat", sum := "a1e42937774f69997b051f08009d3113f6686917e8ae7e4e212bb81424128364", func := "glacis/glacislaw18.SnapForms", spec := "snapForms", inPlace := ["slices.overlaps[glacis/api.Held]", "internal/abi.NoEscape", "internal/bytealg.MakeNoZero"], unfollowed := true, recurses := true, plainKeys := false, apart := false, narrowed := true }
def SnapFormsUptoSaid : Prop := snapFormsUptoRow.holds Tryz.pinned (OpenSpec.upto snapFormsSpec)

/-- 'glacislaw17.VolForms', WHERE WHAT IT READS IS OF BULK AT MOST 1048576: true; the input reads as it did. -/
def volFormsUptoRow : OpenClaim := { program := "ytgmnkagomhadcaagreat", sum := "a1e42937774f69997b051f08009d3113f6686917e8ae7e4e212bb81424128364", func := "glacis/glacislaw17.VolForms", spec := "volForms", inPlace := ["internal/abi.NoEscape", "internal/bytealg.MakeNoZero", "slices.overlaps[glacis/api.Held]"], unfollowed := true, recurses := true, plainKeys := false, apart := false, narrowed := true }
def VolFormsUptoSaid : Prop := volFormsUptoRow.holds Tryz.pinned (OpenSpec.upto volFormsSpec)

end Rows
end Go.Proofs.YtgmnkagomhadcaaGreat
