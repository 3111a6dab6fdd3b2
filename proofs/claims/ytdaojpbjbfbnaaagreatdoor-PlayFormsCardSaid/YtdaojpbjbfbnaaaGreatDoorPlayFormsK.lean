/- Proved: what the card of 'PlayForms' tells of its program, each fact by the kernel's own reckoning. This session's text, printed by a small program of its own. -/
import Derived.Test.YtdaojpbjbfbnaaaGreatDoorRows
import Derived.WalkKit
import Derived.ProofKit
import Derived.OpenShut
import Derived.Stop.Joined
import Derived.SevenTiedAt
import Derived.Test.YtdaojpbjbfbnaaaGreatDoorTie
import Derived.Test.YtdaojpbjbfbnaaaGreatDoorCards
namespace Go.Proofs.YtdaojpbjbfbnaaaGreatDoor.playForms
open Go.ChangeShapes Go.WideShapes Go.ChangeAt Go.RowKit
theorem wfT : Rows.playFormsRow.wfByText (OpenSpec.ofChange Rows.playFormsSpec) = true := by kernel_rfl
theorem mainT : Tryz.pinned.checked.prog.mainIs = some (Rows.playFormsCard.stood.harness.1, Rows.playFormsCard.stood.harness.2.toList) := by kernel_rfl
theorem looksT : true = Tryz.pinned.checked.prog.looks [] := by kernel_rfl
theorem goesT : false = Rows.playFormsRow.goesBy Tryz.pinned.checked.prog := by kernel_rfl
theorem namedT : Tryz.prog.funcNamed "glacis/glacislaw26.PlayForms" = some 3 := by kernel_rfl
end Go.Proofs.YtdaojpbjbfbnaaaGreatDoor.playForms
