/- Proved: what the card of 'RecvForms' tells of its program, each fact by the kernel's own reckoning. This session's text, printed by a small program of its own. -/
import Derived.Test.YtkjckoefkcmjhaaGreatDoorRows
import Derived.WalkKit
import Derived.ProofKit
import Derived.OpenShut
import Derived.Stop.Joined
import Derived.SevenTiedAt
import Derived.Test.YtkjckoefkcmjhaaGreatDoorTie
import Derived.Test.YtkjckoefkcmjhaaGreatDoorCards
namespace Go.Proofs.YtkjckoefkcmjhaaGreatDoor.recvForms
open Go.ChangeShapes Go.WideShapes Go.ChangeAt Go.RowKit
theorem wfT : Rows.recvFormsRow.wfByText (OpenSpec.ofChange Rows.recvFormsSpec) = true := by kernel_rfl
theorem mainT : Tryz.pinned.checked.prog.mainIs = some (Rows.recvFormsCard.stood.harness.1, Rows.recvFormsCard.stood.harness.2.toList) := by kernel_rfl
theorem looksT : true = Tryz.pinned.checked.prog.looks [] := by kernel_rfl
theorem goesT : false = Rows.recvFormsRow.goesBy Tryz.pinned.checked.prog := by kernel_rfl
theorem namedT : Tryz.prog.funcNamed "glacis/glacislaw24.RecvForms" = some 3 := by kernel_rfl
end Go.Proofs.YtkjckoefkcmjhaaGreatDoor.recvForms
