/- The last piece of the run of 'recvForms'. -/
import Derived.Test.YtkjckoefkcmjhaaGreatDoorRecvFormsD0
import Derived.WalkKit
namespace Go.Proofs.YtkjckoefkcmjhaaGreatDoor.recvForms
open Go.Ev Go.Ev.Lit
theorem last : isTrue (run F 13932 s41.fr s41.cs s41.h s41.ls) = true := by kernel_rfl
end Go.Proofs.YtkjckoefkcmjhaaGreatDoor.recvForms
