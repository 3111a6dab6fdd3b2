/- Piece 41 of the run of 'recvForms': from the state ahead of each to the state behind it. -/
import Derived.Test.YtkjckoefkcmjhaaGreatDoorRecvFormsD0
import Derived.WalkKit
namespace Go.Proofs.YtkjckoefkcmjhaaGreatDoor.recvForms
open Go.Ev Go.Ev.Lit
theorem t41 : (chkNx s41 (run F 17260 s40.fr s40.cs s40.h s40.ls), codesNx (idsOf s41.ls) (run F 17260 s40.fr s40.cs s40.h s40.ls)) = (true, k41) := by kernel_rfl
end Go.Proofs.YtkjckoefkcmjhaaGreatDoor.recvForms
