/- Pieces 23 to 24 of the run of 'recvForms': from the state ahead of each to the state behind it. -/
import Derived.Test.YtkjckoefkcmjhaaGreatDoorRecvFormsD0
import Derived.WalkKit
namespace Go.Proofs.YtkjckoefkcmjhaaGreatDoor.recvForms
open Go.Ev Go.Ev.Lit
theorem t23 : (chkNx s23 (run F 13326 s22.fr s22.cs s22.h s22.ls), codesNx (idsOf s23.ls) (run F 13326 s22.fr s22.cs s22.h s22.ls)) = (true, k23) := by kernel_rfl
theorem t24 : (chkNx s24 (run F 12334 s23.fr s23.cs s23.h s23.ls), codesNx (idsOf s24.ls) (run F 12334 s23.fr s23.cs s23.h s23.ls)) = (true, k24) := by kernel_rfl
end Go.Proofs.YtkjckoefkcmjhaaGreatDoor.recvForms
