/- Pieces 7 to 8 of the run of 'recvForms': from the state ahead of each to the state behind it. -/
import Derived.Test.YtkjckoefkcmjhaaGreatDoorRecvFormsD0
import Derived.WalkKit
namespace Go.Proofs.YtkjckoefkcmjhaaGreatDoor.recvForms
open Go.Ev Go.Ev.Lit
theorem t7 : (chkNx s7 (run F 13558 s6.fr s6.cs s6.h s6.ls), codesNx (idsOf s7.ls) (run F 13558 s6.fr s6.cs s6.h s6.ls)) = (true, k7) := by kernel_rfl
theorem t8 : (chkNx s8 (run F 14172 s7.fr s7.cs s7.h s7.ls), codesNx (idsOf s8.ls) (run F 14172 s7.fr s7.cs s7.h s7.ls)) = (true, k8) := by kernel_rfl
end Go.Proofs.YtkjckoefkcmjhaaGreatDoor.recvForms
