/- Pieces 39 to 40 of the run of 'recvForms': from the state ahead of each to the state behind it. -/
import Derived.Test.YtkjckoefkcmjhaaGreatDoorRecvFormsD0
import Derived.WalkKit
namespace Go.Proofs.YtkjckoefkcmjhaaGreatDoor.recvForms
open Go.Ev Go.Ev.Lit
theorem t39 : (chkNx s39 (run F 17347 s38.fr s38.cs s38.h s38.ls), codesNx (idsOf s39.ls) (run F 17347 s38.fr s38.cs s38.h s38.ls)) = (true, k39) := by kernel_rfl
theorem t40 : (chkNx s40 (run F 17364 s39.fr s39.cs s39.h s39.ls), codesNx (idsOf s40.ls) (run F 17364 s39.fr s39.cs s39.h s39.ls)) = (true, k40) := by kernel_rfl
end Go.Proofs.YtkjckoefkcmjhaaGreatDoor.recvForms
