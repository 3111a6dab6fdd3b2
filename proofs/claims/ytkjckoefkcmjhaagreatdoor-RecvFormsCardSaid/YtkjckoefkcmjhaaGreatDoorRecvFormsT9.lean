/- Pieces 17 to 18 of the run of 'recvForms': from the state ahead of each to the state behind it. -/
import Derived.Test.YtkjckoefkcmjhaaGreatDoorRecvFormsD0
import Derived.WalkKit
namespace Go.Proofs.YtkjckoefkcmjhaaGreatDoor.recvForms
open Go.Ev Go.Ev.Lit
theorem t17 : (chkNx s17 (run F 17899 s16.fr s16.cs s16.h s16.ls), codesNx (idsOf s17.ls) (run F 17899 s16.fr s16.cs s16.h s16.ls)) = (true, k17) := by kernel_rfl
theorem t18 : (chkNx s18 (run F 18680 s17.fr s17.cs s17.h s17.ls), codesNx (idsOf s18.ls) (run F 18680 s17.fr s17.cs s17.h s17.ls)) = (true, k18) := by kernel_rfl
end Go.Proofs.YtkjckoefkcmjhaaGreatDoor.recvForms
