/- Pieces 31 to 32 of the run of 'recvForms': from the state ahead of each to the state behind it. -/
import Derived.Test.YtkjckoefkcmjhaaGreatDoorRecvFormsD0
import Derived.WalkKit
namespace Go.Proofs.YtkjckoefkcmjhaaGreatDoor.recvForms
open Go.Ev Go.Ev.Lit
theorem t31 : (chkNx s31 (run F 17157 s30.fr s30.cs s30.h s30.ls), codesNx (idsOf s31.ls) (run F 17157 s30.fr s30.cs s30.h s30.ls)) = (true, k31) := by kernel_rfl
theorem t32 : (chkNx s32 (run F 21726 s31.fr s31.cs s31.h s31.ls), codesNx (idsOf s32.ls) (run F 21726 s31.fr s31.cs s31.h s31.ls)) = (true, k32) := by kernel_rfl
end Go.Proofs.YtkjckoefkcmjhaaGreatDoor.recvForms
