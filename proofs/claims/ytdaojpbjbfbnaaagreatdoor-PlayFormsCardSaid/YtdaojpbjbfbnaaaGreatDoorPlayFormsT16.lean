/- Pieces 31 to 32 of the run of 'playForms': from the state ahead of each to the state behind it. -/
import Derived.Test.YtdaojpbjbfbnaaaGreatDoorPlayFormsD1
import Derived.WalkKit
namespace Go.Proofs.YtdaojpbjbfbnaaaGreatDoor.playForms
open Go.Ev Go.Ev.Lit
theorem t31 : (chkNx s31 (run F 12288 s30.fr s30.cs s30.h s30.ls), codesNx (idsOf s31.ls) (run F 12288 s30.fr s30.cs s30.h s30.ls)) = (true, k31) := by kernel_rfl
theorem t32 : (chkNx s32 (run F 20683 s31.fr s31.cs s31.h s31.ls), codesNx (idsOf s32.ls) (run F 20683 s31.fr s31.cs s31.h s31.ls)) = (true, k32) := by kernel_rfl
end Go.Proofs.YtdaojpbjbfbnaaaGreatDoor.playForms
