/- Pieces 31 to 33 of the run of 'snapForms': from the state ahead of each to the state behind it. -/
import Derived.Test.YtgmnkagomhadcaaGreatSnapFormsD2
import Derived.WalkKit
namespace Go.Proofs.YtgmnkagomhadcaaGreat.snapForms
open Go.Ev Go.Ev.Lit
theorem t31 : (chkNx s31 (run F 18135 s30.fr s30.cs s30.h s30.ls), codesNx (idsOf s31.ls) (run F 18135 s30.fr s30.cs s30.h s30.ls)) = (true, k31) := by kernel_rfl
theorem t32 : (chkNx s32 (run F 18229 s31.fr s31.cs s31.h s31.ls), codesNx (idsOf s32.ls) (run F 18229 s31.fr s31.cs s31.h s31.ls)) = (true, k32) := by kernel_rfl
theorem t33 : (chkNx s33 (run F 17586 s32.fr s32.cs s32.h s32.ls), codesNx (idsOf s33.ls) (run F 17586 s32.fr s32.cs s32.h s32.ls)) = (true, k33) := by kernel_rfl
end Go.Proofs.YtgmnkagomhadcaaGreat.snapForms
