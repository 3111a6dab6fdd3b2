/- Pieces 31 to 35 of the run of 'cleanForms': from the state ahead of each to the state behind it. -/
import Derived.Test.YtgmnkagomhadcaaGreatCleanFormsD3
import Derived.WalkKit
namespace Go.Proofs.YtgmnkagomhadcaaGreat.cleanForms
open Go.Ev Go.Ev.Lit
theorem t31 : (chkNx s31 (run F 12981 s30.fr s30.cs s30.h s30.ls), codesNx (idsOf s31.ls) (run F 12981 s30.fr s30.cs s30.h s30.ls)) = (true, k31) := by kernel_rfl
theorem t32 : (chkNx s32 (run F 10873 s31.fr s31.cs s31.h s31.ls), codesNx (idsOf s32.ls) (run F 10873 s31.fr s31.cs s31.h s31.ls)) = (true, k32) := by kernel_rfl
theorem t33 : (chkNx s33 (run F 12917 s32.fr s32.cs s32.h s32.ls), codesNx (idsOf s33.ls) (run F 12917 s32.fr s32.cs s32.h s32.ls)) = (true, k33) := by kernel_rfl
theorem t34 : (chkNx s34 (run F 12663 s33.fr s33.cs s33.h s33.ls), codesNx (idsOf s34.ls) (run F 12663 s33.fr s33.cs s33.h s33.ls)) = (true, k34) := by kernel_rfl
theorem t35 : (chkNx s35 (run F 9947 s34.fr s34.cs s34.h s34.ls), codesNx (idsOf s35.ls) (run F 9947 s34.fr s34.cs s34.h s34.ls)) = (true, k35) := by kernel_rfl
end Go.Proofs.YtgmnkagomhadcaaGreat.cleanForms
