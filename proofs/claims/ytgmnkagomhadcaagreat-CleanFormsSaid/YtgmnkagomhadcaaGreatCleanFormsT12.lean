/- Pieces 56 to 60 of the run of 'cleanForms': from the state ahead of each to the state behind it. -/
import Derived.Test.YtgmnkagomhadcaaGreatCleanFormsD3
import Derived.WalkKit
namespace Go.Proofs.YtgmnkagomhadcaaGreat.cleanForms
open Go.Ev Go.Ev.Lit
theorem t56 : (chkNx s56 (run F 12903 s55.fr s55.cs s55.h s55.ls), codesNx (idsOf s56.ls) (run F 12903 s55.fr s55.cs s55.h s55.ls)) = (true, k56) := by kernel_rfl
theorem t57 : (chkNx s57 (run F 10805 s56.fr s56.cs s56.h s56.ls), codesNx (idsOf s57.ls) (run F 10805 s56.fr s56.cs s56.h s56.ls)) = (true, k57) := by kernel_rfl
theorem t58 : (chkNx s58 (run F 12981 s57.fr s57.cs s57.h s57.ls), codesNx (idsOf s58.ls) (run F 12981 s57.fr s57.cs s57.h s57.ls)) = (true, k58) := by kernel_rfl
theorem t59 : (chkNx s59 (run F 10873 s58.fr s58.cs s58.h s58.ls), codesNx (idsOf s59.ls) (run F 10873 s58.fr s58.cs s58.h s58.ls)) = (true, k59) := by kernel_rfl
theorem t60 : (chkNx s60 (run F 12917 s59.fr s59.cs s59.h s59.ls), codesNx (idsOf s60.ls) (run F 12917 s59.fr s59.cs s59.h s59.ls)) = (true, k60) := by kernel_rfl
end Go.Proofs.YtgmnkagomhadcaaGreat.cleanForms
