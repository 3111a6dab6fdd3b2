/- Pieces 16 to 18 of the run of 'snapForms': from the state ahead of each to the state behind it. -/
import Derived.Test.YtgmnkagomhadcaaGreatSnapFormsD2
import Derived.WalkKit
namespace Go.Proofs.YtgmnkagomhadcaaGreat.snapForms
open Go.Ev Go.Ev.Lit
theorem t16 : (chkNx s16 (run F 17478 s15.fr s15.cs s15.h s15.ls), codesNx (idsOf s16.ls) (run F 17478 s15.fr s15.cs s15.h s15.ls)) = (true, k16) := by kernel_rfl
theorem t17 : (chkNx s17 (run F 17766 s16.fr s16.cs s16.h s16.ls), codesNx (idsOf s17.ls) (run F 17766 s16.fr s16.cs s16.h s16.ls)) = (true, k17) := by kernel_rfl
theorem t18 : (chkNx s18 (run F 18427 s17.fr s17.cs s17.h s17.ls), codesNx (idsOf s18.ls) (run F 18427 s17.fr s17.cs s17.h s17.ls)) = (true, k18) := by kernel_rfl
end Go.Proofs.YtgmnkagomhadcaaGreat.snapForms
