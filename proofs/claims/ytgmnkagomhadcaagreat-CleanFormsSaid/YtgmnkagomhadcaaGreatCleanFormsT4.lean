/- Pieces 16 to 20 of the run of 'cleanForms': from the state ahead of each to the state behind it. -/
import Derived.Test.YtgmnkagomhadcaaGreatCleanFormsD3
import Derived.WalkKit
namespace Go.Proofs.YtgmnkagomhadcaaGreat.cleanForms
open Go.Ev Go.Ev.Lit
theorem t16 : (chkNx s16 (run F 12663 s15.fr s15.cs s15.h s15.ls), codesNx (idsOf s16.ls) (run F 12663 s15.fr s15.cs s15.h s15.ls)) = (true, k16) := by kernel_rfl
theorem t17 : (chkNx s17 (run F 9947 s16.fr s16.cs s16.h s16.ls), codesNx (idsOf s17.ls) (run F 9947 s16.fr s16.cs s16.h s16.ls)) = (true, k17) := by kernel_rfl
theorem t18 : (chkNx s18 (run F 12048 s17.fr s17.cs s17.h s17.ls), codesNx (idsOf s18.ls) (run F 12048 s17.fr s17.cs s17.h s17.ls)) = (true, k18) := by kernel_rfl
theorem t19 : (chkNx s19 (run F 10887 s18.fr s18.cs s18.h s18.ls), codesNx (idsOf s19.ls) (run F 10887 s18.fr s18.cs s18.h s18.ls)) = (true, k19) := by kernel_rfl
theorem t20 : (chkNx s20 (run F 12903 s19.fr s19.cs s19.h s19.ls), codesNx (idsOf s20.ls) (run F 12903 s19.fr s19.cs s19.h s19.ls)) = (true, k20) := by kernel_rfl
end Go.Proofs.YtgmnkagomhadcaaGreat.cleanForms
