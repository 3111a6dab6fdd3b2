/- Pieces 11 to 15 of the run of 'cleanForms': from the state ahead of each to the state behind it. -/
import Derived.Test.YtgmnkagomhadcaaGreatCleanFormsD3
import Derived.WalkKit
namespace Go.Proofs.YtgmnkagomhadcaaGreat.cleanForms
open Go.Ev Go.Ev.Lit
theorem t11 : (chkNx s11 (run F 12929 s10.fr s10.cs s10.h s10.ls), codesNx (idsOf s11.ls) (run F 12929 s10.fr s10.cs s10.h s10.ls)) = (true, k11) := by kernel_rfl
theorem t12 : (chkNx s12 (run F 10825 s11.fr s11.cs s11.h s11.ls), codesNx (idsOf s12.ls) (run F 10825 s11.fr s11.cs s11.h s11.ls)) = (true, k12) := by kernel_rfl
theorem t13 : (chkNx s13 (run F 12981 s12.fr s12.cs s12.h s12.ls), codesNx (idsOf s13.ls) (run F 12981 s12.fr s12.cs s12.h s12.ls)) = (true, k13) := by kernel_rfl
theorem t14 : (chkNx s14 (run F 10873 s13.fr s13.cs s13.h s13.ls), codesNx (idsOf s14.ls) (run F 10873 s13.fr s13.cs s13.h s13.ls)) = (true, k14) := by kernel_rfl
theorem t15 : (chkNx s15 (run F 12917 s14.fr s14.cs s14.h s14.ls), codesNx (idsOf s15.ls) (run F 12917 s14.fr s14.cs s14.h s14.ls)) = (true, k15) := by kernel_rfl
end Go.Proofs.YtgmnkagomhadcaaGreat.cleanForms
