/- Pieces 13 to 15 of the run of 'snapForms': from the state ahead of each to the state behind it. -/
import Derived.Test.YtgmnkagomhadcaaGreatSnapFormsD2
import Derived.WalkKit
namespace Go.Proofs.YtgmnkagomhadcaaGreat.snapForms
open Go.Ev Go.Ev.Lit
theorem t13 : (chkNx s13 (run F 18258 s12.fr s12.cs s12.h s12.ls), codesNx (idsOf s13.ls) (run F 18258 s12.fr s12.cs s12.h s12.ls)) = (true, k13) := by kernel_rfl
theorem t14 : (chkNx s14 (run F 17577 s13.fr s13.cs s13.h s13.ls), codesNx (idsOf s14.ls) (run F 17577 s13.fr s13.cs s13.h s13.ls)) = (true, k14) := by kernel_rfl
theorem t15 : (chkNx s15 (run F 18177 s14.fr s14.cs s14.h s14.ls), codesNx (idsOf s15.ls) (run F 18177 s14.fr s14.cs s14.h s14.ls)) = (true, k15) := by kernel_rfl
end Go.Proofs.YtgmnkagomhadcaaGreat.snapForms
