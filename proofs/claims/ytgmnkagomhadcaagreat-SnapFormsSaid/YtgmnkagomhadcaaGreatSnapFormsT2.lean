/- Pieces 4 to 6 of the run of 'snapForms': from the state ahead of each to the state behind it. -/
import Derived.Test.YtgmnkagomhadcaaGreatSnapFormsD2
import Derived.WalkKit
namespace Go.Proofs.YtgmnkagomhadcaaGreat.snapForms
open Go.Ev Go.Ev.Lit
theorem t4 : (chkNx s4 (run F 18206 s3.fr s3.cs s3.h s3.ls), codesNx (idsOf s4.ls) (run F 18206 s3.fr s3.cs s3.h s3.ls)) = (true, k4) := by kernel_rfl
theorem t5 : (chkNx s5 (run F 17326 s4.fr s4.cs s4.h s4.ls), codesNx (idsOf s5.ls) (run F 17326 s4.fr s4.cs s4.h s4.ls)) = (true, k5) := by kernel_rfl
theorem t6 : (chkNx s6 (run F 17560 s5.fr s5.cs s5.h s5.ls), codesNx (idsOf s6.ls) (run F 17560 s5.fr s5.cs s5.h s5.ls)) = (true, k6) := by kernel_rfl
end Go.Proofs.YtgmnkagomhadcaaGreat.snapForms
