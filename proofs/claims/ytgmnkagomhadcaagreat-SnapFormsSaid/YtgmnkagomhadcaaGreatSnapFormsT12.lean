/- Pieces 34 to 36 of the run of 'snapForms': from the state ahead of each to the state behind it. -/
import Derived.Test.YtgmnkagomhadcaaGreatSnapFormsD2
import Derived.WalkKit
namespace Go.Proofs.YtgmnkagomhadcaaGreat.snapForms
open Go.Ev Go.Ev.Lit
theorem t34 : (chkNx s34 (run F 17951 s33.fr s33.cs s33.h s33.ls), codesNx (idsOf s34.ls) (run F 17951 s33.fr s33.cs s33.h s33.ls)) = (true, k34) := by kernel_rfl
theorem t35 : (chkNx s35 (run F 18569 s34.fr s34.cs s34.h s34.ls), codesNx (idsOf s35.ls) (run F 18569 s34.fr s34.cs s34.h s34.ls)) = (true, k35) := by kernel_rfl
theorem t36 : (chkNx s36 (run F 17428 s35.fr s35.cs s35.h s35.ls), codesNx (idsOf s36.ls) (run F 17428 s35.fr s35.cs s35.h s35.ls)) = (true, k36) := by kernel_rfl
end Go.Proofs.YtgmnkagomhadcaaGreat.snapForms
