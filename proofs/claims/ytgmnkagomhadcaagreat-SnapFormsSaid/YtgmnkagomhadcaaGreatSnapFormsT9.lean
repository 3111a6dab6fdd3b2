/- Pieces 25 to 27 of the run of 'snapForms': from the state ahead of each to the state behind it. -/
import Derived.Test.YtgmnkagomhadcaaGreatSnapFormsD2
import Derived.WalkKit
namespace Go.Proofs.YtgmnkagomhadcaaGreat.snapForms
open Go.Ev Go.Ev.Lit
theorem t25 : (chkNx s25 (run F 17861 s24.fr s24.cs s24.h s24.ls), codesNx (idsOf s25.ls) (run F 17861 s24.fr s24.cs s24.h s24.ls)) = (true, k25) := by kernel_rfl
theorem t26 : (chkNx s26 (run F 17976 s25.fr s25.cs s25.h s25.ls), codesNx (idsOf s26.ls) (run F 17976 s25.fr s25.cs s25.h s25.ls)) = (true, k26) := by kernel_rfl
theorem t27 : (chkNx s27 (run F 18634 s26.fr s26.cs s26.h s26.ls), codesNx (idsOf s27.ls) (run F 18634 s26.fr s26.cs s26.h s26.ls)) = (true, k27) := by kernel_rfl
end Go.Proofs.YtgmnkagomhadcaaGreat.snapForms
