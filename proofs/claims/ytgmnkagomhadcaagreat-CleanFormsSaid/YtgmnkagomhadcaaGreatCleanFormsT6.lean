/- Pieces 26 to 30 of the run of 'cleanForms': from the state ahead of each to the state behind it. -/
import Derived.Test.YtgmnkagomhadcaaGreatCleanFormsD3
import Derived.WalkKit
namespace Go.Proofs.YtgmnkagomhadcaaGreat.cleanForms
open Go.Ev Go.Ev.Lit
theorem t26 : (chkNx s26 (run F 9947 s25.fr s25.cs s25.h s25.ls), codesNx (idsOf s26.ls) (run F 9947 s25.fr s25.cs s25.h s25.ls)) = (true, k26) := by kernel_rfl
theorem t27 : (chkNx s27 (run F 12048 s26.fr s26.cs s26.h s26.ls), codesNx (idsOf s27.ls) (run F 12048 s26.fr s26.cs s26.h s26.ls)) = (true, k27) := by kernel_rfl
theorem t28 : (chkNx s28 (run F 10887 s27.fr s27.cs s27.h s27.ls), codesNx (idsOf s28.ls) (run F 10887 s27.fr s27.cs s27.h s27.ls)) = (true, k28) := by kernel_rfl
theorem t29 : (chkNx s29 (run F 12903 s28.fr s28.cs s28.h s28.ls), codesNx (idsOf s29.ls) (run F 12903 s28.fr s28.cs s28.h s28.ls)) = (true, k29) := by kernel_rfl
theorem t30 : (chkNx s30 (run F 10805 s29.fr s29.cs s29.h s29.ls), codesNx (idsOf s30.ls) (run F 10805 s29.fr s29.cs s29.h s29.ls)) = (true, k30) := by kernel_rfl
end Go.Proofs.YtgmnkagomhadcaaGreat.cleanForms
