/- Pieces 36 to 40 of the run of 'cleanForms': from the state ahead of each to the state behind it. -/
import Derived.Test.YtgmnkagomhadcaaGreatCleanFormsD3
import Derived.WalkKit
namespace Go.Proofs.YtgmnkagomhadcaaGreat.cleanForms
open Go.Ev Go.Ev.Lit
theorem t36 : (chkNx s36 (run F 12048 s35.fr s35.cs s35.h s35.ls), codesNx (idsOf s36.ls) (run F 12048 s35.fr s35.cs s35.h s35.ls)) = (true, k36) := by kernel_rfl
theorem t37 : (chkNx s37 (run F 10887 s36.fr s36.cs s36.h s36.ls), codesNx (idsOf s37.ls) (run F 10887 s36.fr s36.cs s36.h s36.ls)) = (true, k37) := by kernel_rfl
theorem t38 : (chkNx s38 (run F 12903 s37.fr s37.cs s37.h s37.ls), codesNx (idsOf s38.ls) (run F 12903 s37.fr s37.cs s37.h s37.ls)) = (true, k38) := by kernel_rfl
theorem t39 : (chkNx s39 (run F 10805 s38.fr s38.cs s38.h s38.ls), codesNx (idsOf s39.ls) (run F 10805 s38.fr s38.cs s38.h s38.ls)) = (true, k39) := by kernel_rfl
theorem t40 : (chkNx s40 (run F 12981 s39.fr s39.cs s39.h s39.ls), codesNx (idsOf s40.ls) (run F 12981 s39.fr s39.cs s39.h s39.ls)) = (true, k40) := by kernel_rfl
end Go.Proofs.YtgmnkagomhadcaaGreat.cleanForms
