/- Pieces 37 to 39 of the run of 'snapForms': from the state ahead of each to the state behind it. -/
import Derived.Test.YtgmnkagomhadcaaGreatSnapFormsD2
import Derived.WalkKit
namespace Go.Proofs.YtgmnkagomhadcaaGreat.snapForms
open Go.Ev Go.Ev.Lit
theorem t37 : (chkNx s37 (run F 17138 s36.fr s36.cs s36.h s36.ls), codesNx (idsOf s37.ls) (run F 17138 s36.fr s36.cs s36.h s36.ls)) = (true, k37) := by kernel_rfl
theorem t38 : (chkNx s38 (run F 18075 s37.fr s37.cs s37.h s37.ls), codesNx (idsOf s38.ls) (run F 18075 s37.fr s37.cs s37.h s37.ls)) = (true, k38) := by kernel_rfl
theorem t39 : (chkNx s39 (run F 18113 s38.fr s38.cs s38.h s38.ls), codesNx (idsOf s39.ls) (run F 18113 s38.fr s38.cs s38.h s38.ls)) = (true, k39) := by kernel_rfl
end Go.Proofs.YtgmnkagomhadcaaGreat.snapForms
