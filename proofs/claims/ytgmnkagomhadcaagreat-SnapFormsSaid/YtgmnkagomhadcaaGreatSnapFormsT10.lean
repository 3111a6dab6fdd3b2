/- Pieces 28 to 30 of the run of 'snapForms': from the state ahead of each to the state behind it. -/
import Derived.Test.YtgmnkagomhadcaaGreatSnapFormsD2
import Derived.WalkKit
namespace Go.Proofs.YtgmnkagomhadcaaGreat.snapForms
open Go.Ev Go.Ev.Lit
theorem t28 : (chkNx s28 (run F 17843 s27.fr s27.cs s27.h s27.ls), codesNx (idsOf s28.ls) (run F 17843 s27.fr s27.cs s27.h s27.ls)) = (true, k28) := by kernel_rfl
theorem t29 : (chkNx s29 (run F 17480 s28.fr s28.cs s28.h s28.ls), codesNx (idsOf s29.ls) (run F 17480 s28.fr s28.cs s28.h s28.ls)) = (true, k29) := by kernel_rfl
theorem t30 : (chkNx s30 (run F 17286 s29.fr s29.cs s29.h s29.ls), codesNx (idsOf s30.ls) (run F 17286 s29.fr s29.cs s29.h s29.ls)) = (true, k30) := by kernel_rfl
end Go.Proofs.YtgmnkagomhadcaaGreat.snapForms
