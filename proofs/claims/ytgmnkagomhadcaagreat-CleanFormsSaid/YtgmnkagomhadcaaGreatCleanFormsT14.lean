/- Pieces 66 to 70 of the run of 'cleanForms': from the state ahead of each to the state behind it. -/
import Derived.Test.YtgmnkagomhadcaaGreatCleanFormsD3
import Derived.WalkKit
namespace Go.Proofs.YtgmnkagomhadcaaGreat.cleanForms
open Go.Ev Go.Ev.Lit
theorem t66 : (chkNx s66 (run F 10805 s65.fr s65.cs s65.h s65.ls), codesNx (idsOf s66.ls) (run F 10805 s65.fr s65.cs s65.h s65.ls)) = (true, k66) := by kernel_rfl
theorem t67 : (chkNx s67 (run F 12981 s66.fr s66.cs s66.h s66.ls), codesNx (idsOf s67.ls) (run F 12981 s66.fr s66.cs s66.h s66.ls)) = (true, k67) := by kernel_rfl
theorem t68 : (chkNx s68 (run F 10873 s67.fr s67.cs s67.h s67.ls), codesNx (idsOf s68.ls) (run F 10873 s67.fr s67.cs s67.h s67.ls)) = (true, k68) := by kernel_rfl
theorem t69 : (chkNx s69 (run F 12917 s68.fr s68.cs s68.h s68.ls), codesNx (idsOf s69.ls) (run F 12917 s68.fr s68.cs s68.h s68.ls)) = (true, k69) := by kernel_rfl
theorem t70 : (chkNx s70 (run F 10873 s69.fr s69.cs s69.h s69.ls), codesNx (idsOf s70.ls) (run F 10873 s69.fr s69.cs s69.h s69.ls)) = (true, k70) := by kernel_rfl
end Go.Proofs.YtgmnkagomhadcaaGreat.cleanForms
