/- Pieces 96 to 100 of the run of 'cleanForms': from the state ahead of each to the state behind it. -/
import Derived.Test.YtgmnkagomhadcaaGreatCleanFormsD3
import Derived.WalkKit
namespace Go.Proofs.YtgmnkagomhadcaaGreat.cleanForms
open Go.Ev Go.Ev.Lit
theorem t96 : (chkNx s96 (run F 12048 s95.fr s95.cs s95.h s95.ls), codesNx (idsOf s96.ls) (run F 12048 s95.fr s95.cs s95.h s95.ls)) = (true, k96) := by kernel_rfl
theorem t97 : (chkNx s97 (run F 10887 s96.fr s96.cs s96.h s96.ls), codesNx (idsOf s97.ls) (run F 10887 s96.fr s96.cs s96.h s96.ls)) = (true, k97) := by kernel_rfl
theorem t98 : (chkNx s98 (run F 12903 s97.fr s97.cs s97.h s97.ls), codesNx (idsOf s98.ls) (run F 12903 s97.fr s97.cs s97.h s97.ls)) = (true, k98) := by kernel_rfl
theorem t99 : (chkNx s99 (run F 10805 s98.fr s98.cs s98.h s98.ls), codesNx (idsOf s99.ls) (run F 10805 s98.fr s98.cs s98.h s98.ls)) = (true, k99) := by kernel_rfl
theorem t100 : (chkNx s100 (run F 12981 s99.fr s99.cs s99.h s99.ls), codesNx (idsOf s100.ls) (run F 12981 s99.fr s99.cs s99.h s99.ls)) = (true, k100) := by kernel_rfl
end Go.Proofs.YtgmnkagomhadcaaGreat.cleanForms
