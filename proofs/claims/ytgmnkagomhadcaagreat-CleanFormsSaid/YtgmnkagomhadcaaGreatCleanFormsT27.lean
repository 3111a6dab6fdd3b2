/- Pieces 131 to 135 of the run of 'cleanForms': from the state ahead of each to the state behind it. -/
import Derived.Test.YtgmnkagomhadcaaGreatCleanFormsD3
import Derived.WalkKit
namespace Go.Proofs.YtgmnkagomhadcaaGreat.cleanForms
open Go.Ev Go.Ev.Lit
theorem t131 : (chkNx s131 (run F 9947 s130.fr s130.cs s130.h s130.ls), codesNx (idsOf s131.ls) (run F 9947 s130.fr s130.cs s130.h s130.ls)) = (true, k131) := by kernel_rfl
theorem t132 : (chkNx s132 (run F 12048 s131.fr s131.cs s131.h s131.ls), codesNx (idsOf s132.ls) (run F 12048 s131.fr s131.cs s131.h s131.ls)) = (true, k132) := by kernel_rfl
theorem t133 : (chkNx s133 (run F 10887 s132.fr s132.cs s132.h s132.ls), codesNx (idsOf s133.ls) (run F 10887 s132.fr s132.cs s132.h s132.ls)) = (true, k133) := by kernel_rfl
theorem t134 : (chkNx s134 (run F 12903 s133.fr s133.cs s133.h s133.ls), codesNx (idsOf s134.ls) (run F 12903 s133.fr s133.cs s133.h s133.ls)) = (true, k134) := by kernel_rfl
theorem t135 : (chkNx s135 (run F 10805 s134.fr s134.cs s134.h s134.ls), codesNx (idsOf s135.ls) (run F 10805 s134.fr s134.cs s134.h s134.ls)) = (true, k135) := by kernel_rfl
end Go.Proofs.YtgmnkagomhadcaaGreat.cleanForms
