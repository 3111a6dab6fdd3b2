/- Pieces 22 to 24 of the run of 'snapForms': from the state ahead of each to the state behind it. -/
import Derived.Test.YtgmnkagomhadcaaGreatSnapFormsD2
import Derived.WalkKit
namespace Go.Proofs.YtgmnkagomhadcaaGreat.snapForms
open Go.Ev Go.Ev.Lit
theorem t22 : (chkNx s22 (run F 17715 s21.fr s21.cs s21.h s21.ls), codesNx (idsOf s22.ls) (run F 17715 s21.fr s21.cs s21.h s21.ls)) = (true, k22) := by kernel_rfl
theorem t23 : (chkNx s23 (run F 17797 s22.fr s22.cs s22.h s22.ls), codesNx (idsOf s23.ls) (run F 17797 s22.fr s22.cs s22.h s22.ls)) = (true, k23) := by kernel_rfl
theorem t24 : (chkNx s24 (run F 18581 s23.fr s23.cs s23.h s23.ls), codesNx (idsOf s24.ls) (run F 18581 s23.fr s23.cs s23.h s23.ls)) = (true, k24) := by kernel_rfl
end Go.Proofs.YtgmnkagomhadcaaGreat.snapForms
