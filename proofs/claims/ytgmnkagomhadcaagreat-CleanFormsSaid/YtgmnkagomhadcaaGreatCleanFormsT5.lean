/- Pieces 21 to 25 of the run of 'cleanForms': from the state ahead of each to the state behind it. -/
import Derived.Test.YtgmnkagomhadcaaGreatCleanFormsD3
import Derived.WalkKit
namespace Go.Proofs.YtgmnkagomhadcaaGreat.cleanForms
open Go.Ev Go.Ev.Lit
theorem t21 : (chkNx s21 (run F 10805 s20.fr s20.cs s20.h s20.ls), codesNx (idsOf s21.ls) (run F 10805 s20.fr s20.cs s20.h s20.ls)) = (true, k21) := by kernel_rfl
theorem t22 : (chkNx s22 (run F 12981 s21.fr s21.cs s21.h s21.ls), codesNx (idsOf s22.ls) (run F 12981 s21.fr s21.cs s21.h s21.ls)) = (true, k22) := by kernel_rfl
theorem t23 : (chkNx s23 (run F 10873 s22.fr s22.cs s22.h s22.ls), codesNx (idsOf s23.ls) (run F 10873 s22.fr s22.cs s22.h s22.ls)) = (true, k23) := by kernel_rfl
theorem t24 : (chkNx s24 (run F 12917 s23.fr s23.cs s23.h s23.ls), codesNx (idsOf s24.ls) (run F 12917 s23.fr s23.cs s23.h s23.ls)) = (true, k24) := by kernel_rfl
theorem t25 : (chkNx s25 (run F 12663 s24.fr s24.cs s24.h s24.ls), codesNx (idsOf s25.ls) (run F 12663 s24.fr s24.cs s24.h s24.ls)) = (true, k25) := by kernel_rfl
end Go.Proofs.YtgmnkagomhadcaaGreat.cleanForms
