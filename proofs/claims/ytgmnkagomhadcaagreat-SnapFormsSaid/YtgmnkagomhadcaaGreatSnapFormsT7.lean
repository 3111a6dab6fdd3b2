/- Pieces 19 to 21 of the run of 'snapForms': from the state ahead of each to the state behind it. -/
import Derived.Test.YtgmnkagomhadcaaGreatSnapFormsD2
import Derived.WalkKit
namespace Go.Proofs.YtgmnkagomhadcaaGreat.snapForms
open Go.Ev Go.Ev.Lit
theorem t19 : (chkNx s19 (run F 17311 s18.fr s18.cs s18.h s18.ls), codesNx (idsOf s19.ls) (run F 17311 s18.fr s18.cs s18.h s18.ls)) = (true, k19) := by kernel_rfl
theorem t20 : (chkNx s20 (run F 18717 s19.fr s19.cs s19.h s19.ls), codesNx (idsOf s20.ls) (run F 18717 s19.fr s19.cs s19.h s19.ls)) = (true, k20) := by kernel_rfl
theorem t21 : (chkNx s21 (run F 17423 s20.fr s20.cs s20.h s20.ls), codesNx (idsOf s21.ls) (run F 17423 s20.fr s20.cs s20.h s20.ls)) = (true, k21) := by kernel_rfl
end Go.Proofs.YtgmnkagomhadcaaGreat.snapForms
