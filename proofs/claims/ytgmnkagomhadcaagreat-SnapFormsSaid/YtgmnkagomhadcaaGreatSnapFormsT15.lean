/- Pieces 43 to 45 of the run of 'snapForms': from the state ahead of each to the state behind it. -/
import Derived.Test.YtgmnkagomhadcaaGreatSnapFormsD2
import Derived.WalkKit
namespace Go.Proofs.YtgmnkagomhadcaaGreat.snapForms
open Go.Ev Go.Ev.Lit
theorem t43 : (chkNx s43 (run F 18700 s42.fr s42.cs s42.h s42.ls), codesNx (idsOf s43.ls) (run F 18700 s42.fr s42.cs s42.h s42.ls)) = (true, k43) := by kernel_rfl
theorem t44 : (chkNx s44 (run F 17402 s43.fr s43.cs s43.h s43.ls), codesNx (idsOf s44.ls) (run F 17402 s43.fr s43.cs s43.h s43.ls)) = (true, k44) := by kernel_rfl
theorem t45 : (chkNx s45 (run F 17727 s44.fr s44.cs s44.h s44.ls), codesNx (idsOf s45.ls) (run F 17727 s44.fr s44.cs s44.h s44.ls)) = (true, k45) := by kernel_rfl
end Go.Proofs.YtgmnkagomhadcaaGreat.snapForms
