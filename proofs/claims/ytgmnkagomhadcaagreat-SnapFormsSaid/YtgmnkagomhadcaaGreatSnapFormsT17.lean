/- Pieces 49 to 51 of the run of 'snapForms': from the state ahead of each to the state behind it. -/
import Derived.Test.YtgmnkagomhadcaaGreatSnapFormsD2
import Derived.WalkKit
namespace Go.Proofs.YtgmnkagomhadcaaGreat.snapForms
open Go.Ev Go.Ev.Lit
theorem t49 : (chkNx s49 (run F 17526 s48.fr s48.cs s48.h s48.ls), codesNx (idsOf s49.ls) (run F 17526 s48.fr s48.cs s48.h s48.ls)) = (true, k49) := by kernel_rfl
theorem t50 : (chkNx s50 (run F 18099 s49.fr s49.cs s49.h s49.ls), codesNx (idsOf s50.ls) (run F 18099 s49.fr s49.cs s49.h s49.ls)) = (true, k50) := by kernel_rfl
theorem t51 : (chkNx s51 (run F 18553 s50.fr s50.cs s50.h s50.ls), codesNx (idsOf s51.ls) (run F 18553 s50.fr s50.cs s50.h s50.ls)) = (true, k51) := by kernel_rfl
end Go.Proofs.YtgmnkagomhadcaaGreat.snapForms
