/- Pieces 51 to 55 of the run of 'cleanForms': from the state ahead of each to the state behind it. -/
import Derived.Test.YtgmnkagomhadcaaGreatCleanFormsD3
import Derived.WalkKit
namespace Go.Proofs.YtgmnkagomhadcaaGreat.cleanForms
open Go.Ev Go.Ev.Lit
theorem t51 : (chkNx s51 (run F 12917 s50.fr s50.cs s50.h s50.ls), codesNx (idsOf s51.ls) (run F 12917 s50.fr s50.cs s50.h s50.ls)) = (true, k51) := by kernel_rfl
theorem t52 : (chkNx s52 (run F 12663 s51.fr s51.cs s51.h s51.ls), codesNx (idsOf s52.ls) (run F 12663 s51.fr s51.cs s51.h s51.ls)) = (true, k52) := by kernel_rfl
theorem t53 : (chkNx s53 (run F 9947 s52.fr s52.cs s52.h s52.ls), codesNx (idsOf s53.ls) (run F 9947 s52.fr s52.cs s52.h s52.ls)) = (true, k53) := by kernel_rfl
theorem t54 : (chkNx s54 (run F 12048 s53.fr s53.cs s53.h s53.ls), codesNx (idsOf s54.ls) (run F 12048 s53.fr s53.cs s53.h s53.ls)) = (true, k54) := by kernel_rfl
theorem t55 : (chkNx s55 (run F 10887 s54.fr s54.cs s54.h s54.ls), codesNx (idsOf s55.ls) (run F 10887 s54.fr s54.cs s54.h s54.ls)) = (true, k55) := by kernel_rfl
end Go.Proofs.YtgmnkagomhadcaaGreat.cleanForms
