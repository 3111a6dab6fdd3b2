/- Pieces 41 to 45 of the run of 'cleanForms': from the state ahead of each to the state behind it. -/
import Derived.Test.YtgmnkagomhadcaaGreatCleanFormsD3
import Derived.WalkKit
namespace Go.Proofs.YtgmnkagomhadcaaGreat.cleanForms
open Go.Ev Go.Ev.Lit
theorem t41 : (chkNx s41 (run F 10873 s40.fr s40.cs s40.h s40.ls), codesNx (idsOf s41.ls) (run F 10873 s40.fr s40.cs s40.h s40.ls)) = (true, k41) := by kernel_rfl
theorem t42 : (chkNx s42 (run F 12917 s41.fr s41.cs s41.h s41.ls), codesNx (idsOf s42.ls) (run F 12917 s41.fr s41.cs s41.h s41.ls)) = (true, k42) := by kernel_rfl
theorem t43 : (chkNx s43 (run F 12663 s42.fr s42.cs s42.h s42.ls), codesNx (idsOf s43.ls) (run F 12663 s42.fr s42.cs s42.h s42.ls)) = (true, k43) := by kernel_rfl
theorem t44 : (chkNx s44 (run F 9947 s43.fr s43.cs s43.h s43.ls), codesNx (idsOf s44.ls) (run F 9947 s43.fr s43.cs s43.h s43.ls)) = (true, k44) := by kernel_rfl
theorem t45 : (chkNx s45 (run F 12048 s44.fr s44.cs s44.h s44.ls), codesNx (idsOf s45.ls) (run F 12048 s44.fr s44.cs s44.h s44.ls)) = (true, k45) := by kernel_rfl
end Go.Proofs.YtgmnkagomhadcaaGreat.cleanForms
