/- Pieces 136 to 140 of the run of 'cleanForms': from the state ahead of each to the state behind it. -/
import Derived.Test.YtgmnkagomhadcaaGreatCleanFormsD3
import Derived.WalkKit
namespace Go.Proofs.YtgmnkagomhadcaaGreat.cleanForms
open Go.Ev Go.Ev.Lit
theorem t136 : (chkNx s136 (run F 12981 s135.fr s135.cs s135.h s135.ls), codesNx (idsOf s136.ls) (run F 12981 s135.fr s135.cs s135.h s135.ls)) = (true, k136) := by kernel_rfl
theorem t137 : (chkNx s137 (run F 10873 s136.fr s136.cs s136.h s136.ls), codesNx (idsOf s137.ls) (run F 10873 s136.fr s136.cs s136.h s136.ls)) = (true, k137) := by kernel_rfl
theorem t138 : (chkNx s138 (run F 12917 s137.fr s137.cs s137.h s137.ls), codesNx (idsOf s138.ls) (run F 12917 s137.fr s137.cs s137.h s137.ls)) = (true, k138) := by kernel_rfl
theorem t139 : (chkNx s139 (run F 12663 s138.fr s138.cs s138.h s138.ls), codesNx (idsOf s139.ls) (run F 12663 s138.fr s138.cs s138.h s138.ls)) = (true, k139) := by kernel_rfl
theorem t140 : (chkNx s140 (run F 9947 s139.fr s139.cs s139.h s139.ls), codesNx (idsOf s140.ls) (run F 9947 s139.fr s139.cs s139.h s139.ls)) = (true, k140) := by kernel_rfl
end Go.Proofs.YtgmnkagomhadcaaGreat.cleanForms
