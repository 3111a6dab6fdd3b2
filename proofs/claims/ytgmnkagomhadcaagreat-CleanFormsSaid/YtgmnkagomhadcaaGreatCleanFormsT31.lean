/- Pieces 151 to 155 of the run of 'cleanForms': from the state ahead of each to the state behind it. -/
import Derived.Test.YtgmnkagomhadcaaGreatCleanFormsD3
import Derived.WalkKit
namespace Go.Proofs.YtgmnkagomhadcaaGreat.cleanForms
open Go.Ev Go.Ev.Lit
theorem t151 : (chkNx s151 (run F 12911 s150.fr s150.cs s150.h s150.ls), codesNx (idsOf s151.ls) (run F 12911 s150.fr s150.cs s150.h s150.ls)) = (true, k151) := by kernel_rfl
theorem t152 : (chkNx s152 (run F 14106 s151.fr s151.cs s151.h s151.ls), codesNx (idsOf s152.ls) (run F 14106 s151.fr s151.cs s151.h s151.ls)) = (true, k152) := by kernel_rfl
theorem t153 : (chkNx s153 (run F 19913 s152.fr s152.cs s152.h s152.ls), codesNx (idsOf s153.ls) (run F 19913 s152.fr s152.cs s152.h s152.ls)) = (true, k153) := by kernel_rfl
theorem t154 : (chkNx s154 (run F 14668 s153.fr s153.cs s153.h s153.ls), codesNx (idsOf s154.ls) (run F 14668 s153.fr s153.cs s153.h s153.ls)) = (true, k154) := by kernel_rfl
theorem t155 : (chkNx s155 (run F 17615 s154.fr s154.cs s154.h s154.ls), codesNx (idsOf s155.ls) (run F 17615 s154.fr s154.cs s154.h s154.ls)) = (true, k155) := by kernel_rfl
end Go.Proofs.YtgmnkagomhadcaaGreat.cleanForms
