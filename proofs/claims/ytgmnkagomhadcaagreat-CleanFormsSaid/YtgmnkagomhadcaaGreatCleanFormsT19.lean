/- Pieces 91 to 95 of the run of 'cleanForms': from the state ahead of each to the state behind it. -/
import Derived.Test.YtgmnkagomhadcaaGreatCleanFormsD3
import Derived.WalkKit
namespace Go.Proofs.YtgmnkagomhadcaaGreat.cleanForms
open Go.Ev Go.Ev.Lit
theorem t91 : (chkNx s91 (run F 12981 s90.fr s90.cs s90.h s90.ls), codesNx (idsOf s91.ls) (run F 12981 s90.fr s90.cs s90.h s90.ls)) = (true, k91) := by kernel_rfl
theorem t92 : (chkNx s92 (run F 10873 s91.fr s91.cs s91.h s91.ls), codesNx (idsOf s92.ls) (run F 10873 s91.fr s91.cs s91.h s91.ls)) = (true, k92) := by kernel_rfl
theorem t93 : (chkNx s93 (run F 12917 s92.fr s92.cs s92.h s92.ls), codesNx (idsOf s93.ls) (run F 12917 s92.fr s92.cs s92.h s92.ls)) = (true, k93) := by kernel_rfl
theorem t94 : (chkNx s94 (run F 12663 s93.fr s93.cs s93.h s93.ls), codesNx (idsOf s94.ls) (run F 12663 s93.fr s93.cs s93.h s93.ls)) = (true, k94) := by kernel_rfl
theorem t95 : (chkNx s95 (run F 9947 s94.fr s94.cs s94.h s94.ls), codesNx (idsOf s95.ls) (run F 9947 s94.fr s94.cs s94.h s94.ls)) = (true, k95) := by kernel_rfl
end Go.Proofs.YtgmnkagomhadcaaGreat.cleanForms
