/- Pieces 7 to 9 of the run of 'snapForms': from the state ahead of each to the state behind it. -/
import Derived.Test.YtgmnkagomhadcaaGreatSnapFormsD2
import Derived.WalkKit
namespace Go.Proofs.YtgmnkagomhadcaaGreat.snapForms
open Go.Ev Go.Ev.Lit
theorem t7 : (chkNx s7 (run F 17663 s6.fr s6.cs s6.h s6.ls), codesNx (idsOf s7.ls) (run F 17663 s6.fr s6.cs s6.h s6.ls)) = (true, k7) := by kernel_rfl
theorem t8 : (chkNx s8 (run F 15709 s7.fr s7.cs s7.h s7.ls), codesNx (idsOf s8.ls) (run F 15709 s7.fr s7.cs s7.h s7.ls)) = (true, k8) := by kernel_rfl
theorem t9 : (chkNx s9 (run F 13699 s8.fr s8.cs s8.h s8.ls), codesNx (idsOf s9.ls) (run F 13699 s8.fr s8.cs s8.h s8.ls)) = (true, k9) := by kernel_rfl
end Go.Proofs.YtgmnkagomhadcaaGreat.snapForms
