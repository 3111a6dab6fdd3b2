/- Pieces 10 to 12 of the run of 'snapForms': from the state ahead of each to the state behind it. -/
import Derived.Test.YtgmnkagomhadcaaGreatSnapFormsD2
import Derived.WalkKit
namespace Go.Proofs.YtgmnkagomhadcaaGreat.snapForms
open Go.Ev Go.Ev.Lit
theorem t10 : (chkNx s10 (run F 17640 s9.fr s9.cs s9.h s9.ls), codesNx (idsOf s10.ls) (run F 17640 s9.fr s9.cs s9.h s9.ls)) = (true, k10) := by kernel_rfl
theorem t11 : (chkNx s11 (run F 17987 s10.fr s10.cs s10.h s10.ls), codesNx (idsOf s11.ls) (run F 17987 s10.fr s10.cs s10.h s10.ls)) = (true, k11) := by kernel_rfl
theorem t12 : (chkNx s12 (run F 17406 s11.fr s11.cs s11.h s11.ls), codesNx (idsOf s12.ls) (run F 17406 s11.fr s11.cs s11.h s11.ls)) = (true, k12) := by kernel_rfl
end Go.Proofs.YtgmnkagomhadcaaGreat.snapForms
