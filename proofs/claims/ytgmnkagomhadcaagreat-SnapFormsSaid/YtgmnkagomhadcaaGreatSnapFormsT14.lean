/- Pieces 40 to 42 of the run of 'snapForms': from the state ahead of each to the state behind it. -/
import Derived.Test.YtgmnkagomhadcaaGreatSnapFormsD2
import Derived.WalkKit
namespace Go.Proofs.YtgmnkagomhadcaaGreat.snapForms
open Go.Ev Go.Ev.Lit
theorem t40 : (chkNx s40 (run F 18497 s39.fr s39.cs s39.h s39.ls), codesNx (idsOf s40.ls) (run F 18497 s39.fr s39.cs s39.h s39.ls)) = (true, k40) := by kernel_rfl
theorem t41 : (chkNx s41 (run F 17642 s40.fr s40.cs s40.h s40.ls), codesNx (idsOf s41.ls) (run F 17642 s40.fr s40.cs s40.h s40.ls)) = (true, k41) := by kernel_rfl
theorem t42 : (chkNx s42 (run F 18136 s41.fr s41.cs s41.h s41.ls), codesNx (idsOf s42.ls) (run F 18136 s41.fr s41.cs s41.h s41.ls)) = (true, k42) := by kernel_rfl
end Go.Proofs.YtgmnkagomhadcaaGreat.snapForms
