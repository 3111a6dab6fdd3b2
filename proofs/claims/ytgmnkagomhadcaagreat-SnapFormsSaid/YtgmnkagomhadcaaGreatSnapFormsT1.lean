/- Pieces 1 to 3 of the run of 'snapForms': from the state ahead of each to the state behind it. -/
import Derived.Test.YtgmnkagomhadcaaGreatSnapFormsD2
import Derived.WalkKit
namespace Go.Proofs.YtgmnkagomhadcaaGreat.snapForms
open Go.Ev Go.Ev.Lit
theorem t1 : (chkNx s1 (run F 14323 (st0 Tryz.prog 5).fr (st0 Tryz.prog 5).cs (st0 Tryz.prog 5).h (st0 Tryz.prog 5).ls), codesNx (idsOf s1.ls) (run F 14323 (st0 Tryz.prog 5).fr (st0 Tryz.prog 5).cs (st0 Tryz.prog 5).h (st0 Tryz.prog 5).ls)) = (true, k1) := by kernel_rfl
theorem t2 : (chkNx s2 (run F 15381 s1.fr s1.cs s1.h s1.ls), codesNx (idsOf s2.ls) (run F 15381 s1.fr s1.cs s1.h s1.ls)) = (true, k2) := by kernel_rfl
theorem t3 : (chkNx s3 (run F 17872 s2.fr s2.cs s2.h s2.ls), codesNx (idsOf s3.ls) (run F 17872 s2.fr s2.cs s2.h s2.ls)) = (true, k3) := by kernel_rfl
end Go.Proofs.YtgmnkagomhadcaaGreat.snapForms
