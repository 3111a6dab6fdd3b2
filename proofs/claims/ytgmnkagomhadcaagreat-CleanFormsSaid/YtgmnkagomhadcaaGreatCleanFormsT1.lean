/- Pieces 1 to 5 of the run of 'cleanForms': from the state ahead of each to the state behind it. -/
import Derived.Test.YtgmnkagomhadcaaGreatCleanFormsD3
import Derived.WalkKit
namespace Go.Proofs.YtgmnkagomhadcaaGreat.cleanForms
open Go.Ev Go.Ev.Lit
theorem t1 : (chkNx s1 (run F 11283 (st0 Tryz.prog 4).fr (st0 Tryz.prog 4).cs (st0 Tryz.prog 4).h (st0 Tryz.prog 4).ls), codesNx (idsOf s1.ls) (run F 11283 (st0 Tryz.prog 4).fr (st0 Tryz.prog 4).cs (st0 Tryz.prog 4).h (st0 Tryz.prog 4).ls)) = (true, k1) := by kernel_rfl
theorem t2 : (chkNx s2 (run F 17071 s1.fr s1.cs s1.h s1.ls), codesNx (idsOf s2.ls) (run F 17071 s1.fr s1.cs s1.h s1.ls)) = (true, k2) := by kernel_rfl
theorem t3 : (chkNx s3 (run F 11954 s2.fr s2.cs s2.h s2.ls), codesNx (idsOf s3.ls) (run F 11954 s2.fr s2.cs s2.h s2.ls)) = (true, k3) := by kernel_rfl
theorem t4 : (chkNx s4 (run F 13520 s3.fr s3.cs s3.h s3.ls), codesNx (idsOf s4.ls) (run F 13520 s3.fr s3.cs s3.h s3.ls)) = (true, k4) := by kernel_rfl
theorem t5 : (chkNx s5 (run F 10333 s4.fr s4.cs s4.h s4.ls), codesNx (idsOf s5.ls) (run F 10333 s4.fr s4.cs s4.h s4.ls)) = (true, k5) := by kernel_rfl
end Go.Proofs.YtgmnkagomhadcaaGreat.cleanForms
