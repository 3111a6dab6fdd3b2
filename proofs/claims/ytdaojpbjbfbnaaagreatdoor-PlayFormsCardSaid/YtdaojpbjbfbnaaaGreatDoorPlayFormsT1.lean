/- Pieces 1 to 2 of the run of 'playForms': from the state ahead of each to the state behind it. -/
import Derived.Test.YtdaojpbjbfbnaaaGreatDoorPlayFormsD1
import Derived.WalkKit
namespace Go.Proofs.YtdaojpbjbfbnaaaGreatDoor.playForms
open Go.Ev Go.Ev.Lit
theorem t1 : (chkNx s1 (run F 16751 (st0 Tryz.prog 3).fr (st0 Tryz.prog 3).cs (st0 Tryz.prog 3).h (st0 Tryz.prog 3).ls), codesNx (idsOf s1.ls) (run F 16751 (st0 Tryz.prog 3).fr (st0 Tryz.prog 3).cs (st0 Tryz.prog 3).h (st0 Tryz.prog 3).ls)) = (true, k1) := by kernel_rfl
theorem t2 : (chkNx s2 (run F 16550 s1.fr s1.cs s1.h s1.ls), codesNx (idsOf s2.ls) (run F 16550 s1.fr s1.cs s1.h s1.ls)) = (true, k2) := by kernel_rfl
end Go.Proofs.YtdaojpbjbfbnaaaGreatDoor.playForms
