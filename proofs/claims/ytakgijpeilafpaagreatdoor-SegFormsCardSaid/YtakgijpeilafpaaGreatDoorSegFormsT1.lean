/- Piece 1 of the run of 'segForms': from the state ahead of it to the state behind it. -/
import Derived.Test.YtakgijpeilafpaaGreatDoorSegFormsD0
import Derived.WalkKit
namespace Go.Proofs.YtakgijpeilafpaaGreatDoor.segForms
open Go.Ev Go.Ev.Lit
theorem t1 : (chkNx s1 (run F 11856 (st0 Tryz.prog 5).fr (st0 Tryz.prog 5).cs (st0 Tryz.prog 5).h (st0 Tryz.prog 5).ls), codesNx (idsOf s1.ls) (run F 11856 (st0 Tryz.prog 5).fr (st0 Tryz.prog 5).cs (st0 Tryz.prog 5).h (st0 Tryz.prog 5).ls)) = (true, k1) := by kernel_rfl
end Go.Proofs.YtakgijpeilafpaaGreatDoor.segForms
