/- Piece 1 of the run of 'segBegun': from the state ahead of it to the state behind it. -/
import Derived.Test.YtakgijpeilafpaaGreatDoorSegBegunD0
import Derived.WalkKit
namespace Go.Proofs.YtakgijpeilafpaaGreatDoor.segBegun
open Go.Ev Go.Ev.Lit
theorem t1 : (chkNx s1 (run F 11852 (st0 Tryz.prog 12).fr (st0 Tryz.prog 12).cs (st0 Tryz.prog 12).h (st0 Tryz.prog 12).ls), codesNx (idsOf s1.ls) (run F 11852 (st0 Tryz.prog 12).fr (st0 Tryz.prog 12).cs (st0 Tryz.prog 12).h (st0 Tryz.prog 12).ls)) = (true, k1) := by kernel_rfl
end Go.Proofs.YtakgijpeilafpaaGreatDoor.segBegun
