/- Piece 1 of the run of 'liveForms': from the state ahead of it to the state behind it. -/
import Derived.Test.YtakgijpeilafpaaGreatDoorLiveFormsD0
import Derived.WalkKit
namespace Go.Proofs.YtakgijpeilafpaaGreatDoor.liveForms
open Go.Ev Go.Ev.Lit
theorem t1 : (chkNx s1 (run F 11856 (st0 Tryz.prog 3).fr (st0 Tryz.prog 3).cs (st0 Tryz.prog 3).h (st0 Tryz.prog 3).ls), codesNx (idsOf s1.ls) (run F 11856 (st0 Tryz.prog 3).fr (st0 Tryz.prog 3).cs (st0 Tryz.prog 3).h (st0 Tryz.prog 3).ls)) = (true, k1) := by kernel_rfl
end Go.Proofs.YtakgijpeilafpaaGreatDoor.liveForms
