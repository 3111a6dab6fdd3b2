/- Piece 2 of the run of 'segBegun': from the state ahead of it to the state behind it. -/
import Derived.Test.YtakgijpeilafpaaGreatDoorSegBegunD0
import Derived.WalkKit
namespace Go.Proofs.YtakgijpeilafpaaGreatDoor.segBegun
open Go.Ev Go.Ev.Lit
theorem t2 : (chkNx s2 (run F 11992 s1.fr s1.cs s1.h s1.ls), codesNx (idsOf s2.ls) (run F 11992 s1.fr s1.cs s1.h s1.ls)) = (true, k2) := by kernel_rfl
end Go.Proofs.YtakgijpeilafpaaGreatDoor.segBegun
