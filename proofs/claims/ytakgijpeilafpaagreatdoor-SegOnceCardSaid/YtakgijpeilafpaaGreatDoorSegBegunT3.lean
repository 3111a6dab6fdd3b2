/- The last piece of the run of 'segBegun'. -/
import Derived.Test.YtakgijpeilafpaaGreatDoorSegBegunD0
import Derived.WalkKit
namespace Go.Proofs.YtakgijpeilafpaaGreatDoor.segBegun
open Go.Ev Go.Ev.Lit
theorem last : isTrue (run F 12246 s2.fr s2.cs s2.h s2.ls) = true := by kernel_rfl
end Go.Proofs.YtakgijpeilafpaaGreatDoor.segBegun
