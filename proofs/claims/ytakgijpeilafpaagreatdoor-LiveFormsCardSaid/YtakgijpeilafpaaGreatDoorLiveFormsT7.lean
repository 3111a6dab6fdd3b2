/- The last piece of the run of 'liveForms'. -/
import Derived.Test.YtakgijpeilafpaaGreatDoorLiveFormsD0
import Derived.WalkKit
namespace Go.Proofs.YtakgijpeilafpaaGreatDoor.liveForms
open Go.Ev Go.Ev.Lit
theorem last : isTrue (run F 13496 s6.fr s6.cs s6.h s6.ls) = true := by kernel_rfl
end Go.Proofs.YtakgijpeilafpaaGreatDoor.liveForms
