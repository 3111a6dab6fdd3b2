/- The last piece of the run of 'layForms'. -/
import Derived.Test.YtakgijpeilafpaaGreatDoorLayFormsD0
import Derived.WalkKit
namespace Go.Proofs.YtakgijpeilafpaaGreatDoor.layForms
open Go.Ev Go.Ev.Lit
theorem last : isTrue (run F 4620 s8.fr s8.cs s8.h s8.ls) = true := by kernel_rfl
end Go.Proofs.YtakgijpeilafpaaGreatDoor.layForms
