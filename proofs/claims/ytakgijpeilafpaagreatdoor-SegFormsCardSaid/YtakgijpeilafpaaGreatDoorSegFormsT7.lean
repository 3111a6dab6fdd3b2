/- The last piece of the run of 'segForms'. -/
import Derived.Test.YtakgijpeilafpaaGreatDoorSegFormsD0
import Derived.WalkKit
namespace Go.Proofs.YtakgijpeilafpaaGreatDoor.segForms
open Go.Ev Go.Ev.Lit
theorem last : isTrue (run F 8119 s6.fr s6.cs s6.h s6.ls) = true := by kernel_rfl
end Go.Proofs.YtakgijpeilafpaaGreatDoor.segForms
