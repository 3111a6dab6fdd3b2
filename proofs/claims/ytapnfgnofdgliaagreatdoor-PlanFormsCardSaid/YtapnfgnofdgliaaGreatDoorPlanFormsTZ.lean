/- The last piece of the run of 'planForms'. -/
import Derived.Test.YtapnfgnofdgliaaGreatDoorPlanFormsD0
import Derived.WalkKit
namespace Go.Proofs.YtapnfgnofdgliaaGreatDoor.planForms
open Go.Ev Go.Ev.Lit
theorem last : isTrue (run F 13887 s6.fr s6.cs s6.h s6.ls) = true := by kernel_rfl
end Go.Proofs.YtapnfgnofdgliaaGreatDoor.planForms
