/- The last piece of the run of 'sendForms'. -/
import Derived.Test.YtapnfgnofdgliaaGreatDoorSendFormsD0
import Derived.WalkKit
namespace Go.Proofs.YtapnfgnofdgliaaGreatDoor.sendForms
open Go.Ev Go.Ev.Lit
theorem last : isTrue (run F 3375 s24.fr s24.cs s24.h s24.ls) = true := by kernel_rfl
end Go.Proofs.YtapnfgnofdgliaaGreatDoor.sendForms
