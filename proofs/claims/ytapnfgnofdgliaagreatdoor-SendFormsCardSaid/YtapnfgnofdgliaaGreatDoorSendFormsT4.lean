/- Pieces 7 to 8 of the run of 'sendForms': from the state ahead of each to the state behind it. -/
import Derived.Test.YtapnfgnofdgliaaGreatDoorSendFormsD0
import Derived.WalkKit
namespace Go.Proofs.YtapnfgnofdgliaaGreatDoor.sendForms
open Go.Ev Go.Ev.Lit
theorem t7 : (chkNx s7 (run F 16385 s6.fr s6.cs s6.h s6.ls), codesNx (idsOf s7.ls) (run F 16385 s6.fr s6.cs s6.h s6.ls)) = (true, k7) := by kernel_rfl
theorem t8 : (chkNx s8 (run F 14050 s7.fr s7.cs s7.h s7.ls), codesNx (idsOf s8.ls) (run F 14050 s7.fr s7.cs s7.h s7.ls)) = (true, k8) := by kernel_rfl
end Go.Proofs.YtapnfgnofdgliaaGreatDoor.sendForms
