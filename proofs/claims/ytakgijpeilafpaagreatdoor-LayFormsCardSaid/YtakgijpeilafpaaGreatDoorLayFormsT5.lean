/- Piece 5 of the run of 'layForms': from the state ahead of it to the state behind it. -/
import Derived.Test.YtakgijpeilafpaaGreatDoorLayFormsD0
import Derived.WalkKit
namespace Go.Proofs.YtakgijpeilafpaaGreatDoor.layForms
open Go.Ev Go.Ev.Lit
theorem t5 : (chkNx s5 (run F 12052 s4.fr s4.cs s4.h s4.ls), codesNx (idsOf s5.ls) (run F 12052 s4.fr s4.cs s4.h s4.ls)) = (true, k5) := by kernel_rfl
end Go.Proofs.YtakgijpeilafpaaGreatDoor.layForms
