/- Piece 8 of the run of 'layForms': from the state ahead of it to the state behind it. -/
import Derived.Test.YtakgijpeilafpaaGreatDoorLayFormsD0
import Derived.WalkKit
namespace Go.Proofs.YtakgijpeilafpaaGreatDoor.layForms
open Go.Ev Go.Ev.Lit
theorem t8 : (chkNx s8 (run F 14664 s7.fr s7.cs s7.h s7.ls), codesNx (idsOf s8.ls) (run F 14664 s7.fr s7.cs s7.h s7.ls)) = (true, k8) := by kernel_rfl
end Go.Proofs.YtakgijpeilafpaaGreatDoor.layForms
