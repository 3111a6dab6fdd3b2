/- Piece 6 of the run of 'layForms': from the state ahead of it to the state behind it. -/
import Derived.Test.YtakgijpeilafpaaGreatDoorLayFormsD0
import Derived.WalkKit
namespace Go.Proofs.YtakgijpeilafpaaGreatDoor.layForms
open Go.Ev Go.Ev.Lit
theorem t6 : (chkNx s6 (run F 13305 s5.fr s5.cs s5.h s5.ls), codesNx (idsOf s6.ls) (run F 13305 s5.fr s5.cs s5.h s5.ls)) = (true, k6) := by kernel_rfl
end Go.Proofs.YtakgijpeilafpaaGreatDoor.layForms
