/- Piece 7 of the run of 'layForms': from the state ahead of it to the state behind it. -/
import Derived.Test.YtakgijpeilafpaaGreatDoorLayFormsD0
import Derived.WalkKit
namespace Go.Proofs.YtakgijpeilafpaaGreatDoor.layForms
open Go.Ev Go.Ev.Lit
theorem t7 : (chkNx s7 (run F 14788 s6.fr s6.cs s6.h s6.ls), codesNx (idsOf s7.ls) (run F 14788 s6.fr s6.cs s6.h s6.ls)) = (true, k7) := by kernel_rfl
end Go.Proofs.YtakgijpeilafpaaGreatDoor.layForms
