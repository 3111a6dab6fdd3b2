/- Piece 6 of the run of 'segForms': from the state ahead of it to the state behind it. -/
import Derived.Test.YtakgijpeilafpaaGreatDoorSegFormsD0
import Derived.WalkKit
namespace Go.Proofs.YtakgijpeilafpaaGreatDoor.segForms
open Go.Ev Go.Ev.Lit
theorem t6 : (chkNx s6 (run F 14444 s5.fr s5.cs s5.h s5.ls), codesNx (idsOf s6.ls) (run F 14444 s5.fr s5.cs s5.h s5.ls)) = (true, k6) := by kernel_rfl
end Go.Proofs.YtakgijpeilafpaaGreatDoor.segForms
