/- Piece 3 of the run of 'layForms': from the state ahead of it to the state behind it. -/
import Derived.Test.YtakgijpeilafpaaGreatDoorLayFormsD0
import Derived.WalkKit
namespace Go.Proofs.YtakgijpeilafpaaGreatDoor.layForms
open Go.Ev Go.Ev.Lit
theorem t3 : (chkNx s3 (run F 14710 s2.fr s2.cs s2.h s2.ls), codesNx (idsOf s3.ls) (run F 14710 s2.fr s2.cs s2.h s2.ls)) = (true, k3) := by kernel_rfl
end Go.Proofs.YtakgijpeilafpaaGreatDoor.layForms
