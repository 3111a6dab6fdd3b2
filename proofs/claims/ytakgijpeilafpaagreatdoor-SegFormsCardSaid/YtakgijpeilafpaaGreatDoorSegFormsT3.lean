/- Piece 3 of the run of 'segForms': from the state ahead of it to the state behind it. -/
import Derived.Test.YtakgijpeilafpaaGreatDoorSegFormsD0
import Derived.WalkKit
namespace Go.Proofs.YtakgijpeilafpaaGreatDoor.segForms
open Go.Ev Go.Ev.Lit
theorem t3 : (chkNx s3 (run F 14101 s2.fr s2.cs s2.h s2.ls), codesNx (idsOf s3.ls) (run F 14101 s2.fr s2.cs s2.h s2.ls)) = (true, k3) := by kernel_rfl
end Go.Proofs.YtakgijpeilafpaaGreatDoor.segForms
