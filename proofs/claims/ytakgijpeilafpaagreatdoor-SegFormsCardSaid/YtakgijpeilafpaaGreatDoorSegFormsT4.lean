/- Piece 4 of the run of 'segForms': from the state ahead of it to the state behind it. -/
import Derived.Test.YtakgijpeilafpaaGreatDoorSegFormsD0
import Derived.WalkKit
namespace Go.Proofs.YtakgijpeilafpaaGreatDoor.segForms
open Go.Ev Go.Ev.Lit
theorem t4 : (chkNx s4 (run F 11944 s3.fr s3.cs s3.h s3.ls), codesNx (idsOf s4.ls) (run F 11944 s3.fr s3.cs s3.h s3.ls)) = (true, k4) := by kernel_rfl
end Go.Proofs.YtakgijpeilafpaaGreatDoor.segForms
