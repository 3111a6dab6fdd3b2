/- Pieces 3 to 4 of the run of 'playForms': from the state ahead of each to the state behind it. -/
import Derived.Test.YtdaojpbjbfbnaaaGreatDoorPlayFormsD1
import Derived.WalkKit
namespace Go.Proofs.YtdaojpbjbfbnaaaGreatDoor.playForms
open Go.Ev Go.Ev.Lit
theorem t3 : (chkNx s3 (run F 19538 s2.fr s2.cs s2.h s2.ls), codesNx (idsOf s3.ls) (run F 19538 s2.fr s2.cs s2.h s2.ls)) = (true, k3) := by kernel_rfl
theorem t4 : (chkNx s4 (run F 21758 s3.fr s3.cs s3.h s3.ls), codesNx (idsOf s4.ls) (run F 21758 s3.fr s3.cs s3.h s3.ls)) = (true, k4) := by kernel_rfl
end Go.Proofs.YtdaojpbjbfbnaaaGreatDoor.playForms
