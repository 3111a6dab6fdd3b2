/- Pieces 35 to 36 of the run of 'playForms': from the state ahead of each to the state behind it. -/
import Derived.Test.YtdaojpbjbfbnaaaGreatDoorPlayFormsD1
import Derived.WalkKit
namespace Go.Proofs.YtdaojpbjbfbnaaaGreatDoor.playForms
open Go.Ev Go.Ev.Lit
theorem t35 : (chkNx s35 (run F 16142 s34.fr s34.cs s34.h s34.ls), codesNx (idsOf s35.ls) (run F 16142 s34.fr s34.cs s34.h s34.ls)) = (true, k35) := by kernel_rfl
theorem t36 : (chkNx s36 (run F 20991 s35.fr s35.cs s35.h s35.ls), codesNx (idsOf s36.ls) (run F 20991 s35.fr s35.cs s35.h s35.ls)) = (true, k36) := by kernel_rfl
end Go.Proofs.YtdaojpbjbfbnaaaGreatDoor.playForms
