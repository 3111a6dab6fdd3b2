/- Pieces 25 to 26 of the run of 'playForms': from the state ahead of each to the state behind it. -/
import Derived.Test.YtdaojpbjbfbnaaaGreatDoorPlayFormsD1
import Derived.WalkKit
namespace Go.Proofs.YtdaojpbjbfbnaaaGreatDoor.playForms
open Go.Ev Go.Ev.Lit
theorem t25 : (chkNx s25 (run F 17606 s24.fr s24.cs s24.h s24.ls), codesNx (idsOf s25.ls) (run F 17606 s24.fr s24.cs s24.h s24.ls)) = (true, k25) := by kernel_rfl
theorem t26 : (chkNx s26 (run F 16576 s25.fr s25.cs s25.h s25.ls), codesNx (idsOf s26.ls) (run F 16576 s25.fr s25.cs s25.h s25.ls)) = (true, k26) := by kernel_rfl
end Go.Proofs.YtdaojpbjbfbnaaaGreatDoor.playForms
