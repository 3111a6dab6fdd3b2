/- Pieces 27 to 28 of the run of 'playForms': from the state ahead of each to the state behind it. -/
import Derived.Test.YtdaojpbjbfbnaaaGreatDoorPlayFormsD1
import Derived.WalkKit
namespace Go.Proofs.YtdaojpbjbfbnaaaGreatDoor.playForms
open Go.Ev Go.Ev.Lit
theorem t27 : (chkNx s27 (run F 17573 s26.fr s26.cs s26.h s26.ls), codesNx (idsOf s27.ls) (run F 17573 s26.fr s26.cs s26.h s26.ls)) = (true, k27) := by kernel_rfl
theorem t28 : (chkNx s28 (run F 14090 s27.fr s27.cs s27.h s27.ls), codesNx (idsOf s28.ls) (run F 14090 s27.fr s27.cs s27.h s27.ls)) = (true, k28) := by kernel_rfl
end Go.Proofs.YtdaojpbjbfbnaaaGreatDoor.playForms
