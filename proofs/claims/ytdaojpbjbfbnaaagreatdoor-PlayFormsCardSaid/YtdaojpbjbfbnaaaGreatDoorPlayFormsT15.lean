/- Pieces 29 to 30 of the run of 'playForms': from the state ahead of each to the state behind it. -/
import Derived.Test.YtdaojpbjbfbnaaaGreatDoorPlayFormsD1
import Derived.WalkKit
namespace Go.Proofs.YtdaojpbjbfbnaaaGreatDoor.playForms
open Go.Ev Go.Ev.Lit
theorem t29 : (chkNx s29 (run F 15501 s28.fr s28.cs s28.h s28.ls), codesNx (idsOf s29.ls) (run F 15501 s28.fr s28.cs s28.h s28.ls)) = (true, k29) := by kernel_rfl
theorem t30 : (chkNx s30 (run F 16456 s29.fr s29.cs s29.h s29.ls), codesNx (idsOf s30.ls) (run F 16456 s29.fr s29.cs s29.h s29.ls)) = (true, k30) := by kernel_rfl
end Go.Proofs.YtdaojpbjbfbnaaaGreatDoor.playForms
