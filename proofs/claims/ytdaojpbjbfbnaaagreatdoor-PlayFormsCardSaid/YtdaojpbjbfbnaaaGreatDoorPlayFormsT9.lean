/- Pieces 17 to 18 of the run of 'playForms': from the state ahead of each to the state behind it. -/
import Derived.Test.YtdaojpbjbfbnaaaGreatDoorPlayFormsD1
import Derived.WalkKit
namespace Go.Proofs.YtdaojpbjbfbnaaaGreatDoor.playForms
open Go.Ev Go.Ev.Lit
theorem t17 : (chkNx s17 (run F 19346 s16.fr s16.cs s16.h s16.ls), codesNx (idsOf s17.ls) (run F 19346 s16.fr s16.cs s16.h s16.ls)) = (true, k17) := by kernel_rfl
theorem t18 : (chkNx s18 (run F 19219 s17.fr s17.cs s17.h s17.ls), codesNx (idsOf s18.ls) (run F 19219 s17.fr s17.cs s17.h s17.ls)) = (true, k18) := by kernel_rfl
end Go.Proofs.YtdaojpbjbfbnaaaGreatDoor.playForms
