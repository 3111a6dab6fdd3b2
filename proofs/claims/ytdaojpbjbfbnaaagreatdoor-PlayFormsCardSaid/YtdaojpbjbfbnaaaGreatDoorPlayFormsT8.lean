/- Pieces 15 to 16 of the run of 'playForms': from the state ahead of each to the state behind it. -/
import Derived.Test.YtdaojpbjbfbnaaaGreatDoorPlayFormsD1
import Derived.WalkKit
namespace Go.Proofs.YtdaojpbjbfbnaaaGreatDoor.playForms
open Go.Ev Go.Ev.Lit
theorem t15 : (chkNx s15 (run F 20022 s14.fr s14.cs s14.h s14.ls), codesNx (idsOf s15.ls) (run F 20022 s14.fr s14.cs s14.h s14.ls)) = (true, k15) := by kernel_rfl
theorem t16 : (chkNx s16 (run F 14821 s15.fr s15.cs s15.h s15.ls), codesNx (idsOf s16.ls) (run F 14821 s15.fr s15.cs s15.h s15.ls)) = (true, k16) := by kernel_rfl
end Go.Proofs.YtdaojpbjbfbnaaaGreatDoor.playForms
