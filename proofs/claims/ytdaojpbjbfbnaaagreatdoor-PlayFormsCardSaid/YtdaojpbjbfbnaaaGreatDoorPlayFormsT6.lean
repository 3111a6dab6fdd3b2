/- Pieces 11 to 12 of the run of 'playForms': from the state ahead of each to the state behind it. -/
import Derived.Test.YtdaojpbjbfbnaaaGreatDoorPlayFormsD1
import Derived.WalkKit
namespace Go.Proofs.YtdaojpbjbfbnaaaGreatDoor.playForms
open Go.Ev Go.Ev.Lit
theorem t11 : (chkNx s11 (run F 18031 s10.fr s10.cs s10.h s10.ls), codesNx (idsOf s11.ls) (run F 18031 s10.fr s10.cs s10.h s10.ls)) = (true, k11) := by kernel_rfl
theorem t12 : (chkNx s12 (run F 20742 s11.fr s11.cs s11.h s11.ls), codesNx (idsOf s12.ls) (run F 20742 s11.fr s11.cs s11.h s11.ls)) = (true, k12) := by kernel_rfl
end Go.Proofs.YtdaojpbjbfbnaaaGreatDoor.playForms
