/- Pieces 13 to 14 of the run of 'playForms': from the state ahead of each to the state behind it. -/
import Derived.Test.YtdaojpbjbfbnaaaGreatDoorPlayFormsD1
import Derived.WalkKit
namespace Go.Proofs.YtdaojpbjbfbnaaaGreatDoor.playForms
open Go.Ev Go.Ev.Lit
theorem t13 : (chkNx s13 (run F 20045 s12.fr s12.cs s12.h s12.ls), codesNx (idsOf s13.ls) (run F 20045 s12.fr s12.cs s12.h s12.ls)) = (true, k13) := by kernel_rfl
theorem t14 : (chkNx s14 (run F 20518 s13.fr s13.cs s13.h s13.ls), codesNx (idsOf s14.ls) (run F 20518 s13.fr s13.cs s13.h s13.ls)) = (true, k14) := by kernel_rfl
end Go.Proofs.YtdaojpbjbfbnaaaGreatDoor.playForms
