/- Pieces 19 to 20 of the run of 'playForms': from the state ahead of each to the state behind it. -/
import Derived.Test.YtdaojpbjbfbnaaaGreatDoorPlayFormsD1
import Derived.WalkKit
namespace Go.Proofs.YtdaojpbjbfbnaaaGreatDoor.playForms
open Go.Ev Go.Ev.Lit
theorem t19 : (chkNx s19 (run F 14704 s18.fr s18.cs s18.h s18.ls), codesNx (idsOf s19.ls) (run F 14704 s18.fr s18.cs s18.h s18.ls)) = (true, k19) := by kernel_rfl
theorem t20 : (chkNx s20 (run F 17938 s19.fr s19.cs s19.h s19.ls), codesNx (idsOf s20.ls) (run F 17938 s19.fr s19.cs s19.h s19.ls)) = (true, k20) := by kernel_rfl
end Go.Proofs.YtdaojpbjbfbnaaaGreatDoor.playForms
