/- The last piece of the run of 'playForms'. -/
import Derived.Test.YtdaojpbjbfbnaaaGreatDoorPlayFormsD1
import Derived.WalkKit
namespace Go.Proofs.YtdaojpbjbfbnaaaGreatDoor.playForms
open Go.Ev Go.Ev.Lit
theorem last : isTrue (run F 13570 s36.fr s36.cs s36.h s36.ls) = true := by kernel_rfl
end Go.Proofs.YtdaojpbjbfbnaaaGreatDoor.playForms
