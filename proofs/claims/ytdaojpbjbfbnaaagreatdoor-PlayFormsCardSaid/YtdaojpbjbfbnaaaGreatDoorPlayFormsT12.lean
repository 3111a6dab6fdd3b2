/- Pieces 23 to 24 of the run of 'playForms': from the state ahead of each to the state behind it. -/
import Derived.Test.YtdaojpbjbfbnaaaGreatDoorPlayFormsD1
import Derived.WalkKit
namespace Go.Proofs.YtdaojpbjbfbnaaaGreatDoor.playForms
open Go.Ev Go.Ev.Lit
theorem t23 : (chkNx s23 (run F 17279 s22.fr s22.cs s22.h s22.ls), codesNx (idsOf s23.ls) (run F 17279 s22.fr s22.cs s22.h s22.ls)) = (true, k23) := by kernel_rfl
theorem t24 : (chkNx s24 (run F 16576 s23.fr s23.cs s23.h s23.ls), codesNx (idsOf s24.ls) (run F 16576 s23.fr s23.cs s23.h s23.ls)) = (true, k24) := by kernel_rfl
end Go.Proofs.YtdaojpbjbfbnaaaGreatDoor.playForms
