/- Pieces 5 to 6 of the run of 'playForms': from the state ahead of each to the state behind it. -/
import Derived.Test.YtdaojpbjbfbnaaaGreatDoorPlayFormsD1
import Derived.WalkKit
namespace Go.Proofs.YtdaojpbjbfbnaaaGreatDoor.playForms
open Go.Ev Go.Ev.Lit
theorem t5 : (chkNx s5 (run F 16746 s4.fr s4.cs s4.h s4.ls), codesNx (idsOf s5.ls) (run F 16746 s4.fr s4.cs s4.h s4.ls)) = (true, k5) := by kernel_rfl
theorem t6 : (chkNx s6 (run F 14547 s5.fr s5.cs s5.h s5.ls), codesNx (idsOf s6.ls) (run F 14547 s5.fr s5.cs s5.h s5.ls)) = (true, k6) := by kernel_rfl
end Go.Proofs.YtdaojpbjbfbnaaaGreatDoor.playForms
