/- Pieces 7 to 8 of the run of 'playForms': from the state ahead of each to the state behind it. -/
import Derived.Test.YtdaojpbjbfbnaaaGreatDoorPlayFormsD1
import Derived.WalkKit
namespace Go.Proofs.YtdaojpbjbfbnaaaGreatDoor.playForms
open Go.Ev Go.Ev.Lit
theorem t7 : (chkNx s7 (run F 17642 s6.fr s6.cs s6.h s6.ls), codesNx (idsOf s7.ls) (run F 17642 s6.fr s6.cs s6.h s6.ls)) = (true, k7) := by kernel_rfl
theorem t8 : (chkNx s8 (run F 15939 s7.fr s7.cs s7.h s7.ls), codesNx (idsOf s8.ls) (run F 15939 s7.fr s7.cs s7.h s7.ls)) = (true, k8) := by kernel_rfl
end Go.Proofs.YtdaojpbjbfbnaaaGreatDoor.playForms
