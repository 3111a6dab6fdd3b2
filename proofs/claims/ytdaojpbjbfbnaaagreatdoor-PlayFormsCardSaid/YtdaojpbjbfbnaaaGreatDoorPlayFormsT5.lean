/- Pieces 9 to 10 of the run of 'playForms': from the state ahead of each to the state behind it. -/
import Derived.Test.YtdaojpbjbfbnaaaGreatDoorPlayFormsD1
import Derived.WalkKit
namespace Go.Proofs.YtdaojpbjbfbnaaaGreatDoor.playForms
open Go.Ev Go.Ev.Lit
theorem t9 : (chkNx s9 (run F 20240 s8.fr s8.cs s8.h s8.ls), codesNx (idsOf s9.ls) (run F 20240 s8.fr s8.cs s8.h s8.ls)) = (true, k9) := by kernel_rfl
theorem t10 : (chkNx s10 (run F 15663 s9.fr s9.cs s9.h s9.ls), codesNx (idsOf s10.ls) (run F 15663 s9.fr s9.cs s9.h s9.ls)) = (true, k10) := by kernel_rfl
end Go.Proofs.YtdaojpbjbfbnaaaGreatDoor.playForms
