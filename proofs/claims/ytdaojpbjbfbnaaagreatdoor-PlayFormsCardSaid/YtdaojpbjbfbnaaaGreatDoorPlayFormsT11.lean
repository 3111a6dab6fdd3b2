/- Pieces 21 to 22 of the run of 'playForms': from the state ahead of each to the state behind it. -/
import Derived.Test.YtdaojpbjbfbnaaaGreatDoorPlayFormsD1
import Derived.WalkKit
namespace Go.Proofs.YtdaojpbjbfbnaaaGreatDoor.playForms
open Go.Ev Go.Ev.Lit
theorem t21 : (chkNx s21 (run F 19955 s20.fr s20.cs s20.h s20.ls), codesNx (idsOf s21.ls) (run F 19955 s20.fr s20.cs s20.h s20.ls)) = (true, k21) := by kernel_rfl
theorem t22 : (chkNx s22 (run F 20440 s21.fr s21.cs s21.h s21.ls), codesNx (idsOf s22.ls) (run F 20440 s21.fr s21.cs s21.h s21.ls)) = (true, k22) := by kernel_rfl
end Go.Proofs.YtdaojpbjbfbnaaaGreatDoor.playForms
