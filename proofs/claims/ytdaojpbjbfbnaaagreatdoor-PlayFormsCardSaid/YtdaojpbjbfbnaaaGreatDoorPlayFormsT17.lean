/- Pieces 33 to 34 of the run of 'playForms': from the state ahead of each to the state behind it. -/
import Derived.Test.YtdaojpbjbfbnaaaGreatDoorPlayFormsD1
import Derived.WalkKit
namespace Go.Proofs.YtdaojpbjbfbnaaaGreatDoor.playForms
open Go.Ev Go.Ev.Lit
theorem t33 : (chkNx s33 (run F 16175 s32.fr s32.cs s32.h s32.ls), codesNx (idsOf s33.ls) (run F 16175 s32.fr s32.cs s32.h s32.ls)) = (true, k33) := by kernel_rfl
theorem t34 : (chkNx s34 (run F 18007 s33.fr s33.cs s33.h s33.ls), codesNx (idsOf s34.ls) (run F 18007 s33.fr s33.cs s33.h s33.ls)) = (true, k34) := by kernel_rfl
end Go.Proofs.YtdaojpbjbfbnaaaGreatDoor.playForms
