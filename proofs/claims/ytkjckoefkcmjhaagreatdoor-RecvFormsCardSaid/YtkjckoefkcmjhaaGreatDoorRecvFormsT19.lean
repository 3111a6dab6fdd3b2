/- Pieces 37 to 38 of the run of 'recvForms': from the state ahead of each to the state behind it. -/
import Derived.Test.YtkjckoefkcmjhaaGreatDoorRecvFormsD0
import Derived.WalkKit
namespace Go.Proofs.YtkjckoefkcmjhaaGreatDoor.recvForms
open Go.Ev Go.Ev.Lit
theorem t37 : (chkNx s37 (run F 17274 s36.fr s36.cs s36.h s36.ls), codesNx (idsOf s37.ls) (run F 17274 s36.fr s36.cs s36.h s36.ls)) = (true, k37) := by kernel_rfl
theorem t38 : (chkNx s38 (run F 17116 s37.fr s37.cs s37.h s37.ls), codesNx (idsOf s38.ls) (run F 17116 s37.fr s37.cs s37.h s37.ls)) = (true, k38) := by kernel_rfl
end Go.Proofs.YtkjckoefkcmjhaaGreatDoor.recvForms
