/- Pieces 126 to 130 of the run of 'cleanForms': from the state ahead of each to the state behind it. -/
import Derived.Test.YtgmnkagomhadcaaGreatCleanFormsD3
import Derived.WalkKit
namespace Go.Proofs.YtgmnkagomhadcaaGreat.cleanForms
open Go.Ev Go.Ev.Lit
theorem t126 : (chkNx s126 (run F 10805 s125.fr s125.cs s125.h s125.ls), codesNx (idsOf s126.ls) (run F 10805 s125.fr s125.cs s125.h s125.ls)) = (true, k126) := by kernel_rfl
theorem t127 : (chkNx s127 (run F 12981 s126.fr s126.cs s126.h s126.ls), codesNx (idsOf s127.ls) (run F 12981 s126.fr s126.cs s126.h s126.ls)) = (true, k127) := by kernel_rfl
theorem t128 : (chkNx s128 (run F 10873 s127.fr s127.cs s127.h s127.ls), codesNx (idsOf s128.ls) (run F 10873 s127.fr s127.cs s127.h s127.ls)) = (true, k128) := by kernel_rfl
theorem t129 : (chkNx s129 (run F 12917 s128.fr s128.cs s128.h s128.ls), codesNx (idsOf s129.ls) (run F 12917 s128.fr s128.cs s128.h s128.ls)) = (true, k129) := by kernel_rfl
theorem t130 : (chkNx s130 (run F 12663 s129.fr s129.cs s129.h s129.ls), codesNx (idsOf s130.ls) (run F 12663 s129.fr s129.cs s129.h s129.ls)) = (true, k130) := by kernel_rfl
end Go.Proofs.YtgmnkagomhadcaaGreat.cleanForms
