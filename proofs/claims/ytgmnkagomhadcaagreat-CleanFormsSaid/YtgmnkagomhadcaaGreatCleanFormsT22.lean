/- Pieces 106 to 110 of the run of 'cleanForms': from the state ahead of each to the state behind it. -/
import Derived.Test.YtgmnkagomhadcaaGreatCleanFormsD3
import Derived.WalkKit
namespace Go.Proofs.YtgmnkagomhadcaaGreat.cleanForms
open Go.Ev Go.Ev.Lit
theorem t106 : (chkNx s106 (run F 10887 s105.fr s105.cs s105.h s105.ls), codesNx (idsOf s106.ls) (run F 10887 s105.fr s105.cs s105.h s105.ls)) = (true, k106) := by kernel_rfl
theorem t107 : (chkNx s107 (run F 12903 s106.fr s106.cs s106.h s106.ls), codesNx (idsOf s107.ls) (run F 12903 s106.fr s106.cs s106.h s106.ls)) = (true, k107) := by kernel_rfl
theorem t108 : (chkNx s108 (run F 10805 s107.fr s107.cs s107.h s107.ls), codesNx (idsOf s108.ls) (run F 10805 s107.fr s107.cs s107.h s107.ls)) = (true, k108) := by kernel_rfl
theorem t109 : (chkNx s109 (run F 12981 s108.fr s108.cs s108.h s108.ls), codesNx (idsOf s109.ls) (run F 12981 s108.fr s108.cs s108.h s108.ls)) = (true, k109) := by kernel_rfl
theorem t110 : (chkNx s110 (run F 10873 s109.fr s109.cs s109.h s109.ls), codesNx (idsOf s110.ls) (run F 10873 s109.fr s109.cs s109.h s109.ls)) = (true, k110) := by kernel_rfl
end Go.Proofs.YtgmnkagomhadcaaGreat.cleanForms
