/- Pieces 46 to 50 of the run of 'cleanForms': from the state ahead of each to the state behind it. -/
import Derived.Test.YtgmnkagomhadcaaGreatCleanFormsD3
import Derived.WalkKit
namespace Go.Proofs.YtgmnkagomhadcaaGreat.cleanForms
open Go.Ev Go.Ev.Lit
theorem t46 : (chkNx s46 (run F 10887 s45.fr s45.cs s45.h s45.ls), codesNx (idsOf s46.ls) (run F 10887 s45.fr s45.cs s45.h s45.ls)) = (true, k46) := by kernel_rfl
theorem t47 : (chkNx s47 (run F 12903 s46.fr s46.cs s46.h s46.ls), codesNx (idsOf s47.ls) (run F 12903 s46.fr s46.cs s46.h s46.ls)) = (true, k47) := by kernel_rfl
theorem t48 : (chkNx s48 (run F 10805 s47.fr s47.cs s47.h s47.ls), codesNx (idsOf s48.ls) (run F 10805 s47.fr s47.cs s47.h s47.ls)) = (true, k48) := by kernel_rfl
theorem t49 : (chkNx s49 (run F 12981 s48.fr s48.cs s48.h s48.ls), codesNx (idsOf s49.ls) (run F 12981 s48.fr s48.cs s48.h s48.ls)) = (true, k49) := by kernel_rfl
theorem t50 : (chkNx s50 (run F 10873 s49.fr s49.cs s49.h s49.ls), codesNx (idsOf s50.ls) (run F 10873 s49.fr s49.cs s49.h s49.ls)) = (true, k50) := by kernel_rfl
end Go.Proofs.YtgmnkagomhadcaaGreat.cleanForms
