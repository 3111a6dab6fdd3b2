/- Pieces 116 to 120 of the run of 'cleanForms': from the state ahead of each to the state behind it. -/
import Derived.Test.YtgmnkagomhadcaaGreatCleanFormsD3
import Derived.WalkKit
namespace Go.Proofs.YtgmnkagomhadcaaGreat.cleanForms
open Go.Ev Go.Ev.Lit
theorem t116 : (chkNx s116 (run F 12903 s115.fr s115.cs s115.h s115.ls), codesNx (idsOf s116.ls) (run F 12903 s115.fr s115.cs s115.h s115.ls)) = (true, k116) := by kernel_rfl
theorem t117 : (chkNx s117 (run F 10805 s116.fr s116.cs s116.h s116.ls), codesNx (idsOf s117.ls) (run F 10805 s116.fr s116.cs s116.h s116.ls)) = (true, k117) := by kernel_rfl
theorem t118 : (chkNx s118 (run F 12981 s117.fr s117.cs s117.h s117.ls), codesNx (idsOf s118.ls) (run F 12981 s117.fr s117.cs s117.h s117.ls)) = (true, k118) := by kernel_rfl
theorem t119 : (chkNx s119 (run F 10873 s118.fr s118.cs s118.h s118.ls), codesNx (idsOf s119.ls) (run F 10873 s118.fr s118.cs s118.h s118.ls)) = (true, k119) := by kernel_rfl
theorem t120 : (chkNx s120 (run F 12917 s119.fr s119.cs s119.h s119.ls), codesNx (idsOf s120.ls) (run F 12917 s119.fr s119.cs s119.h s119.ls)) = (true, k120) := by kernel_rfl
end Go.Proofs.YtgmnkagomhadcaaGreat.cleanForms
