/- Pieces 101 to 105 of the run of 'cleanForms': from the state ahead of each to the state behind it. -/
import Derived.Test.YtgmnkagomhadcaaGreatCleanFormsD3
import Derived.WalkKit
namespace Go.Proofs.YtgmnkagomhadcaaGreat.cleanForms
open Go.Ev Go.Ev.Lit
theorem t101 : (chkNx s101 (run F 10873 s100.fr s100.cs s100.h s100.ls), codesNx (idsOf s101.ls) (run F 10873 s100.fr s100.cs s100.h s100.ls)) = (true, k101) := by kernel_rfl
theorem t102 : (chkNx s102 (run F 12917 s101.fr s101.cs s101.h s101.ls), codesNx (idsOf s102.ls) (run F 12917 s101.fr s101.cs s101.h s101.ls)) = (true, k102) := by kernel_rfl
theorem t103 : (chkNx s103 (run F 12663 s102.fr s102.cs s102.h s102.ls), codesNx (idsOf s103.ls) (run F 12663 s102.fr s102.cs s102.h s102.ls)) = (true, k103) := by kernel_rfl
theorem t104 : (chkNx s104 (run F 9947 s103.fr s103.cs s103.h s103.ls), codesNx (idsOf s104.ls) (run F 9947 s103.fr s103.cs s103.h s103.ls)) = (true, k104) := by kernel_rfl
theorem t105 : (chkNx s105 (run F 12048 s104.fr s104.cs s104.h s104.ls), codesNx (idsOf s105.ls) (run F 12048 s104.fr s104.cs s104.h s104.ls)) = (true, k105) := by kernel_rfl
end Go.Proofs.YtgmnkagomhadcaaGreat.cleanForms
