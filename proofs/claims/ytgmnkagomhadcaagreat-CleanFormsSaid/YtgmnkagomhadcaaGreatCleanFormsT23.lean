/- Pieces 111 to 115 of the run of 'cleanForms': from the state ahead of each to the state behind it. -/
import Derived.Test.YtgmnkagomhadcaaGreatCleanFormsD3
import Derived.WalkKit
namespace Go.Proofs.YtgmnkagomhadcaaGreat.cleanForms
open Go.Ev Go.Ev.Lit
theorem t111 : (chkNx s111 (run F 12917 s110.fr s110.cs s110.h s110.ls), codesNx (idsOf s111.ls) (run F 12917 s110.fr s110.cs s110.h s110.ls)) = (true, k111) := by kernel_rfl
theorem t112 : (chkNx s112 (run F 12663 s111.fr s111.cs s111.h s111.ls), codesNx (idsOf s112.ls) (run F 12663 s111.fr s111.cs s111.h s111.ls)) = (true, k112) := by kernel_rfl
theorem t113 : (chkNx s113 (run F 9947 s112.fr s112.cs s112.h s112.ls), codesNx (idsOf s113.ls) (run F 9947 s112.fr s112.cs s112.h s112.ls)) = (true, k113) := by kernel_rfl
theorem t114 : (chkNx s114 (run F 12048 s113.fr s113.cs s113.h s113.ls), codesNx (idsOf s114.ls) (run F 12048 s113.fr s113.cs s113.h s113.ls)) = (true, k114) := by kernel_rfl
theorem t115 : (chkNx s115 (run F 10887 s114.fr s114.cs s114.h s114.ls), codesNx (idsOf s115.ls) (run F 10887 s114.fr s114.cs s114.h s114.ls)) = (true, k115) := by kernel_rfl
end Go.Proofs.YtgmnkagomhadcaaGreat.cleanForms
