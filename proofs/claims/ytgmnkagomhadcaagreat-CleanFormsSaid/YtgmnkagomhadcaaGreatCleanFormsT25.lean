/- Pieces 121 to 125 of the run of 'cleanForms': from the state ahead of each to the state behind it. -/
import Derived.Test.YtgmnkagomhadcaaGreatCleanFormsD3
import Derived.WalkKit
namespace Go.Proofs.YtgmnkagomhadcaaGreat.cleanForms
open Go.Ev Go.Ev.Lit
theorem t121 : (chkNx s121 (run F 12663 s120.fr s120.cs s120.h s120.ls), codesNx (idsOf s121.ls) (run F 12663 s120.fr s120.cs s120.h s120.ls)) = (true, k121) := by kernel_rfl
theorem t122 : (chkNx s122 (run F 9947 s121.fr s121.cs s121.h s121.ls), codesNx (idsOf s122.ls) (run F 9947 s121.fr s121.cs s121.h s121.ls)) = (true, k122) := by kernel_rfl
theorem t123 : (chkNx s123 (run F 12048 s122.fr s122.cs s122.h s122.ls), codesNx (idsOf s123.ls) (run F 12048 s122.fr s122.cs s122.h s122.ls)) = (true, k123) := by kernel_rfl
theorem t124 : (chkNx s124 (run F 10887 s123.fr s123.cs s123.h s123.ls), codesNx (idsOf s124.ls) (run F 10887 s123.fr s123.cs s123.h s123.ls)) = (true, k124) := by kernel_rfl
theorem t125 : (chkNx s125 (run F 12903 s124.fr s124.cs s124.h s124.ls), codesNx (idsOf s125.ls) (run F 12903 s124.fr s124.cs s124.h s124.ls)) = (true, k125) := by kernel_rfl
end Go.Proofs.YtgmnkagomhadcaaGreat.cleanForms
