/- Pieces 146 to 150 of the run of 'cleanForms': from the state ahead of each to the state behind it. -/
import Derived.Test.YtgmnkagomhadcaaGreatCleanFormsD3
import Derived.WalkKit
namespace Go.Proofs.YtgmnkagomhadcaaGreat.cleanForms
open Go.Ev Go.Ev.Lit
theorem t146 : (chkNx s146 (run F 10873 s145.fr s145.cs s145.h s145.ls), codesNx (idsOf s146.ls) (run F 10873 s145.fr s145.cs s145.h s145.ls)) = (true, k146) := by kernel_rfl
theorem t147 : (chkNx s147 (run F 12917 s146.fr s146.cs s146.h s146.ls), codesNx (idsOf s147.ls) (run F 12917 s146.fr s146.cs s146.h s146.ls)) = (true, k147) := by kernel_rfl
theorem t148 : (chkNx s148 (run F 10873 s147.fr s147.cs s147.h s147.ls), codesNx (idsOf s148.ls) (run F 10873 s147.fr s147.cs s147.h s147.ls)) = (true, k148) := by kernel_rfl
theorem t149 : (chkNx s149 (run F 13391 s148.fr s148.cs s148.h s148.ls), codesNx (idsOf s149.ls) (run F 13391 s148.fr s148.cs s148.h s148.ls)) = (true, k149) := by kernel_rfl
theorem t150 : (chkNx s150 (run F 12920 s149.fr s149.cs s149.h s149.ls), codesNx (idsOf s150.ls) (run F 12920 s149.fr s149.cs s149.h s149.ls)) = (true, k150) := by kernel_rfl
end Go.Proofs.YtgmnkagomhadcaaGreat.cleanForms
