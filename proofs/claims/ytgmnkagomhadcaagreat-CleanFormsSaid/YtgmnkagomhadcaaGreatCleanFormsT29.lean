/- Pieces 141 to 145 of the run of 'cleanForms': from the state ahead of each to the state behind it. -/
import Derived.Test.YtgmnkagomhadcaaGreatCleanFormsD3
import Derived.WalkKit
namespace Go.Proofs.YtgmnkagomhadcaaGreat.cleanForms
open Go.Ev Go.Ev.Lit
theorem t141 : (chkNx s141 (run F 12048 s140.fr s140.cs s140.h s140.ls), codesNx (idsOf s141.ls) (run F 12048 s140.fr s140.cs s140.h s140.ls)) = (true, k141) := by kernel_rfl
theorem t142 : (chkNx s142 (run F 10887 s141.fr s141.cs s141.h s141.ls), codesNx (idsOf s142.ls) (run F 10887 s141.fr s141.cs s141.h s141.ls)) = (true, k142) := by kernel_rfl
theorem t143 : (chkNx s143 (run F 12903 s142.fr s142.cs s142.h s142.ls), codesNx (idsOf s143.ls) (run F 12903 s142.fr s142.cs s142.h s142.ls)) = (true, k143) := by kernel_rfl
theorem t144 : (chkNx s144 (run F 10805 s143.fr s143.cs s143.h s143.ls), codesNx (idsOf s144.ls) (run F 10805 s143.fr s143.cs s143.h s143.ls)) = (true, k144) := by kernel_rfl
theorem t145 : (chkNx s145 (run F 12981 s144.fr s144.cs s144.h s144.ls), codesNx (idsOf s145.ls) (run F 12981 s144.fr s144.cs s144.h s144.ls)) = (true, k145) := by kernel_rfl
end Go.Proofs.YtgmnkagomhadcaaGreat.cleanForms
