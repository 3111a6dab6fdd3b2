/- Pieces 76 to 80 of the run of 'cleanForms': from the state ahead of each to the state behind it. -/
import Derived.Test.YtgmnkagomhadcaaGreatCleanFormsD3
import Derived.WalkKit
namespace Go.Proofs.YtgmnkagomhadcaaGreat.cleanForms
open Go.Ev Go.Ev.Lit
theorem t76 : (chkNx s76 (run F 17962 s75.fr s75.cs s75.h s75.ls), codesNx (idsOf s76.ls) (run F 17962 s75.fr s75.cs s75.h s75.ls)) = (true, k76) := by kernel_rfl
theorem t77 : (chkNx s77 (run F 14668 s76.fr s76.cs s76.h s76.ls), codesNx (idsOf s77.ls) (run F 14668 s76.fr s76.cs s76.h s76.ls)) = (true, k77) := by kernel_rfl
theorem t78 : (chkNx s78 (run F 19521 s77.fr s77.cs s77.h s77.ls), codesNx (idsOf s78.ls) (run F 19521 s77.fr s77.cs s77.h s77.ls)) = (true, k78) := by kernel_rfl
theorem t79 : (chkNx s79 (run F 13216 s78.fr s78.cs s78.h s78.ls), codesNx (idsOf s79.ls) (run F 13216 s78.fr s78.cs s78.h s78.ls)) = (true, k79) := by kernel_rfl
theorem t80 : (chkNx s80 (run F 11278 s79.fr s79.cs s79.h s79.ls), codesNx (idsOf s80.ls) (run F 11278 s79.fr s79.cs s79.h s79.ls)) = (true, k80) := by kernel_rfl
end Go.Proofs.YtgmnkagomhadcaaGreat.cleanForms
