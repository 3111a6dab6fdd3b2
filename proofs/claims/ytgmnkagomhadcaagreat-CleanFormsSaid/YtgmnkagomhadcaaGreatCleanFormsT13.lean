/- Pieces 61 to 65 of the run of 'cleanForms': from the state ahead of each to the state behind it. -/
import Derived.Test.YtgmnkagomhadcaaGreatCleanFormsD3
import Derived.WalkKit
namespace Go.Proofs.YtgmnkagomhadcaaGreat.cleanForms
open Go.Ev Go.Ev.Lit
theorem t61 : (chkNx s61 (run F 12663 s60.fr s60.cs s60.h s60.ls), codesNx (idsOf s61.ls) (run F 12663 s60.fr s60.cs s60.h s60.ls)) = (true, k61) := by kernel_rfl
theorem t62 : (chkNx s62 (run F 9947 s61.fr s61.cs s61.h s61.ls), codesNx (idsOf s62.ls) (run F 9947 s61.fr s61.cs s61.h s61.ls)) = (true, k62) := by kernel_rfl
theorem t63 : (chkNx s63 (run F 12048 s62.fr s62.cs s62.h s62.ls), codesNx (idsOf s63.ls) (run F 12048 s62.fr s62.cs s62.h s62.ls)) = (true, k63) := by kernel_rfl
theorem t64 : (chkNx s64 (run F 10887 s63.fr s63.cs s63.h s63.ls), codesNx (idsOf s64.ls) (run F 10887 s63.fr s63.cs s63.h s63.ls)) = (true, k64) := by kernel_rfl
theorem t65 : (chkNx s65 (run F 12903 s64.fr s64.cs s64.h s64.ls), codesNx (idsOf s65.ls) (run F 12903 s64.fr s64.cs s64.h s64.ls)) = (true, k65) := by kernel_rfl
end Go.Proofs.YtgmnkagomhadcaaGreat.cleanForms
