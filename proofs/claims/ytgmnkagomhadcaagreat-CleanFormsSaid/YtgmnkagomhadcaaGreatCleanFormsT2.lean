/- Pieces 6 to 10 of the run of 'cleanForms': from the state ahead of each to the state behind it. -/
import Derived.Test.YtgmnkagomhadcaaGreatCleanFormsD3
import Derived.WalkKit
namespace Go.Proofs.YtgmnkagomhadcaaGreat.cleanForms
open Go.Ev Go.Ev.Lit
theorem t6 : (chkNx s6 (run F 10847 s5.fr s5.cs s5.h s5.ls), codesNx (idsOf s6.ls) (run F 10847 s5.fr s5.cs s5.h s5.ls)) = (true, k6) := by kernel_rfl
theorem t7 : (chkNx s7 (run F 11645 s6.fr s6.cs s6.h s6.ls), codesNx (idsOf s7.ls) (run F 11645 s6.fr s6.cs s6.h s6.ls)) = (true, k7) := by kernel_rfl
theorem t8 : (chkNx s8 (run F 9947 s7.fr s7.cs s7.h s7.ls), codesNx (idsOf s8.ls) (run F 9947 s7.fr s7.cs s7.h s7.ls)) = (true, k8) := by kernel_rfl
theorem t9 : (chkNx s9 (run F 12074 s8.fr s8.cs s8.h s8.ls), codesNx (idsOf s9.ls) (run F 12074 s8.fr s8.cs s8.h s8.ls)) = (true, k9) := by kernel_rfl
theorem t10 : (chkNx s10 (run F 10907 s9.fr s9.cs s9.h s9.ls), codesNx (idsOf s10.ls) (run F 10907 s9.fr s9.cs s9.h s9.ls)) = (true, k10) := by kernel_rfl
end Go.Proofs.YtgmnkagomhadcaaGreat.cleanForms
