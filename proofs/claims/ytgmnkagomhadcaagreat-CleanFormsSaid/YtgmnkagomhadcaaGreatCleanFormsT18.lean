/- Pieces 86 to 90 of the run of 'cleanForms': from the state ahead of each to the state behind it. -/
import Derived.Test.YtgmnkagomhadcaaGreatCleanFormsD3
import Derived.WalkKit
namespace Go.Proofs.YtgmnkagomhadcaaGreat.cleanForms
open Go.Ev Go.Ev.Lit
theorem t86 : (chkNx s86 (run F 9947 s85.fr s85.cs s85.h s85.ls), codesNx (idsOf s86.ls) (run F 9947 s85.fr s85.cs s85.h s85.ls)) = (true, k86) := by kernel_rfl
theorem t87 : (chkNx s87 (run F 12074 s86.fr s86.cs s86.h s86.ls), codesNx (idsOf s87.ls) (run F 12074 s86.fr s86.cs s86.h s86.ls)) = (true, k87) := by kernel_rfl
theorem t88 : (chkNx s88 (run F 10907 s87.fr s87.cs s87.h s87.ls), codesNx (idsOf s88.ls) (run F 10907 s87.fr s87.cs s87.h s87.ls)) = (true, k88) := by kernel_rfl
theorem t89 : (chkNx s89 (run F 12929 s88.fr s88.cs s88.h s88.ls), codesNx (idsOf s89.ls) (run F 12929 s88.fr s88.cs s88.h s88.ls)) = (true, k89) := by kernel_rfl
theorem t90 : (chkNx s90 (run F 10825 s89.fr s89.cs s89.h s89.ls), codesNx (idsOf s90.ls) (run F 10825 s89.fr s89.cs s89.h s89.ls)) = (true, k90) := by kernel_rfl
end Go.Proofs.YtgmnkagomhadcaaGreat.cleanForms
