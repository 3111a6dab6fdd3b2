/- Pieces 156 to 160 of the run of 'cleanForms': from the state ahead of each to the state behind it. -/
import Derived.Test.YtgmnkagomhadcaaGreatCleanFormsD3
import Derived.WalkKit
namespace Go.Proofs.YtgmnkagomhadcaaGreat.cleanForms
open Go.Ev Go.Ev.Lit
theorem t156 : (chkNx s156 (run F 14099 s155.fr s155.cs s155.h s155.ls), codesNx (idsOf s156.ls) (run F 14099 s155.fr s155.cs s155.h s155.ls)) = (true, k156) := by kernel_rfl
theorem t157 : (chkNx s157 (run F 19913 s156.fr s156.cs s156.h s156.ls), codesNx (idsOf s157.ls) (run F 19913 s156.fr s156.cs s156.h s156.ls)) = (true, k157) := by kernel_rfl
theorem t158 : (chkNx s158 (run F 14668 s157.fr s157.cs s157.h s157.ls), codesNx (idsOf s158.ls) (run F 14668 s157.fr s157.cs s157.h s157.ls)) = (true, k158) := by kernel_rfl
theorem t159 : (chkNx s159 (run F 19521 s158.fr s158.cs s158.h s158.ls), codesNx (idsOf s159.ls) (run F 19521 s158.fr s158.cs s158.h s158.ls)) = (true, k159) := by kernel_rfl
theorem t160 : (chkNx s160 (run F 13910 s159.fr s159.cs s159.h s159.ls), codesNx (idsOf s160.ls) (run F 13910 s159.fr s159.cs s159.h s159.ls)) = (true, k160) := by kernel_rfl
end Go.Proofs.YtgmnkagomhadcaaGreat.cleanForms
