/- Pieces 46 to 48 of the run of 'snapForms': from the state ahead of each to the state behind it. -/
import Derived.Test.YtgmnkagomhadcaaGreatSnapFormsD2
import Derived.WalkKit
namespace Go.Proofs.YtgmnkagomhadcaaGreat.snapForms
open Go.Ev Go.Ev.Lit
theorem t46 : (chkNx s46 (run F 17103 s45.fr s45.cs s45.h s45.ls), codesNx (idsOf s46.ls) (run F 17103 s45.fr s45.cs s45.h s45.ls)) = (true, k46) := by kernel_rfl
theorem t47 : (chkNx s47 (run F 18200 s46.fr s46.cs s46.h s46.ls), codesNx (idsOf s47.ls) (run F 18200 s46.fr s46.cs s46.h s46.ls)) = (true, k47) := by kernel_rfl
theorem t48 : (chkNx s48 (run F 18392 s47.fr s47.cs s47.h s47.ls), codesNx (idsOf s48.ls) (run F 18392 s47.fr s47.cs s47.h s47.ls)) = (true, k48) := by kernel_rfl
end Go.Proofs.YtgmnkagomhadcaaGreat.snapForms
