/- Pieces 81 to 85 of the run of 'cleanForms': from the state ahead of each to the state behind it. -/
import Derived.Test.YtgmnkagomhadcaaGreatCleanFormsD3
import Derived.WalkKit
namespace Go.Proofs.YtgmnkagomhadcaaGreat.cleanForms
open Go.Ev Go.Ev.Lit
theorem t81 : (chkNx s81 (run F 13330 s80.fr s80.cs s80.h s80.ls), codesNx (idsOf s81.ls) (run F 13330 s80.fr s80.cs s80.h s80.ls)) = (true, k81) := by kernel_rfl
theorem t82 : (chkNx s82 (run F 13520 s81.fr s81.cs s81.h s81.ls), codesNx (idsOf s82.ls) (run F 13520 s81.fr s81.cs s81.h s81.ls)) = (true, k82) := by kernel_rfl
theorem t83 : (chkNx s83 (run F 10333 s82.fr s82.cs s82.h s82.ls), codesNx (idsOf s83.ls) (run F 10333 s82.fr s82.cs s82.h s82.ls)) = (true, k83) := by kernel_rfl
theorem t84 : (chkNx s84 (run F 10847 s83.fr s83.cs s83.h s83.ls), codesNx (idsOf s84.ls) (run F 10847 s83.fr s83.cs s83.h s83.ls)) = (true, k84) := by kernel_rfl
theorem t85 : (chkNx s85 (run F 11645 s84.fr s84.cs s84.h s84.ls), codesNx (idsOf s85.ls) (run F 11645 s84.fr s84.cs s84.h s84.ls)) = (true, k85) := by kernel_rfl
end Go.Proofs.YtgmnkagomhadcaaGreat.cleanForms
