/- Piece 52 of the run of 'snapForms': from the state ahead of each to the state behind it. -/
import Derived.Test.YtgmnkagomhadcaaGreatSnapFormsD2
import Derived.WalkKit
namespace Go.Proofs.YtgmnkagomhadcaaGreat.snapForms
open Go.Ev Go.Ev.Lit
theorem t52 : (chkNx s52 (run F 17269 s51.fr s51.cs s51.h s51.ls), codesNx (idsOf s52.ls) (run F 17269 s51.fr s51.cs s51.h s51.ls)) = (true, k52) := by kernel_rfl
end Go.Proofs.YtgmnkagomhadcaaGreat.snapForms
