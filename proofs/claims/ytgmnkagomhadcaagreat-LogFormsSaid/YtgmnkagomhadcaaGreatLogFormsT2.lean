/- Piece 2 of the run of 'logForms': from the state ahead of it to the state behind it. -/
import Derived.Test.YtgmnkagomhadcaaGreatLogFormsD3
import Derived.WalkKit
namespace Go.Proofs.YtgmnkagomhadcaaGreat.logForms
open Go.Ev Go.Ev.Lit
theorem t2 : (chkNx s2 (run F 13241 s1.fr s1.cs s1.h s1.ls), codesNx (run F 13241 s1.fr s1.cs s1.h s1.ls)) = (true, k2) := by kernel_rfl
end Go.Proofs.YtgmnkagomhadcaaGreat.logForms
