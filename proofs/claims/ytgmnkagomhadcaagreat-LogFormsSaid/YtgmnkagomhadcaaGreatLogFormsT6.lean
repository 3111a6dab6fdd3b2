/- Piece 6 of the run of 'logForms': from the state ahead of it to the state behind it. -/
import Derived.Test.YtgmnkagomhadcaaGreatLogFormsD3
import Derived.WalkKit
namespace Go.Proofs.YtgmnkagomhadcaaGreat.logForms
open Go.Ev Go.Ev.Lit
theorem t6 : (chkNx s6 (run F 14585 s5.fr s5.cs s5.h s5.ls), codesNx (run F 14585 s5.fr s5.cs s5.h s5.ls)) = (true, k6) := by kernel_rfl
end Go.Proofs.YtgmnkagomhadcaaGreat.logForms
