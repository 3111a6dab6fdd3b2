/- Piece 5 of the run of 'logForms': from the state ahead of it to the state behind it. -/
import Derived.Test.YtgmnkagomhadcaaGreatLogFormsD3
import Derived.WalkKit
namespace Go.Proofs.YtgmnkagomhadcaaGreat.logForms
open Go.Ev Go.Ev.Lit
theorem t5 : (chkNx s5 (run F 14387 s4.fr s4.cs s4.h s4.ls), codesNx (run F 14387 s4.fr s4.cs s4.h s4.ls)) = (true, k5) := by kernel_rfl
end Go.Proofs.YtgmnkagomhadcaaGreat.logForms
