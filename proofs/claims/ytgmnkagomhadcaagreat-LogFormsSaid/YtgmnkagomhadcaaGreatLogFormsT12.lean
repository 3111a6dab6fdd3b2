/- Piece 12 of the run of 'logForms': from the state ahead of it to the state behind it. -/
import Derived.Test.YtgmnkagomhadcaaGreatLogFormsD3
import Derived.WalkKit
namespace Go.Proofs.YtgmnkagomhadcaaGreat.logForms
open Go.Ev Go.Ev.Lit
theorem t12 : (chkNx s12 (run F 14706 s11.fr s11.cs s11.h s11.ls), codesNx (run F 14706 s11.fr s11.cs s11.h s11.ls)) = (true, k12) := by kernel_rfl
end Go.Proofs.YtgmnkagomhadcaaGreat.logForms
