/- Piece 9 of the run of 'logForms': from the state ahead of it to the state behind it. -/
import Derived.Test.YtgmnkagomhadcaaGreatLogFormsD3
import Derived.WalkKit
namespace Go.Proofs.YtgmnkagomhadcaaGreat.logForms
open Go.Ev Go.Ev.Lit
theorem t9 : (chkNx s9 (run F 12414 s8.fr s8.cs s8.h s8.ls), codesNx (run F 12414 s8.fr s8.cs s8.h s8.ls)) = (true, k9) := by kernel_rfl
end Go.Proofs.YtgmnkagomhadcaaGreat.logForms
