/- Piece 13 of the run of 'logForms': from the state ahead of it to the state behind it. -/
import Derived.Test.YtgmnkagomhadcaaGreatLogFormsD3
import Derived.WalkKit
namespace Go.Proofs.YtgmnkagomhadcaaGreat.logForms
open Go.Ev Go.Ev.Lit
theorem t13 : (chkNx s13 (run F 14709 s12.fr s12.cs s12.h s12.ls), codesNx (run F 14709 s12.fr s12.cs s12.h s12.ls)) = (true, k13) := by kernel_rfl
end Go.Proofs.YtgmnkagomhadcaaGreat.logForms
