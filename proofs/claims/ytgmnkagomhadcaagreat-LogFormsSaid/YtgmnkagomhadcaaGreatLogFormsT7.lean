/- Piece 7 of the run of 'logForms': from the state ahead of it to the state behind it. -/
import Derived.Test.YtgmnkagomhadcaaGreatLogFormsD3
import Derived.WalkKit
namespace Go.Proofs.YtgmnkagomhadcaaGreat.logForms
open Go.Ev Go.Ev.Lit
theorem t7 : (chkNx s7 (run F 14394 s6.fr s6.cs s6.h s6.ls), codesNx (run F 14394 s6.fr s6.cs s6.h s6.ls)) = (true, k7) := by kernel_rfl
end Go.Proofs.YtgmnkagomhadcaaGreat.logForms
