/- Piece 11 of the run of 'logForms': from the state ahead of it to the state behind it. -/
import Derived.Test.YtgmnkagomhadcaaGreatLogFormsD3
import Derived.WalkKit
namespace Go.Proofs.YtgmnkagomhadcaaGreat.logForms
open Go.Ev Go.Ev.Lit
theorem t11 : (chkNx s11 (run F 13610 s10.fr s10.cs s10.h s10.ls), codesNx (run F 13610 s10.fr s10.cs s10.h s10.ls)) = (true, k11) := by kernel_rfl
end Go.Proofs.YtgmnkagomhadcaaGreat.logForms
