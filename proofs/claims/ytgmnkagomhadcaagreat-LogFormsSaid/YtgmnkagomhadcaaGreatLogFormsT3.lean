/- Piece 3 of the run of 'logForms': from the state ahead of it to the state behind it. -/
import Derived.Test.YtgmnkagomhadcaaGreatLogFormsD3
import Derived.WalkKit
namespace Go.Proofs.YtgmnkagomhadcaaGreat.logForms
open Go.Ev Go.Ev.Lit
theorem t3 : (chkNx s3 (run F 11441 s2.fr s2.cs s2.h s2.ls), codesNx (run F 11441 s2.fr s2.cs s2.h s2.ls)) = (true, k3) := by kernel_rfl
end Go.Proofs.YtgmnkagomhadcaaGreat.logForms
