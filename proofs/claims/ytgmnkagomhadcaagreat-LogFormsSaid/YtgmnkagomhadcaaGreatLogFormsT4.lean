/- Piece 4 of the run of 'logForms': from the state ahead of it to the state behind it. -/
import Derived.Test.YtgmnkagomhadcaaGreatLogFormsD3
import Derived.WalkKit
namespace Go.Proofs.YtgmnkagomhadcaaGreat.logForms
open Go.Ev Go.Ev.Lit
theorem t4 : (chkNx s4 (run F 14531 s3.fr s3.cs s3.h s3.ls), codesNx (run F 14531 s3.fr s3.cs s3.h s3.ls)) = (true, k4) := by kernel_rfl
end Go.Proofs.YtgmnkagomhadcaaGreat.logForms
