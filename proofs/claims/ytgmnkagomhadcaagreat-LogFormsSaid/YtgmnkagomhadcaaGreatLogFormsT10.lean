/- Piece 10 of the run of 'logForms': from the state ahead of it to the state behind it. -/
import Derived.Test.YtgmnkagomhadcaaGreatLogFormsD3
import Derived.WalkKit
namespace Go.Proofs.YtgmnkagomhadcaaGreat.logForms
open Go.Ev Go.Ev.Lit
theorem t10 : (chkNx s10 (run F 13817 s9.fr s9.cs s9.h s9.ls), codesNx (run F 13817 s9.fr s9.cs s9.h s9.ls)) = (true, k10) := by kernel_rfl
end Go.Proofs.YtgmnkagomhadcaaGreat.logForms
