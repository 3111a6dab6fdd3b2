/- Piece 8 of the run of 'logForms': from the state ahead of it to the state behind it. -/
import Derived.Test.YtgmnkagomhadcaaGreatLogFormsD3
import Derived.WalkKit
namespace Go.Proofs.YtgmnkagomhadcaaGreat.logForms
open Go.Ev Go.Ev.Lit
theorem t8 : (chkNx s8 (run F 12794 s7.fr s7.cs s7.h s7.ls), codesNx (run F 12794 s7.fr s7.cs s7.h s7.ls)) = (true, k8) := by kernel_rfl
end Go.Proofs.YtgmnkagomhadcaaGreat.logForms
