/- The last piece of the run of 'logForms'. -/
import Derived.Test.YtgmnkagomhadcaaGreatLogFormsD3
import Derived.WalkKit
namespace Go.Proofs.YtgmnkagomhadcaaGreat.logForms
open Go.Ev Go.Ev.Lit
theorem last : isTrue (run F 10342 s13.fr s13.cs s13.h s13.ls) = true := by kernel_rfl
end Go.Proofs.YtgmnkagomhadcaaGreat.logForms
