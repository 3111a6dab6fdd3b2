/- The last piece of the run of 'cleanForms'. -/
import Derived.Test.YtgmnkagomhadcaaGreatCleanFormsD3
import Derived.WalkKit
namespace Go.Proofs.YtgmnkagomhadcaaGreat.cleanForms
open Go.Ev Go.Ev.Lit
theorem last : isTrue (run F 12294 s160.fr s160.cs s160.h s160.ls) = true := by kernel_rfl
end Go.Proofs.YtgmnkagomhadcaaGreat.cleanForms
