/- The last piece of the run of 'snapForms'. -/
import Derived.Test.YtgmnkagomhadcaaGreatSnapFormsD2
import Derived.WalkKit
namespace Go.Proofs.YtgmnkagomhadcaaGreat.snapForms
open Go.Ev Go.Ev.Lit
theorem last : isTrue (run F 17483 s52.fr s52.cs s52.h s52.ls) = true := by kernel_rfl
end Go.Proofs.YtgmnkagomhadcaaGreat.snapForms
