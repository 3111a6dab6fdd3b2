/- The last piece of the run of 'volForms'. -/
import Derived.Test.YtdnnaeplhchmoaaGreatVolFormsD0
import Derived.WalkKit
namespace Go.Proofs.YtdnnaeplhchmoaaGreat.volForms
open Go.Ev Go.Ev.Lit
theorem last : isTrue (run F 9595 s5.fr s5.cs s5.h s5.ls) = true := by kernel_rfl
end Go.Proofs.YtdnnaeplhchmoaaGreat.volForms
