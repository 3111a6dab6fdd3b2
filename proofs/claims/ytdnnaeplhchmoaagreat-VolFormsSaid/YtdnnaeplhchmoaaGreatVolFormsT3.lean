/- Piece 5 of the run of 'volForms': from the state ahead of each to the state behind it. -/
import Derived.Test.YtdnnaeplhchmoaaGreatVolFormsD0
import Derived.WalkKit
namespace Go.Proofs.YtdnnaeplhchmoaaGreat.volForms
open Go.Ev Go.Ev.Lit
theorem t5 : (chkNx s5 (run F 14096 s4.fr s4.cs s4.h s4.ls), codesNx (idsOf s5.ls) (run F 14096 s4.fr s4.cs s4.h s4.ls)) = (true, k5) := by kernel_rfl
end Go.Proofs.YtdnnaeplhchmoaaGreat.volForms
