/- Piece 1 of the run of 'logForms': from the state ahead of it to the state behind it. -/
import Derived.Test.YtgmnkagomhadcaaGreatLogFormsD3
import Derived.WalkKit
namespace Go.Proofs.YtgmnkagomhadcaaGreat.logForms
open Go.Ev Go.Ev.Lit
theorem t1 : (chkNx s1 (run F 14555 (st0 Tryz.prog 3).fr (st0 Tryz.prog 3).cs (st0 Tryz.prog 3).h (st0 Tryz.prog 3).ls), codesNx (run F 14555 (st0 Tryz.prog 3).fr (st0 Tryz.prog 3).cs (st0 Tryz.prog 3).h (st0 Tryz.prog 3).ls)) = (true, k1) := by kernel_rfl
end Go.Proofs.YtgmnkagomhadcaaGreat.logForms
