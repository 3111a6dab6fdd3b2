/- The pieces of the run of 'segBegun' put together. -/
import Derived.Test.YtakgijpeilafpaaGreatDoorSegBegunT1
import Derived.Test.YtakgijpeilafpaaGreatDoorSegBegunT2
import Derived.Test.YtakgijpeilafpaaGreatDoorSegBegunT3
namespace Go.Proofs.YtakgijpeilafpaaGreatDoor.segBegun
open Go.Ev Go.Ev.Lit
theorem all (hN : namesOk Tryz.prog = true) (hF : FOk Tryz.prog F) : Leads Tryz.prog (st0 Tryz.prog 12) s2 :=
  (leads_to hN hF h1 t1).trans (leads_to hN hF h2 t2)
theorem has : hasFn Tryz.prog 12 = true := by kernel_rfl
theorem said (hN : namesOk Tryz.prog = true) (hF : FOk Tryz.prog F) (w : World) : Calls Tryz.prog 12 #[] w fun
      | .returned v, w' => v = .bool true ∧ Kept w w'
      | _, _ => False :=
  pieces_true hN hF has (all hN hF) last w
end Go.Proofs.YtakgijpeilafpaaGreatDoor.segBegun
