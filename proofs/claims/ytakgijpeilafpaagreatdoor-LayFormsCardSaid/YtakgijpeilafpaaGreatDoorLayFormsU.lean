/- The pieces of the run of 'layForms' put together. -/
import Derived.Test.YtakgijpeilafpaaGreatDoorLayFormsT1
import Derived.Test.YtakgijpeilafpaaGreatDoorLayFormsT2
import Derived.Test.YtakgijpeilafpaaGreatDoorLayFormsT3
import Derived.Test.YtakgijpeilafpaaGreatDoorLayFormsT4
import Derived.Test.YtakgijpeilafpaaGreatDoorLayFormsT5
import Derived.Test.YtakgijpeilafpaaGreatDoorLayFormsT6
import Derived.Test.YtakgijpeilafpaaGreatDoorLayFormsT7
import Derived.Test.YtakgijpeilafpaaGreatDoorLayFormsT8
import Derived.Test.YtakgijpeilafpaaGreatDoorLayFormsT9
namespace Go.Proofs.YtakgijpeilafpaaGreatDoor.layForms
open Go.Ev Go.Ev.Lit
theorem all (hN : namesOk Tryz.prog = true) (hF : FOk Tryz.prog F) : Leads Tryz.prog (st0 Tryz.prog 6) s8 :=
  (((((((leads_to hN hF h1 t1).trans (leads_to hN hF h2 t2)).trans (leads_to hN hF h3 t3)).trans (leads_to hN hF h4 t4)).trans (leads_to hN hF h5 t5)).trans (leads_to hN hF h6 t6)).trans (leads_to hN hF h7 t7)).trans (leads_to hN hF h8 t8)
theorem has : hasFn Tryz.prog 6 = true := by kernel_rfl
theorem said (hN : namesOk Tryz.prog = true) (hF : FOk Tryz.prog F) (w : World) : Calls Tryz.prog 6 #[] w fun
      | .returned v, w' => v = .bool true ∧ Kept w w'
      | _, _ => False :=
  pieces_true hN hF has (all hN hF) last w
end Go.Proofs.YtakgijpeilafpaaGreatDoor.layForms
