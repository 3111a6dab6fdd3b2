/- The pieces of the run of 'segForms' put together. -/
import Derived.Test.YtakgijpeilafpaaGreatDoorSegFormsT1
import Derived.Test.YtakgijpeilafpaaGreatDoorSegFormsT2
import Derived.Test.YtakgijpeilafpaaGreatDoorSegFormsT3
import Derived.Test.YtakgijpeilafpaaGreatDoorSegFormsT4
import Derived.Test.YtakgijpeilafpaaGreatDoorSegFormsT5
import Derived.Test.YtakgijpeilafpaaGreatDoorSegFormsT6
import Derived.Test.YtakgijpeilafpaaGreatDoorSegFormsT7
namespace Go.Proofs.YtakgijpeilafpaaGreatDoor.segForms
open Go.Ev Go.Ev.Lit
theorem all (hN : namesOk Tryz.prog = true) (hF : FOk Tryz.prog F) : Leads Tryz.prog (st0 Tryz.prog 5) s6 :=
  (((((leads_to hN hF h1 t1).trans (leads_to hN hF h2 t2)).trans (leads_to hN hF h3 t3)).trans (leads_to hN hF h4 t4)).trans (leads_to hN hF h5 t5)).trans (leads_to hN hF h6 t6)
theorem has : hasFn Tryz.prog 5 = true := by kernel_rfl
theorem said (hN : namesOk Tryz.prog = true) (hF : FOk Tryz.prog F) (w : World) : Calls Tryz.prog 5 #[] w fun
      | .returned v, w' => v = .bool true ∧ Kept w w'
      | _, _ => False :=
  pieces_true hN hF has (all hN hF) last w
end Go.Proofs.YtakgijpeilafpaaGreatDoor.segForms
