/- The pieces of the run of 'planForms' put together. -/
import Derived.Test.YtapnfgnofdgliaaGreatDoorPlanFormsT1
import Derived.Test.YtapnfgnofdgliaaGreatDoorPlanFormsT2
import Derived.Test.YtapnfgnofdgliaaGreatDoorPlanFormsT3
import Derived.Test.YtapnfgnofdgliaaGreatDoorPlanFormsTZ
namespace Go.Proofs.YtapnfgnofdgliaaGreatDoor.planForms
open Go.Ev Go.Ev.Lit
theorem all (hN : namesOk Tryz.prog = true) (hF : FOk Tryz.prog F) : Leads Tryz.prog (st0 Tryz.prog 3) s6 :=
  (((((leads_to hN hF h1 t1).trans (leads_to hN hF h2 t2)).trans (leads_to hN hF h3 t3)).trans (leads_to hN hF h4 t4)).trans (leads_to hN hF h5 t5)).trans (leads_to hN hF h6 t6)
theorem has : hasFn Tryz.prog 3 = true := by kernel_rfl
theorem said (hN : namesOk Tryz.prog = true) (hF : FOk Tryz.prog F) (w : World) : Calls Tryz.prog 3 #[] w fun
      | .returned v, w' => v = .bool true ∧ Kept w w'
      | _, _ => False :=
  pieces_true hN hF has (all hN hF) last w
end Go.Proofs.YtapnfgnofdgliaaGreatDoor.planForms
