/- The pieces of the run of 'sendForms' put together. -/
import Derived.Test.YtapnfgnofdgliaaGreatDoorSendFormsT1
import Derived.Test.YtapnfgnofdgliaaGreatDoorSendFormsT2
import Derived.Test.YtapnfgnofdgliaaGreatDoorSendFormsT3
import Derived.Test.YtapnfgnofdgliaaGreatDoorSendFormsT4
import Derived.Test.YtapnfgnofdgliaaGreatDoorSendFormsT5
import Derived.Test.YtapnfgnofdgliaaGreatDoorSendFormsT6
import Derived.Test.YtapnfgnofdgliaaGreatDoorSendFormsT7
import Derived.Test.YtapnfgnofdgliaaGreatDoorSendFormsT8
import Derived.Test.YtapnfgnofdgliaaGreatDoorSendFormsT9
import Derived.Test.YtapnfgnofdgliaaGreatDoorSendFormsT10
import Derived.Test.YtapnfgnofdgliaaGreatDoorSendFormsT11
import Derived.Test.YtapnfgnofdgliaaGreatDoorSendFormsT12
import Derived.Test.YtapnfgnofdgliaaGreatDoorSendFormsTZ
namespace Go.Proofs.YtapnfgnofdgliaaGreatDoor.sendForms
open Go.Ev Go.Ev.Lit
theorem all (hN : namesOk Tryz.prog = true) (hF : FOk Tryz.prog F) : Leads Tryz.prog (st0 Tryz.prog 4) s24 :=
  (((((((((((((((((((((((leads_to hN hF h1 t1).trans (leads_to hN hF h2 t2)).trans (leads_to hN hF h3 t3)).trans (leads_to hN hF h4 t4)).trans (leads_to hN hF h5 t5)).trans (leads_to hN hF h6 t6)).trans (leads_to hN hF h7 t7)).trans (leads_to hN hF h8 t8)).trans (leads_to hN hF h9 t9)).trans (leads_to hN hF h10 t10)).trans (leads_to hN hF h11 t11)).trans (leads_to hN hF h12 t12)).trans (leads_to hN hF h13 t13)).trans (leads_to hN hF h14 t14)).trans (leads_to hN hF h15 t15)).trans (leads_to hN hF h16 t16)).trans (leads_to hN hF h17 t17)).trans (leads_to hN hF h18 t18)).trans (leads_to hN hF h19 t19)).trans (leads_to hN hF h20 t20)).trans (leads_to hN hF h21 t21)).trans (leads_to hN hF h22 t22)).trans (leads_to hN hF h23 t23)).trans (leads_to hN hF h24 t24)
theorem has : hasFn Tryz.prog 4 = true := by kernel_rfl
theorem said (hN : namesOk Tryz.prog = true) (hF : FOk Tryz.prog F) (w : World) : Calls Tryz.prog 4 #[] w fun
      | .returned v, w' => v = .bool true ∧ Kept w w'
      | _, _ => False :=
  pieces_true hN hF has (all hN hF) last w
end Go.Proofs.YtapnfgnofdgliaaGreatDoor.sendForms
