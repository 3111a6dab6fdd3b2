/- The pieces of the run of 'playForms' put together. -/
import Derived.Test.YtdaojpbjbfbnaaaGreatDoorPlayFormsT1
import Derived.Test.YtdaojpbjbfbnaaaGreatDoorPlayFormsT2
import Derived.Test.YtdaojpbjbfbnaaaGreatDoorPlayFormsT3
import Derived.Test.YtdaojpbjbfbnaaaGreatDoorPlayFormsT4
import Derived.Test.YtdaojpbjbfbnaaaGreatDoorPlayFormsT5
import Derived.Test.YtdaojpbjbfbnaaaGreatDoorPlayFormsT6
import Derived.Test.YtdaojpbjbfbnaaaGreatDoorPlayFormsT7
import Derived.Test.YtdaojpbjbfbnaaaGreatDoorPlayFormsT8
import Derived.Test.YtdaojpbjbfbnaaaGreatDoorPlayFormsT9
import Derived.Test.YtdaojpbjbfbnaaaGreatDoorPlayFormsT10
import Derived.Test.YtdaojpbjbfbnaaaGreatDoorPlayFormsT11
import Derived.Test.YtdaojpbjbfbnaaaGreatDoorPlayFormsT12
import Derived.Test.YtdaojpbjbfbnaaaGreatDoorPlayFormsT13
import Derived.Test.YtdaojpbjbfbnaaaGreatDoorPlayFormsT14
import Derived.Test.YtdaojpbjbfbnaaaGreatDoorPlayFormsT15
import Derived.Test.YtdaojpbjbfbnaaaGreatDoorPlayFormsT16
import Derived.Test.YtdaojpbjbfbnaaaGreatDoorPlayFormsT17
import Derived.Test.YtdaojpbjbfbnaaaGreatDoorPlayFormsT18
import Derived.Test.YtdaojpbjbfbnaaaGreatDoorPlayFormsTZ
namespace Go.Proofs.YtdaojpbjbfbnaaaGreatDoor.playForms
open Go.Ev Go.Ev.Lit
theorem all (hN : namesOk Tryz.prog = true) (hF : FOk Tryz.prog F) : Leads Tryz.prog (st0 Tryz.prog 3) s36 :=
  (((((((((((((((((((((((((((((((((((leads_to hN hF h1 t1).trans (leads_to hN hF h2 t2)).trans (leads_to hN hF h3 t3)).trans (leads_to hN hF h4 t4)).trans (leads_to hN hF h5 t5)).trans (leads_to hN hF h6 t6)).trans (leads_to hN hF h7 t7)).trans (leads_to hN hF h8 t8)).trans (leads_to hN hF h9 t9)).trans (leads_to hN hF h10 t10)).trans (leads_to hN hF h11 t11)).trans (leads_to hN hF h12 t12)).trans (leads_to hN hF h13 t13)).trans (leads_to hN hF h14 t14)).trans (leads_to hN hF h15 t15)).trans (leads_to hN hF h16 t16)).trans (leads_to hN hF h17 t17)).trans (leads_to hN hF h18 t18)).trans (leads_to hN hF h19 t19)).trans (leads_to hN hF h20 t20)).trans (leads_to hN hF h21 t21)).trans (leads_to hN hF h22 t22)).trans (leads_to hN hF h23 t23)).trans (leads_to hN hF h24 t24)).trans (leads_to hN hF h25 t25)).trans (leads_to hN hF h26 t26)).trans (leads_to hN hF h27 t27)).trans (leads_to hN hF h28 t28)).trans (leads_to hN hF h29 t29)).trans (leads_to hN hF h30 t30)).trans (leads_to hN hF h31 t31)).trans (leads_to hN hF h32 t32)).trans (leads_to hN hF h33 t33)).trans (leads_to hN hF h34 t34)).trans (leads_to hN hF h35 t35)).trans (leads_to hN hF h36 t36)
theorem has : hasFn Tryz.prog 3 = true := by kernel_rfl
theorem said (hN : namesOk Tryz.prog = true) (hF : FOk Tryz.prog F) (w : World) : Calls Tryz.prog 3 #[] w fun
      | .returned v, w' => v = .bool true ∧ Kept w w'
      | _, _ => False :=
  pieces_true hN hF has (all hN hF) last w
end Go.Proofs.YtdaojpbjbfbnaaaGreatDoor.playForms
