/- The pieces of the run of 'snapForms' put together. -/
import Derived.Test.YtgmnkagomhadcaaGreatSnapFormsT1
import Derived.Test.YtgmnkagomhadcaaGreatSnapFormsT2
import Derived.Test.YtgmnkagomhadcaaGreatSnapFormsT3
import Derived.Test.YtgmnkagomhadcaaGreatSnapFormsT4
import Derived.Test.YtgmnkagomhadcaaGreatSnapFormsT5
import Derived.Test.YtgmnkagomhadcaaGreatSnapFormsT6
import Derived.Test.YtgmnkagomhadcaaGreatSnapFormsT7
import Derived.Test.YtgmnkagomhadcaaGreatSnapFormsT8
import Derived.Test.YtgmnkagomhadcaaGreatSnapFormsT9
import Derived.Test.YtgmnkagomhadcaaGreatSnapFormsT10
import Derived.Test.YtgmnkagomhadcaaGreatSnapFormsT11
import Derived.Test.YtgmnkagomhadcaaGreatSnapFormsT12
import Derived.Test.YtgmnkagomhadcaaGreatSnapFormsT13
import Derived.Test.YtgmnkagomhadcaaGreatSnapFormsT14
import Derived.Test.YtgmnkagomhadcaaGreatSnapFormsT15
import Derived.Test.YtgmnkagomhadcaaGreatSnapFormsT16
import Derived.Test.YtgmnkagomhadcaaGreatSnapFormsT17
import Derived.Test.YtgmnkagomhadcaaGreatSnapFormsT18
import Derived.Test.YtgmnkagomhadcaaGreatSnapFormsTZ
namespace Go.Proofs.YtgmnkagomhadcaaGreat.snapForms
open Go.Ev Go.Ev.Lit
theorem all (hN : namesOk Tryz.prog = true) (hF : FOk Tryz.prog F) : Leads Tryz.prog (st0 Tryz.prog 5) s52 :=
  (((((((((((((((((((((((((((((((((((((((((((((((((((leads_to hN hF h1 t1).trans (leads_to hN hF h2 t2)).trans (leads_to hN hF h3 t3)).trans (leads_to hN hF h4 t4)).trans (leads_to hN hF h5 t5)).trans (leads_to hN hF h6 t6)).trans (leads_to hN hF h7 t7)).trans (leads_to hN hF h8 t8)).trans (leads_to hN hF h9 t9)).trans (leads_to hN hF h10 t10)).trans (leads_to hN hF h11 t11)).trans (leads_to hN hF h12 t12)).trans (leads_to hN hF h13 t13)).trans (leads_to hN hF h14 t14)).trans (leads_to hN hF h15 t15)).trans (leads_to hN hF h16 t16)).trans (leads_to hN hF h17 t17)).trans (leads_to hN hF h18 t18)).trans (leads_to hN hF h19 t19)).trans (leads_to hN hF h20 t20)).trans (leads_to hN hF h21 t21)).trans (leads_to hN hF h22 t22)).trans (leads_to hN hF h23 t23)).trans (leads_to hN hF h24 t24)).trans (leads_to hN hF h25 t25)).trans (leads_to hN hF h26 t26)).trans (leads_to hN hF h27 t27)).trans (leads_to hN hF h28 t28)).trans (leads_to hN hF h29 t29)).trans (leads_to hN hF h30 t30)).trans (leads_to hN hF h31 t31)).trans (leads_to hN hF h32 t32)).trans (leads_to hN hF h33 t33)).trans (leads_to hN hF h34 t34)).trans (leads_to hN hF h35 t35)).trans (leads_to hN hF h36 t36)).trans (leads_to hN hF h37 t37)).trans (leads_to hN hF h38 t38)).trans (leads_to hN hF h39 t39)).trans (leads_to hN hF h40 t40)).trans (leads_to hN hF h41 t41)).trans (leads_to hN hF h42 t42)).trans (leads_to hN hF h43 t43)).trans (leads_to hN hF h44 t44)).trans (leads_to hN hF h45 t45)).trans (leads_to hN hF h46 t46)).trans (leads_to hN hF h47 t47)).trans (leads_to hN hF h48 t48)).trans (leads_to hN hF h49 t49)).trans (leads_to hN hF h50 t50)).trans (leads_to hN hF h51 t51)).trans (leads_to hN hF h52 t52)
theorem has : hasFn Tryz.prog 5 = true := by kernel_rfl
theorem said (hN : namesOk Tryz.prog = true) (hF : FOk Tryz.prog F) (w : World) : Calls Tryz.prog 5 #[] w fun
      | .returned v, w' => v = .bool true ∧ Kept w w'
      | _, _ => False :=
  pieces_true hN hF has (all hN hF) last w
end Go.Proofs.YtgmnkagomhadcaaGreat.snapForms
