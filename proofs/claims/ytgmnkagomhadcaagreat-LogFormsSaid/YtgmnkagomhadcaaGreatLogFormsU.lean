/- The pieces of the run of 'logForms' put together. -/
import Derived.Test.YtgmnkagomhadcaaGreatLogFormsT1
import Derived.Test.YtgmnkagomhadcaaGreatLogFormsT2
import Derived.Test.YtgmnkagomhadcaaGreatLogFormsT3
import Derived.Test.YtgmnkagomhadcaaGreatLogFormsT4
import Derived.Test.YtgmnkagomhadcaaGreatLogFormsT5
import Derived.Test.YtgmnkagomhadcaaGreatLogFormsT6
import Derived.Test.YtgmnkagomhadcaaGreatLogFormsT7
import Derived.Test.YtgmnkagomhadcaaGreatLogFormsT8
import Derived.Test.YtgmnkagomhadcaaGreatLogFormsT9
import Derived.Test.YtgmnkagomhadcaaGreatLogFormsT10
import Derived.Test.YtgmnkagomhadcaaGreatLogFormsT11
import Derived.Test.YtgmnkagomhadcaaGreatLogFormsT12
import Derived.Test.YtgmnkagomhadcaaGreatLogFormsT13
import Derived.Test.YtgmnkagomhadcaaGreatLogFormsT14
namespace Go.Proofs.YtgmnkagomhadcaaGreat.logForms
open Go.Ev Go.Ev.Lit
theorem all (hN : namesOk Tryz.prog = true) (hF : FOk Tryz.prog F) : Leads Tryz.prog (st0 Tryz.prog 3) s13 :=
  ((((((((((((leads_to hN hF h1 t1).trans (leads_to hN hF h2 t2)).trans (leads_to hN hF h3 t3)).trans (leads_to hN hF h4 t4)).trans (leads_to hN hF h5 t5)).trans (leads_to hN hF h6 t6)).trans (leads_to hN hF h7 t7)).trans (leads_to hN hF h8 t8)).trans (leads_to hN hF h9 t9)).trans (leads_to hN hF h10 t10)).trans (leads_to hN hF h11 t11)).trans (leads_to hN hF h12 t12)).trans (leads_to hN hF h13 t13)
theorem has : hasFn Tryz.prog 3 = true := by kernel_rfl
theorem said (hN : namesOk Tryz.prog = true) (hF : FOk Tryz.prog F) (w : World) : Calls Tryz.prog 3 #[] w fun
      | .returned v, w' => v = .bool true ∧ Kept w w'
      | _, _ => False :=
  pieces_true hN hF has (all hN hF) last w
end Go.Proofs.YtgmnkagomhadcaaGreat.logForms
