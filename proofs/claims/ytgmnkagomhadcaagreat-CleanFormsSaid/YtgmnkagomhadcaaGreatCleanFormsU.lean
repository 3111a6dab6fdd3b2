/- The pieces of the run of 'cleanForms' put together. -/
import Derived.Test.YtgmnkagomhadcaaGreatCleanFormsT1
import Derived.Test.YtgmnkagomhadcaaGreatCleanFormsT2
import Derived.Test.YtgmnkagomhadcaaGreatCleanFormsT3
import Derived.Test.YtgmnkagomhadcaaGreatCleanFormsT4
import Derived.Test.YtgmnkagomhadcaaGreatCleanFormsT5
import Derived.Test.YtgmnkagomhadcaaGreatCleanFormsT6
import Derived.Test.YtgmnkagomhadcaaGreatCleanFormsT7
import Derived.Test.YtgmnkagomhadcaaGreatCleanFormsT8
import Derived.Test.YtgmnkagomhadcaaGreatCleanFormsT9
import Derived.Test.YtgmnkagomhadcaaGreatCleanFormsT10
import Derived.Test.YtgmnkagomhadcaaGreatCleanFormsT11
import Derived.Test.YtgmnkagomhadcaaGreatCleanFormsT12
import Derived.Test.YtgmnkagomhadcaaGreatCleanFormsT13
import Derived.Test.YtgmnkagomhadcaaGreatCleanFormsT14
import Derived.Test.YtgmnkagomhadcaaGreatCleanFormsT15
import Derived.Test.YtgmnkagomhadcaaGreatCleanFormsT16
import Derived.Test.YtgmnkagomhadcaaGreatCleanFormsT17
import Derived.Test.YtgmnkagomhadcaaGreatCleanFormsT18
import Derived.Test.YtgmnkagomhadcaaGreatCleanFormsT19
import Derived.Test.YtgmnkagomhadcaaGreatCleanFormsT20
import Derived.Test.YtgmnkagomhadcaaGreatCleanFormsT21
import Derived.Test.YtgmnkagomhadcaaGreatCleanFormsT22
import Derived.Test.YtgmnkagomhadcaaGreatCleanFormsT23
import Derived.Test.YtgmnkagomhadcaaGreatCleanFormsT24
import Derived.Test.YtgmnkagomhadcaaGreatCleanFormsT25
import Derived.Test.YtgmnkagomhadcaaGreatCleanFormsT26
import Derived.Test.YtgmnkagomhadcaaGreatCleanFormsT27
import Derived.Test.YtgmnkagomhadcaaGreatCleanFormsT28
import Derived.Test.YtgmnkagomhadcaaGreatCleanFormsT29
import Derived.Test.YtgmnkagomhadcaaGreatCleanFormsT30
import Derived.Test.YtgmnkagomhadcaaGreatCleanFormsT31
import Derived.Test.YtgmnkagomhadcaaGreatCleanFormsT32
import Derived.Test.YtgmnkagomhadcaaGreatCleanFormsTZ
namespace Go.Proofs.YtgmnkagomhadcaaGreat.cleanForms
open Go.Ev Go.Ev.Lit
theorem all (hN : namesOk Tryz.prog = true) (hF : FOk Tryz.prog F) : Leads Tryz.prog (st0 Tryz.prog 4) s160 :=
  (((((((((((((((((((((((((((((((((((((((((((((((((((((((((((((((((((((((((((((((((((((((((((((((((((((((((((((((((((((((((((((((((((((((((((((((((((((((((((((((leads_to hN hF h1 t1).trans (leads_to hN hF h2 t2)).trans (leads_to hN hF h3 t3)).trans (leads_to hN hF h4 t4)).trans (leads_to hN hF h5 t5)).trans (leads_to hN hF h6 t6)).trans (leads_to hN hF h7 t7)).trans (leads_to hN hF h8 t8)).trans (leads_to hN hF h9 t9)).trans (leads_to hN hF h10 t10)).trans (leads_to hN hF h11 t11)).trans (leads_to hN hF h12 t12)).trans (leads_to hN hF h13 t13)).trans (leads_to hN hF h14 t14)).trans (leads_to hN hF h15 t15)).trans (leads_to hN hF h16 t16)).trans (leads_to hN hF h17 t17)).trans (leads_to hN hF h18 t18)).trans (leads_to hN hF h19 t19)).trans (leads_to hN hF h20 t20)).trans (leads_to hN hF h21 t21)).trans (leads_to hN hF h22 t22)).trans (leads_to hN hF h23 t23)).trans (leads_to hN hF h24 t24)).trans (leads_to hN hF h25 t25)).trans (leads_to hN hF h26 t26)).trans (leads_to hN hF h27 t27)).trans (leads_to hN hF h28 t28)).trans (leads_to hN hF h29 t29)).trans (leads_to hN hF h30 t30)).trans (leads_to hN hF h31 t31)).trans (leads_to hN hF h32 t32)).trans (leads_to hN hF h33 t33)).trans (leads_to hN hF h34 t34)).trans (leads_to hN hF h35 t35)).trans (leads_to hN hF h36 t36)).trans (leads_to hN hF h37 t37)).trans (leads_to hN hF h38 t38)).trans (leads_to hN hF h39 t39)).trans (leads_to hN hF h40 t40)).trans (leads_to hN hF h41 t41)).trans (leads_to hN hF h42 t42)).trans (leads_to hN hF h43 t43)).trans (leads_to hN hF h44 t44)).trans (leads_to hN hF h45 t45)).trans (leads_to hN hF h46 t46)).trans (leads_to hN hF h47 t47)).trans (leads_to hN hF h48 t48)).trans (leads_to hN hF h49 t49)).trans (leads_to hN hF h50 t50)).trans (leads_to hN hF h51 t51)).trans (leads_to hN hF h52 t52)).trans (leads_to hN hF h53 t53)).trans (leads_to hN hF h54 t54)).trans (leads_to hN hF h55 t55)).trans (leads_to hN hF h56 t56)).trans (leads_to hN hF h57 t57)).trans (leads_to hN hF h58 t58)).trans (leads_to hN hF h59 t59)).trans (leads_to hN hF h60 t60)).trans (leads_to hN hF h61 t61)).trans (leads_to hN hF h62 t62)).trans (leads_to hN hF h63 t63)).trans (leads_to hN hF h64 t64)).trans (leads_to hN hF h65 t65)).trans (leads_to hN hF h66 t66)).trans (leads_to hN hF h67 t67)).trans (leads_to hN hF h68 t68)).trans (leads_to hN hF h69 t69)).trans (leads_to hN hF h70 t70)).trans (leads_to hN hF h71 t71)).trans (leads_to hN hF h72 t72)).trans (leads_to hN hF h73 t73)).trans (leads_to hN hF h74 t74)).trans (leads_to hN hF h75 t75)).trans (leads_to hN hF h76 t76)).trans (leads_to hN hF h77 t77)).trans (leads_to hN hF h78 t78)).trans (leads_to hN hF h79 t79)).trans (leads_to hN hF h80 t80)).trans (leads_to hN hF h81 t81)).trans (leads_to hN hF h82 t82)).trans (leads_to hN hF h83 t83)).trans (leads_to hN hF h84 t84)).trans (leads_to hN hF h85 t85)).trans (leads_to hN hF h86 t86)).trans (leads_to hN hF h87 t87)).trans (leads_to hN hF h88 t88)).trans (leads_to hN hF h89 t89)).trans (leads_to hN hF h90 t90)).trans (leads_to hN hF h91 t91)).trans (leads_to hN hF h92 t92)).trans (leads_to hN hF h93 t93)).trans (leads_to hN hF h94 t94)).trans (leads_to hN hF h95 t95)).trans (leads_to hN hF h96 t96)).trans (leads_to hN hF h97 t97)).trans (leads_to hN hF h98 t98)).trans (leads_to hN hF h99 t99)).trans (leads_to hN hF h100 t100)).trans (leads_to hN hF h101 t101)).trans (leads_to hN hF h102 t102)).trans (leads_to hN hF h103 t103)).trans (leads_to hN hF h104 t104)).trans (leads_to hN hF h105 t105)).trans (leads_to hN hF h106 t106)).trans (leads_to hN hF h107 t107)).trans (leads_to hN hF h108 t108)).trans (leads_to hN hF h109 t109)).trans (leads_to hN hF h110 t110)).trans (leads_to hN hF h111 t111)).trans (leads_to hN hF h112 t112)).trans (leads_to hN hF h113 t113)).trans (leads_to hN hF h114 t114)).trans (leads_to hN hF h115 t115)).trans (leads_to hN hF h116 t116)).trans (leads_to hN hF h117 t117)).trans (leads_to hN hF h118 t118)).trans (leads_to hN hF h119 t119)).trans (leads_to hN hF h120 t120)).trans (leads_to hN hF h121 t121)).trans (leads_to hN hF h122 t122)).trans (leads_to hN hF h123 t123)).trans (leads_to hN hF h124 t124)).trans (leads_to hN hF h125 t125)).trans (leads_to hN hF h126 t126)).trans (leads_to hN hF h127 t127)).trans (leads_to hN hF h128 t128)).trans (leads_to hN hF h129 t129)).trans (leads_to hN hF h130 t130)).trans (leads_to hN hF h131 t131)).trans (leads_to hN hF h132 t132)).trans (leads_to hN hF h133 t133)).trans (leads_to hN hF h134 t134)).trans (leads_to hN hF h135 t135)).trans (leads_to hN hF h136 t136)).trans (leads_to hN hF h137 t137)).trans (leads_to hN hF h138 t138)).trans (leads_to hN hF h139 t139)).trans (leads_to hN hF h140 t140)).trans (leads_to hN hF h141 t141)).trans (leads_to hN hF h142 t142)).trans (leads_to hN hF h143 t143)).trans (leads_to hN hF h144 t144)).trans (leads_to hN hF h145 t145)).trans (leads_to hN hF h146 t146)).trans (leads_to hN hF h147 t147)).trans (leads_to hN hF h148 t148)).trans (leads_to hN hF h149 t149)).trans (leads_to hN hF h150 t150)).trans (leads_to hN hF h151 t151)).trans (leads_to hN hF h152 t152)).trans (leads_to hN hF h153 t153)).trans (leads_to hN hF h154 t154)).trans (leads_to hN hF h155 t155)).trans (leads_to hN hF h156 t156)).trans (leads_to hN hF h157 t157)).trans (leads_to hN hF h158 t158)).trans (leads_to hN hF h159 t159)).trans (leads_to hN hF h160 t160)
theorem has : hasFn Tryz.prog 4 = true := by kernel_rfl
theorem said (hN : namesOk Tryz.prog = true) (hF : FOk Tryz.prog F) (w : World) : Calls Tryz.prog 4 #[] w fun
      | .returned v, w' => v = .bool true ∧ Kept w w'
      | _, _ => False :=
  pieces_true hN hF has (all hN hF) last w
end Go.Proofs.YtgmnkagomhadcaaGreat.cleanForms
