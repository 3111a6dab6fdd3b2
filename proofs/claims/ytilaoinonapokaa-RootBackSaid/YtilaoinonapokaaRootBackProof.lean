/- Proved: 'glacislaw12.RootBack' returns true, whatever its three slices of bytes, and the world that it is called in; the slices read behind the call as they read before; no condition. The program's text is told by an evaluator (YtilaoinonapokaaEvA) that is proved to say of each run what the model says of it; what the functions do is said for all arguments (YtilaoinonapokaaWA to WF). -/
import Derived.Test.YtilaoinonapokaaRows
import Derived.Test.YtilaoinonapokaaWF
import Derived.WalkKit
import Derived.ProofKit
import Derived.OpenShut
namespace Go.Proofs.Ytilaoinonapokaa.rootBack
open Go.ChangeShapes Go.WideShapes Go.ChangeAt Go.RowKit

theorem own : ownKnob Try.prog.godebug = none := by kernel_rfl
theorem laidOut : laidOutB Try.prog = true := by kernel_rfl

set_option maxRecDepth 100000 in
theorem lifted (os : Os) (started : os.Started) (H : Type) (enc : TypeId × Value → H) :
    ReturnsInHanded {} Try.checked os 4 .any (Rows.rootBackSpec.pre6 enc Try.prog Try.f4 Rows.rootBackRow.domain false) (Rows.rootBackSpec.post enc Try.prog Try.f4 false true false false) := by
  refine returnsInHanded_of_change (C := Try.checked) own started (by kernel_rfl) Try.func4
    (ChangeSpec.witness6 (enc := enc) (C := Try.checked) false ⟨#[], #[.slice none 0 0, .slice none 0 0, .slice none 0 0], []⟩ 8 (by kernel_rfl) (by kernel_rfl) (by kernel_rfl) (by kernel_rfl)) ?_
  intro W base args ds gs before hval0 hW hcnd _
  have hval : ∀ (j : Nat) t v, Try.f4.params[j]? = some t → args[j]? = some v → Value.okWide Try.prog W .any base t v := hval0
  have hW' := hW
  obtain ⟨p, q, hA0, hV, rfl, hfz, hnd⟩ := hW
  have hA : DataW.TrodAll enc Try.prog W 0 (fun _ => true) true Try.f4.params.toList args.toList ds p := hA0
  have hA1 := hA
  rw [Try.params4] at hA hval hA1
  obtain ⟨v0, v1, v2, d0, d1, d2, p0, p1, p2, rfl, rfl, rfl, h0, h1, h2⟩ := trodAll_three hA
  obtain ⟨rfl, rfl⟩ := trodVars_none hV
  obtain ⟨u0, l0, α0, Λ0, m0, s0, _, r0, sl0, _, k0⟩ := Go.Ev.open_bytes (t := 32) (e := 5) Try.underlying32 Try.underlying5 (by kernel_rfl) (hval 0 32 v0 rfl rfl) h0 (Go.Ev.Sim.start Try.prog W) Go.Ev.WF.start
  obtain ⟨u1, l1, α1, Λ1, m1, s1, a1, r1, sl1, _, k1⟩ := Go.Ev.open_bytes (t := 32) (e := 5) Try.underlying32 Try.underlying5 (by kernel_rfl) (hval 1 32 v1 rfl rfl) h1 s0 k0.wf
  obtain ⟨u2, l2, α2, Λ2, m2, s2, a2, r2, sl2, _, k2⟩ := Go.Ev.open_bytes (t := 32) (e := 5) Try.underlying32 Try.underlying5 (by kernel_rfl) (hval 2 32 v2 rfl rfl) h2 s1 k1.wf
  have sl0' := (sl0.ext k1 k0.wf (Nat.le_refl _)).ext k2 k1.wf (Nat.le_refl _)
  have sl1' := sl1.ext k2 k1.wf (Nat.le_refl _)
  clear hA0 hval0
  simp only [List.append_nil] at hW'
  have hc := Go.Ev.law_calls (P := Try.prog) (F := Go.Ev.Root.F0) Go.Ev.Root.tryNames Go.Ev.Root.F0_ok (f := 4) (args := [u0, u1, u2]) (cargs := [v0, v1, v2]) Go.Ev.Root.Fs0.h4 s2 (.cons _ _ _ _ ((r0.mono a1).mono a2) (.cons _ _ _ _ (r1.mono a2) (.cons _ _ _ _ r2 .nil))) (Go.Ev.Root.back_ok Go.Ev.Root.Fs0 k2.wf sl0' sl1' sl2)
  refine hc.mono fun e W' ⟨he, hg⟩ => ?_
  subst he
  exact ⟨_, rfl, [d0, d1, d2], [], _, [], p0 ++ p1 ++ p2, [], hW', trodAll_cons_mk (shut_bool Try.underlying4 _) trodAll_mk0, Go.Ev.trodAll_kept laidOut hg (by decide +kernel) hA1, rfl, Go.Ev.kept_but hg _, fun h => by cases h⟩

theorem over : Rows.rootBackRow.holds Try.pinned (OpenSpec.ofChange Rows.rootBackSpec) :=
  OpenClaim.holds_of_wide 4 Try.f4 rfl rfl rfl rfl rfl rfl rfl ⟨rfl, rfl, rfl, rfl, rfl⟩ rfl rfl rfl rfl rfl (by kernel_rfl) Try.func4 (by kernel_rfl)
    (of_decide_eq_true (by kernel_rfl)) (by unfold Func.isWrapper; first | (rw [if_pos (by decide +kernel)]; kernel_rfl) | (rw [if_neg (by decide +kernel)]; exact ⟨rfl, rfl⟩))
    (fun os started H enc _ => lifted os started H enc)
end Go.Proofs.Ytilaoinonapokaa.rootBack
namespace Go.Proofs.Ytilaoinonapokaa
/-- the statement -/
theorem rootBack_holds : Rows.RootBackSaid := rootBack.over
#print axioms rootBack_holds
end Go.Proofs.Ytilaoinonapokaa
