/- Proved: 'glacislaw12.RootForms' returns true, whatever the world that it is called in; it has no arguments; no condition. The program's text is run by an evaluator (YtilaoinonapokaaEvA) that is proved to say of each run what the model says of it (YtilaoinonapokaaEvB to G). -/
import Derived.Test.YtilaoinonapokaaRows
import Derived.Test.YtilaoinonapokaaEvG
import Derived.WalkKit
import Derived.ProofKit
import Derived.OpenShut
namespace Go.Proofs.Ytilaoinonapokaa.rootForms
open Go.ChangeShapes Go.WideShapes Go.ChangeAt Go.RowKit

theorem own : ownKnob Try.prog.godebug = none := by kernel_rfl

theorem names : Go.Ev.namesOk Try.prog = true := by kernel_rfl

theorem ran : Go.Ev.isTrue (Go.Ev.runFn Try.prog 30000 3 []) = true := by kernel_rfl

theorem kept_but {w w' : World} (h : Go.Ev.Kept w w') (may : MemPlace → Prop) : w.keptBut w' may := by
  obtain ⟨_, h2, h3, h4⟩ := h
  refine ⟨h3, h4, fun i hi => ?_⟩
  rw [h2 i hi]
  split
  · rename_i h5 h6
    rw [h5] at h6; cases h6
    exact ⟨rfl, rfl, rfl, fun _ _ => rfl⟩
  · rename_i h5 h6
    rw [h5] at h6; cases h6
    exact .inr ⟨rfl, rfl⟩
  · rfl

theorem walk (w : World) : Calls Try.prog 3 #[] w fun e w' => e = .returned (.bool true) ∧ Go.Ev.Kept w w' :=
  (Go.Ev.says_true names ran w).mono fun e w' h => by
    cases e with
    | returned v => exact ⟨by rw [h.1], h.2⟩
    | panicked c => exact h.elim
    | outgrown => exact h.elim

set_option maxRecDepth 100000 in
theorem lifted (os : Os) (started : os.Started) (H : Type) (enc : TypeId × Value → H) :
    ReturnsInHanded {} Try.checked os 3 .any (Rows.rootFormsSpec.pre6 enc Try.prog Try.f3 Rows.rootFormsRow.domain false) (Rows.rootFormsSpec.post enc Try.prog Try.f3 false true false false) := by
  refine returnsInHanded_of_change (C := Try.checked) own started (by kernel_rfl) Try.func3
    (ChangeSpec.witness6 (enc := enc) (C := Try.checked) false ⟨#[], #[], []⟩ 8 (by kernel_rfl) (by kernel_rfl) (by kernel_rfl) (by kernel_rfl)) ?_
  intro W base args ds gs before hval0 hW hcnd _
  have hW' := hW
  obtain ⟨p, q, hA0, hV, rfl, hfz, hnd⟩ := hW
  have hA : DataW.TrodAll enc Try.prog W 0 (fun _ => true) true Try.f3.params.toList args.toList ds p := hA0
  rw [Try.params3] at hA
  obtain ⟨rfl, rfl, rfl⟩ := trodAll_none hA
  obtain ⟨rfl, rfl⟩ := trodVars_none hV
  clear hA0 hval0
  simp only [List.append_nil] at hW'
  refine (walk W).mono fun e W' ⟨he, hg⟩ => ?_
  subst he
  exact ⟨_, rfl, [], [], [], [], [], [], hW', trodAll_cons_mk (shut_bool Try.underlying4 _) trodAll_mk0, rfl, rfl, kept_but hg _, fun h => by cases h⟩

theorem over : Rows.rootFormsRow.holds Try.pinned (OpenSpec.ofChange Rows.rootFormsSpec) :=
  OpenClaim.holds_of_wide 3 Try.f3 rfl rfl rfl rfl rfl rfl rfl ⟨rfl, rfl, rfl, rfl, rfl⟩ rfl rfl rfl rfl rfl (by kernel_rfl) Try.func3 (by kernel_rfl)
    (of_decide_eq_true (by kernel_rfl)) (by unfold Func.isWrapper; first | (rw [if_pos (by decide +kernel)]; kernel_rfl) | (rw [if_neg (by decide +kernel)]; exact ⟨rfl, rfl⟩))
    (fun os started H enc _ => lifted os started H enc)
end Go.Proofs.Ytilaoinonapokaa.rootForms
namespace Go.Proofs.Ytilaoinonapokaa
/-- the statement -/
theorem rootForms_holds : Rows.RootFormsSaid := rootForms.over
#print axioms rootForms_holds
end Go.Proofs.Ytilaoinonapokaa
