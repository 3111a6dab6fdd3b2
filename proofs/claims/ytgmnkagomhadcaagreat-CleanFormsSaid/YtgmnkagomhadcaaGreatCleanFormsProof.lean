/- Proved: 'glacislaw19.CleanForms' returns true, whatever the world that it is called in; it has no arguments; no condition. The program's text is run by an evaluator (YtgmnkagomhadcaaGreatEvA) that is proved to say of each run what the model says of it (YtgmnkagomhadcaaGreatEvB to H); the run is cut into pieces (YtgmnkagomhadcaaGreatCleanFormsT1 and on), the states between them are written out (YtgmnkagomhadcaaGreatCleanFormsD0 and on); strings.Repeat goes by the library's contract. -/
import Derived.Test.YtgmnkagomhadcaaGreatRows
import Derived.Test.YtgmnkagomhadcaaGreatCleanFormsU
import Derived.Test.YtgmnkagomhadcaaGreatShelf
import Derived.WalkKit
import Derived.ProofKit
import Derived.OpenShut
namespace Go.Proofs.YtgmnkagomhadcaaGreat.cleanForms
open Go.ChangeShapes Go.WideShapes Go.ChangeAt Go.RowKit

theorem own : ownKnob Tryz.prog.godebug = none := by kernel_rfl

theorem names : Go.Ev.namesOk Tryz.prog = true := by kernel_rfl

theorem hasRep : Go.Ev.hasFn Tryz.prog 94 = true := by kernel_rfl

theorem fits : Go.Ev.FOk Tryz.prog F :=
  Go.Ev.fnsOf_ok _ fun p hp => by
    rcases List.mem_singleton.1 hp with rfl
    exact ⟨hasRep, Go.Ev.rep_ok Tryz.repeats⟩

theorem kept_but {w w' : World} (h : Go.Ev.Kept w w') (may : MemPlace → Prop) : w.keptBut w' may := by
  obtain ⟨_, h2, h3, h4⟩ := h
  refine ⟨h3, h4, fun i hi => ?_⟩
  rw [h2 i hi]
  split
  · rename_i h5 h6
    rw [h5] at h6; cases h6
    exact ⟨rfl, rfl, rfl, fun _ _ => rfl⟩
  · rename_i h5 h6
    rw [h5] at h6; cases h6
    exact .inr ⟨rfl, rfl⟩
  · rfl

theorem walk (w : World) : Calls Tryz.prog 4 #[] w fun e w' => e = .returned (.bool true) ∧ Go.Ev.Kept w w' :=
  (said names fits w).mono fun e w' h => by
    cases e with
    | returned v => exact ⟨by rw [h.1], h.2⟩
    | panicked c => exact h.elim
    | outgrown => exact h.elim

set_option maxRecDepth 100000 in
theorem lifted (os : Os) (started : os.Started) (H : Type) (enc : TypeId × Value → H) :
    ReturnsInHanded {} Tryz.checked os 4 .any (Rows.cleanFormsSpec.pre6 enc Tryz.prog Tryz.f4 Rows.cleanFormsRow.domain false) (Rows.cleanFormsSpec.post enc Tryz.prog Tryz.f4 false true false false) := by
  refine returnsInHanded_of_change (C := Tryz.checked) own started (by kernel_rfl) Tryz.func4
    (ChangeSpec.witness6 (enc := enc) (C := Tryz.checked) false ⟨#[], #[], []⟩ 8 (by kernel_rfl) (by kernel_rfl) (by kernel_rfl) (by kernel_rfl)) ?_
  intro W base args ds gs before hval0 hW hcnd _
  have hW' := hW
  obtain ⟨p, q, hA0, hV, rfl, hfz, hnd⟩ := hW
  have hA : DataW.TrodAll enc Tryz.prog W 0 (fun _ => true) true Tryz.f4.params.toList args.toList ds p := hA0
  rw [Tryz.params4] at hA
  obtain ⟨rfl, rfl, rfl⟩ := trodAll_none hA
  obtain ⟨rfl, rfl⟩ := trodVars_none hV
  clear hA0 hval0
  simp only [List.append_nil] at hW'
  refine (walk W).mono fun e W' ⟨he, hg⟩ => ?_
  subst he
  exact ⟨_, rfl, [], [], [], [], [], [], hW', trodAll_cons_mk (shut_bool Tryz.underlying4 _) trodAll_mk0, rfl, rfl, kept_but hg _, fun h => by cases h⟩

theorem over : Rows.cleanFormsRow.holds Tryz.pinned (OpenSpec.ofChange Rows.cleanFormsSpec) :=
  OpenClaim.holds_of_wide 4 Tryz.f4 rfl rfl rfl rfl rfl rfl rfl ⟨rfl, rfl, rfl, rfl, rfl⟩ rfl rfl rfl rfl rfl (by kernel_rfl) Tryz.func4 (by kernel_rfl)
    (of_decide_eq_true (by kernel_rfl)) (by unfold Func.isWrapper; first | (rw [if_pos (by decide +kernel)]; kernel_rfl) | (rw [if_neg (by decide +kernel)]; exact ⟨rfl, rfl⟩))
    (fun os started H enc _ => lifted os started H enc)
end Go.Proofs.YtgmnkagomhadcaaGreat.cleanForms
namespace Go.Proofs.YtgmnkagomhadcaaGreat
/-- the statement -/
theorem cleanForms_holds : Rows.CleanFormsSaid := cleanForms.over
#print axioms cleanForms_holds
end Go.Proofs.YtgmnkagomhadcaaGreat
