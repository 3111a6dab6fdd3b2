/- Proved: 'glacis/glacislaw17.VolForms' returns true, whatever the world that it is called in; it has no arguments; no condition. The program's text is run by an evaluator (YtdnnaeplhchmoaaGreatEvA) that is proved to say of each run what the model says of it (YtdnnaeplhchmoaaGreatEvB to H); the run is cut into pieces (YtdnnaeplhchmoaaGreatVolFormsT1 and on), the states between them are written out (YtdnnaeplhchmoaaGreatVolFormsD0 and on); a few functions of the library go by contracts (YtdnnaeplhchmoaaGreatExt, YtdnnaeplhchmoaaGreatIns). -/
import Derived.Test.YtdnnaeplhchmoaaGreatRows
import Derived.Test.YtdnnaeplhchmoaaGreatVolFormsU
import Derived.Test.YtdnnaeplhchmoaaGreatExt
import Derived.Test.YtdnnaeplhchmoaaGreatIns
import Derived.WalkKit
import Derived.ProofKit
import Derived.OpenShut
namespace Go.Proofs.YtdnnaeplhchmoaaGreat.volForms
open Go.ChangeShapes Go.WideShapes Go.ChangeAt Go.RowKit

theorem own : ownKnob Tryz.prog.godebug = none := by kernel_rfl

theorem names : Go.Ev.namesOk Tryz.prog = true := by kernel_rfl

theorem fits : Go.Ev.FOk Tryz.prog F :=
  Go.Ev.fnsOf_ok _ fun p hp => by
    simp only [List.mem_cons, List.not_mem_nil, or_false] at hp
    rcases hp with rfl | rfl
    · exact ⟨by kernel_rfl, Tryz.repOk⟩
    · exact ⟨by kernel_rfl, Tryz.insOk24⟩

theorem kept_but {w w' : World} (h : Go.Ev.Kept w w') (may : MemPlace → Prop) : w.keptBut w' may := by
  obtain ⟨_, h2, h3, h4⟩ := h
  refine ⟨h3, h4, fun i hi => ?_⟩
  rw [h2 i hi]
  split
  · rename_i h5 h6
    rw [h5] at h6; cases h6
    exact ⟨rfl, rfl, rfl, fun _ _ => rfl⟩
  · rename_i h5 h6
    rw [h5] at h6; cases h6
    exact .inr ⟨rfl, rfl⟩
  · rfl

theorem walk (w : World) : Calls Tryz.prog 3 #[] w fun e w' => e = .returned (.bool true) ∧ Go.Ev.Kept w w' :=
  (said names fits w).mono fun e w' h => by
    cases e with
    | returned v => exact ⟨by rw [h.1], h.2⟩
    | panicked c => exact h.elim
    | outgrown => exact h.elim

set_option maxRecDepth 100000 in
theorem lifted (os : Os) (started : os.Started) (H : Type) (enc : TypeId × Value → H) :
    ReturnsInHanded {} Tryz.checked os 3 .any (Rows.volFormsSpec.pre6 enc Tryz.prog Tryz.f3 Rows.volFormsRow.domain false) (Rows.volFormsSpec.post enc Tryz.prog Tryz.f3 false true false false) := by
  refine returnsInHanded_of_change (C := Tryz.checked) own started (by kernel_rfl) Tryz.func3
    (ChangeSpec.witness6 (enc := enc) (C := Tryz.checked) false ⟨#[], #[], []⟩ 8 (by kernel_rfl) (by kernel_rfl) (by kernel_rfl) (by kernel_rfl)) ?_
  intro W base args ds gs before hval0 hW hcnd _
  have hW' := hW
  obtain ⟨p, q, hA0, hV, rfl, hfz, hnd⟩ := hW
  have hA : DataW.TrodAll enc Tryz.prog W 0 (fun _ => true) true Tryz.f3.params.toList args.toList ds p := hA0
  rw [Tryz.params3] at hA
  obtain ⟨rfl, rfl, rfl⟩ := trodAll_none hA
  obtain ⟨rfl, rfl⟩ := trodVars_none hV
  clear hA0 hval0
  simp only [List.append_nil] at hW'
  refine (walk W).mono fun e W' ⟨he, hg⟩ => ?_
  subst he
  exact ⟨_, rfl, [], [], [], [], [], [], hW', trodAll_cons_mk (shut_bool Tryz.underlying4 _) trodAll_mk0, rfl, rfl, kept_but hg _, fun h => by cases h⟩

theorem over : Rows.volFormsRow.holds Tryz.pinned (OpenSpec.ofChange Rows.volFormsSpec) :=
  OpenClaim.holds_of_wide 3 Tryz.f3 rfl rfl rfl rfl rfl rfl rfl ⟨rfl, rfl, rfl, rfl, rfl⟩ rfl rfl rfl rfl rfl (by kernel_rfl) Tryz.func3 (by kernel_rfl)
    (of_decide_eq_true (by kernel_rfl)) (by unfold Func.isWrapper; first | (rw [if_pos (by decide +kernel)]; kernel_rfl) | (rw [if_neg (by decide +kernel)]; exact ⟨rfl, rfl⟩))
    (fun os started H enc _ => lifted os started H enc)
end Go.Proofs.YtdnnaeplhchmoaaGreat.volForms
namespace Go.Proofs.YtdnnaeplhchmoaaGreat
/-- the statement -/
theorem volForms_holds : Rows.VolFormsSaid := volForms.over
#print axioms volForms_holds
end Go.Proofs.YtdnnaeplhchmoaaGreat
