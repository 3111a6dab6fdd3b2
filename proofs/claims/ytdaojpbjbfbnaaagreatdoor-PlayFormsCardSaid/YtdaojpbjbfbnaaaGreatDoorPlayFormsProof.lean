/- Proved: 'glacis/glacislaw26.PlayForms' returns true, whatever the world that it is called in; it has no arguments; no condition (the five listed variables of the library are not read on its way). The program's text is run by an evaluator (YtdaojpbjbfbnaaaGreatDoorEvA) that is proved to say of each run what the model says of it (YtdaojpbjbfbnaaaGreatDoorEvB to H); the run is cut into pieces (YtdaojpbjbfbnaaaGreatDoorPlayFormsT1 and on), the states between them are written out (YtdaojpbjbfbnaaaGreatDoorPlayFormsD0 and on); a few functions of the library go by contracts (YtdaojpbjbfbnaaaGreatDoorExt, YtdaojpbjbfbnaaaGreatDoorIns). -/
import Derived.Test.YtdaojpbjbfbnaaaGreatDoorRows
import Derived.Test.YtdaojpbjbfbnaaaGreatDoorPlayFormsK
import Derived.Test.YtdaojpbjbfbnaaaGreatDoorPlayFormsJ
import Derived.Test.YtdaojpbjbfbnaaaGreatDoorPlayFormsU
import Derived.Test.YtdaojpbjbfbnaaaGreatDoorExt
import Derived.Test.YtdaojpbjbfbnaaaGreatDoorIns
import Derived.WalkKit
import Derived.ProofKit
import Derived.OpenShut
import Derived.LaidMore
import Derived.Lay
import Derived.Stop.Joined
import Derived.SevenTiedAt
import Derived.Test.YtdaojpbjbfbnaaaGreatDoorTie
import Derived.Test.YtdaojpbjbfbnaaaGreatDoorCards
namespace Go.Proofs.YtdaojpbjbfbnaaaGreatDoor.playForms
open Go.ChangeShapes Go.WideShapes Go.ChangeAt Go.RowKit

theorem own : ownKnob Tryz.prog.godebug = none := by kernel_rfl

theorem names : Go.Ev.namesOk Tryz.prog = true := by kernel_rfl

theorem fits : Go.Ev.FOk Tryz.prog F :=
  Go.Ev.fnsOf_ok _ fun p hp => by
    simp only [List.mem_cons, List.not_mem_nil, or_false] at hp
    rcases hp with rfl | rfl | rfl | rfl | rfl | rfl | rfl
    · exact ⟨by kernel_rfl, Tryz.repOk⟩
    · exact ⟨by kernel_rfl, Tryz.insOk92⟩
    · exact ⟨by kernel_rfl, Tryz.insOk223⟩
    · exact ⟨by kernel_rfl, Tryz.cntOk⟩
    · exact ⟨by kernel_rfl, Tryz.idxOk⟩
    · exact ⟨by kernel_rfl, Tryz.joinOk⟩
    · exact ⟨by kernel_rfl, Tryz.crcOk⟩

theorem kept_but {w w' : World} (h : Go.Ev.Kept w w') (may : MemPlace → Prop) : w.keptBut w' may := by
  obtain ⟨_, h2, h3, h4⟩ := h
  refine ⟨h3, h4, fun i hi => ?_⟩
  rw [h2 i hi]
  split
  · rename_i h5 h6
    rw [h5] at h6; cases h6
    exact ⟨rfl, rfl, rfl, fun _ _ => rfl⟩
  · rename_i h5 h6
    rw [h5] at h6; cases h6
    exact .inr ⟨rfl, rfl⟩
  · rfl

theorem walk (w : World) : Calls Tryz.prog 3 #[] w fun e w' => e = .returned (.bool true) ∧ Go.Ev.Kept w w' :=
  (said names fits w).mono fun e w' h => by
    cases e with
    | returned v => exact ⟨by rw [h.1], h.2⟩
    | panicked c => exact h.elim
    | outgrown => exact h.elim

/-- what the row lists -/
def laid3 : List (String × DataW Unit) := [("math/bits.deBruijn32tab", Rows.laid_math_bits_deBruijn32tab), ("math/bits.deBruijn64tab", Rows.laid_math_bits_deBruijn64tab), ("internal/strconv.uint64pow10", Rows.laid_internal_strconv_uint64pow10), ("unicode/utf8.acceptRanges", Rows.laid_unicode_utf8_acceptRanges), ("unicode/utf8.first", Rows.laid_unicode_utf8_first)]

theorem door_met (os : Os) (args : Array Value) : laidMetH Tryz.prog laid3 ((World.laidAll Tryz.prog os laid3).forCall (fun _ _ => 0) ⟨#[], args, []⟩).memory := by
  have hfil : (laid3.filter fun x => x.2.handleName?.isNone) = laid3 := by kernel_rfl
  refine laidMetH_of_parts3 (fuel := 8) ?_ (by kernel_rfl) (by kernel_rfl)
  rw [hfil]
  exact laidMet_laidAll args (by kernel_rfl) (by kernel_rfl)

set_option maxRecDepth 100000 in
theorem lifted (os : Os) (started : os.Started) (H : Type) (enc : TypeId × Value → H) :
    ReturnsInHanded {} Tryz.checked os 3 .any (fun w args => (Rows.playFormsSpec.pre enc Tryz.prog Tryz.f3 [] false w args ∧ laidMetH Tryz.prog laid3 w) ∧ sizedMet enc Tryz.prog Tryz.f3 (OpenSpec.ofChange Rows.playFormsSpec) false w args)
      (Rows.playFormsSpec.post enc Tryz.prog Tryz.f3 false true false false) := by
  refine returnsInHanded_of_change_and (C := Tryz.checked) (X := fun w _ => laidMetH Tryz.prog laid3 w) (fun _ _ _ hh h => h.of_heap hh) own started (by kernel_rfl) Tryz.func3
    (ChangeSpec.witness_shaped (enc := enc) (C := Tryz.checked) (os := os) (X := fun w _ => laidMetH Tryz.prog laid3 w) false (World.laidAll Tryz.prog os laid3) #[] 8 (World.laidAll_os _ _ _) (World.shaped_of_ZipB (by kernel_rfl) (by kernel_rfl)) (by kernel_rfl) (by kernel_rfl) (by kernel_rfl) (door_met os _)) ?_
  intro W base args ds gs before hval0 hW _ _ _ _
  have hW' := hW
  obtain ⟨p, q, hA0, hV, rfl, hfz, hnd⟩ := hW
  have hA : DataW.TrodAll enc Tryz.prog W 0 (fun _ => true) true Tryz.f3.params.toList args.toList ds p := hA0
  rw [Tryz.params3] at hA
  obtain ⟨rfl, rfl, rfl⟩ := trodAll_none hA
  obtain ⟨rfl, rfl⟩ := trodVars_none hV
  clear hA0 hval0
  simp only [List.append_nil] at hW'
  refine (walk W).mono fun e W' ⟨he, hg⟩ => ?_
  subst he
  exact ⟨_, rfl, [], [], [], [], [], [], hW', trodAll_cons_mk (shut_bool Tryz.underlying4 _) trodAll_mk0, rfl, rfl, kept_but hg _, fun h => by cases h⟩

theorem over : Rows.playFormsRow.holds Tryz.pinned (OpenSpec.ofChange Rows.playFormsSpec) :=
  OpenClaim.holds_of_wide 3 Tryz.f3 rfl rfl rfl rfl rfl rfl rfl ⟨rfl, rfl, rfl, rfl, rfl⟩ rfl rfl rfl rfl rfl (by kernel_rfl) Tryz.func3 closed
    (of_decide_eq_true (by kernel_rfl)) (by unfold Func.isWrapper; first | (rw [if_pos (by decide +kernel)]; kernel_rfl) | (rw [if_neg (by decide +kernel)]; exact ⟨rfl, rfl⟩))
    (fun os started H enc _ => lifted os started H enc)

theorem card : Claim7.holds Tryz.pinned (.plain (OpenSpec.ofChange Rows.playFormsSpec)) Rows.playFormsCard :=
  Claim7.holds_tied_plain_at .later [] [.data, .data, .data, .data, .pinned] true Rows.playFormsCard.stood.harness true
    over (fun _ h => by cases h) wfT (fun _ h => by cases h) playForms_row_tie rfl ⟨rfl, rfl⟩ mainT rfl
    (fun f fn hf hfn => by
      obtain rfl : f = 3 := Option.some.inj (namedT.symm.trans hf) |>.symm
      obtain rfl : fn = Tryz.f3 := (Option.some.inj (Tryz.func3.symm.trans hfn)).symm
      exact ⟨looksT, fun j t ht => by
        rw [Tryz.params3] at ht
        simp at ht⟩)
    goesT
end Go.Proofs.YtdaojpbjbfbnaaaGreatDoor.playForms
namespace Go.Proofs.YtdaojpbjbfbnaaaGreatDoor
/-- the statement -/
theorem playForms_holds : Rows.PlayFormsCardSaid := playForms.card
#print axioms playForms_holds
end Go.Proofs.YtdaojpbjbfbnaaaGreatDoor
