/- Proved: 'glacislaw15.SegOnce' returns true for every block (a number of 16 bits), whatever the world that it is called in; no condition (the three listed variables of the library are not read on its way). What the law asks first ('begun') is run by an evaluator (YtakgijpeilafpaaGreatDoorEvA) that is proved to say of each run what the model says of it (YtakgijpeilafpaaGreatDoorEvB to H), in pieces (YtakgijpeilafpaaGreatDoorSegBegunT1 and on); the rest is walked. -/
import Derived.Test.YtakgijpeilafpaaGreatDoorRows
import Derived.Test.YtakgijpeilafpaaGreatDoorSegBegunU
import Derived.Test.YtakgijpeilafpaaGreatDoorShelf
import Derived.WalkKit
import Derived.ProofKit
import Derived.OpenShut
import Derived.LaidMore
import Derived.Stop.Joined
import Derived.SevenTiedAt
import Derived.Test.YtakgijpeilafpaaGreatDoorTie
import Derived.Test.YtakgijpeilafpaaGreatDoorCards
namespace Go.Proofs.YtakgijpeilafpaaGreatDoor.segOnce
open Go.ChangeShapes Go.WideShapes Go.ChangeAt Go.RowKit

theorem own : ownKnob Tryz.prog.godebug = none := by kernel_rfl

theorem names : Go.Ev.namesOk Tryz.prog = true := by kernel_rfl

theorem hasRep : Go.Ev.hasFn Tryz.prog 180 = true := by kernel_rfl

theorem fits : Go.Ev.FOk Tryz.prog segBegun.F :=
  Go.Ev.fnsOf_ok _ fun p hp => by
    rcases List.mem_singleton.1 hp with rfl
    exact ⟨hasRep, Go.Ev.rep_ok Tryz.repeats⟩

theorem kept_but {w w' : World} (h : Go.Ev.Kept w w') (may : MemPlace → Prop) : w.keptBut w' may := by
  obtain ⟨_, h2, h3, h4⟩ := h
  refine ⟨h3, h4, fun i hi => ?_⟩
  rw [h2 i hi]
  split
  · rename_i h5 h6
    rw [h5] at h6; cases h6
    exact ⟨rfl, rfl, rfl, fun _ _ => rfl⟩
  · rename_i h5 h6
    rw [h5] at h6; cases h6
    exact .inr ⟨rfl, rfl⟩
  · rfl

theorem begun_calls (w : World) : Calls Tryz.prog 12 #[] w fun e w' => e = .returned (.bool true) ∧ Go.Ev.Kept w w' :=
  (segBegun.said names fits w).mono fun e w' h => by
    cases e with
    | returned v => exact ⟨by rw [h.1], h.2⟩
    | panicked c => exact h.elim
    | outgrown => exact h.elim

theorem w64 {x : Int} (h0 : -100000 ≤ x) (h1 : x ≤ 100000) : wrap64 x = x := by unfold wrap64; omega
theorem of_low (x : Int) (h : x < 2) (w : World) : Calls Tryz.prog 13 #[.int .i64 x] w fun e w' => e = .returned (.int .i64 (-1)) ∧ w' = w := by
  go_enter Tryz.func13, Tryz.ntmps13
  go_wp2
  go_ret
  exact ⟨rfl, rfl⟩
theorem of_high (x s : Int) (h : 2 ≤ x) (h1 : x ≤ 70000) (hs : (x - 2) / 64 = s) (w : World) : Calls Tryz.prog 13 #[.int .i64 x] w fun e w' => e = .returned (.int .i64 s) ∧ w' = w := by
  go_enter Tryz.func13, Tryz.ntmps13
  go_wp2
  go_ret
  refine ⟨?_, rfl⟩
  show Ending.returned (Value.int .i64 ((x - 2) / 64)) = _
  rw [hs]
theorem first_neg (s : Int) (h : s < 0) (w : World) : Calls Tryz.prog 14 #[.int .i64 s] w fun e w' => e = .returned (.int .i64 (-1)) ∧ w' = w := by
  go_enter Tryz.func14, Tryz.ntmps14
  go_wp2
  go_ret
  exact ⟨rfl, rfl⟩
theorem first_pos (s : Int) (h : 0 ≤ s) (h1 : s ≤ 1030) (w : World) : Calls Tryz.prog 14 #[.int .i64 s] w fun e w' => e = .returned (.int .i64 (2 + s * 64)) ∧ w' = w := by
  go_enter Tryz.func14, Tryz.ntmps14
  go_wp2
  go_ret
  exact ⟨rfl, rfl⟩
theorem walk_low (a : Int) (h0 : 0 ≤ a) (h1 : a < 2) (w : World) : Calls Tryz.prog 4 #[.int .u16 a] w fun e w' => e = .returned (.bool true) ∧ Go.Ev.Kept w w' := by
  go_enter Tryz.func4, Tryz.ntmps4
  go_wp2_with (first | (go_at_call 12; refine (begun_calls _).mono ?_; rintro e w' ⟨rfl, hw⟩) | (go_at_call 13; refine (of_low _ (by omega) _).mono ?_; rintro e w' ⟨rfl, rfl⟩))
  go_ret
  exact ⟨rfl, hw⟩
theorem walk_high (a s : Int) (h0 : 2 ≤ a) (h1 : a ≤ 65535) (hs : (a - 2) / 64 = s) (w : World) : Calls Tryz.prog 4 #[.int .u16 a] w fun e w' => e = .returned (.bool true) ∧ Go.Ev.Kept w w' := by
  have hs0 : 0 ≤ s := by omega
  have hs1 : s ≤ 1023 := by omega
  have hn : wrap64 (s + 1) = s + 1 := w64 (by omega) (by omega)
  go_enter Tryz.func4, Tryz.ntmps4
  go_wp2_with (first | (go_at_call 12; refine (begun_calls _).mono ?_; rintro e w' ⟨rfl, hw⟩) | (go_at_call 13; (first | (refine (of_low _ (by omega) _).mono ?_) | (refine (of_high _ s (by omega) (by omega) (by omega) _).mono ?_)); rintro e w' ⟨rfl, rfl⟩) | (go_at_call 14; (first | (refine (first_pos _ (by omega) (by omega) _).mono ?_) | (refine (first_neg _ (by omega) _).mono ?_)); rintro e w' ⟨rfl, rfl⟩))
  go_ret
  exact ⟨rfl, hw⟩
theorem walk (a : Int) (h0 : 0 ≤ a) (h1 : a ≤ 65535) (w : World) : Calls Tryz.prog 4 #[.int .u16 a] w fun e w' => e = .returned (.bool true) ∧ Go.Ev.Kept w w' := by
  rcases Int.lt_or_le a 2 with h | h
  · exact walk_low a h0 h w
  · exact walk_high a _ h h1 rfl w

/-- what the row lists -/
def laid3 {H : Type} : List (String × DataW H) := [("math/bits.deBruijn32tab", Rows.laid_math_bits_deBruijn32tab), ("math/bits.deBruijn64tab", Rows.laid_math_bits_deBruijn64tab), ("internal/strconv.uint64pow10", Rows.laid_internal_strconv_uint64pow10)]

theorem door_met (os : Os) (args : Array Value) : laidMetH Tryz.prog laid3 ((World.doorLaid Tryz.prog 24 os).forCall (fun _ _ => 0) ⟨#[], args, []⟩).memory :=
  laidMetH_of_parts3 (fuel := 8) (laidMet_of_run' 8 (by kernel_rfl) (by kernel_rfl)) (by kernel_rfl) (by kernel_rfl)

set_option maxRecDepth 100000 in
theorem lifted (os : Os) (started : os.Started) (H : Type) (enc : TypeId × Value → H) :
    ReturnsInHanded {} Tryz.checked os 4 .any (fun w args => (Rows.segOnceSpec.pre enc Tryz.prog Tryz.f4 [] false w args ∧ laidMetH Tryz.prog laid3 w) ∧ sizedMet enc Tryz.prog Tryz.f4 (OpenSpec.ofChange Rows.segOnceSpec) false w args)
      (Rows.segOnceSpec.post enc Tryz.prog Tryz.f4 false true false false) := by
  refine returnsInHanded_of_change_and (C := Tryz.checked) (X := fun w _ => laidMetH Tryz.prog laid3 w) (fun _ _ _ hh h => h.of_heap hh) own started (by kernel_rfl) Tryz.func4
    (ChangeSpec.witness_shaped (enc := enc) (C := Tryz.checked) (os := os) (X := fun w _ => laidMetH Tryz.prog laid3 w) false (World.doorLaid Tryz.prog 24 os) #[.int .u16 0] 8 rfl (World.shaped_of_RefB (by kernel_rfl) (by kernel_rfl)) (by kernel_rfl) (by kernel_rfl) (by kernel_rfl) (door_met os _)) ?_
  intro W base args ds gs before hval0 hW _ _ _ _
  have hval : ∀ (j : Nat) t v, Tryz.f4.params[j]? = some t → args[j]? = some v → Value.okWide Tryz.prog W .any base t v := hval0
  have hW' := hW
  obtain ⟨p, q, hA0, hV, rfl, hfz, hnd⟩ := hW
  have hA : DataW.TrodAll enc Tryz.prog W 0 (fun _ => true) true Tryz.f4.params.toList args.toList ds p := hA0
  rw [Tryz.params4] at hA hval
  obtain ⟨v0, vs0, d0, ds0, p0, q0, hargs, rfl, rfl, h0, r0⟩ := trodAll_cons hA
  obtain ⟨rfl, rfl, rfl⟩ := trodAll_nil r0
  obtain rfl : args = #[v0] := by cases args; simp_all
  obtain ⟨rfl, rfl⟩ := trodVars_none hV
  obtain ⟨a0, rfl, rfl, rfl, w0⟩ := open_int Tryz.underlying52 (hval 0 52 v0 rfl rfl) h0
  clear hA0 hval0
  simp only [List.append_nil] at hW'
  have wb : 0 ≤ a0 ∧ a0 ≤ 65535 := by
    have w1 : (decide (IntKind.min .u16 ≤ a0) && decide (a0 ≤ IntKind.max .u16)) = true := w0
    simp only [Bool.and_eq_true, decide_eq_true_eq] at w1
    exact w1
  refine (walk a0 wb.1 wb.2 W).mono fun e W' ⟨he, hg⟩ => ?_
  subst he
  exact ⟨_, rfl, _, [], [], [], [], [], hW', trodAll_cons_mk (shut_bool Tryz.underlying4 _) trodAll_mk0, trodAll_cons_mk (shut_int Tryz.underlying52 w0) trodAll_mk0, rfl, kept_but hg _, fun h => by cases h⟩

theorem over : Rows.segOnceRow.holds Tryz.pinned (OpenSpec.ofChange Rows.segOnceSpec) :=
  OpenClaim.holds_of_wide 4 Tryz.f4 rfl rfl rfl rfl rfl rfl rfl ⟨rfl, rfl, rfl, rfl, rfl⟩ rfl rfl rfl rfl rfl (by kernel_rfl) Tryz.func4 (by kernel_rfl)
    (of_decide_eq_true (by kernel_rfl)) (by unfold Func.isWrapper; first | (rw [if_pos (by decide +kernel)]; kernel_rfl) | (rw [if_neg (by decide +kernel)]; exact ⟨rfl, rfl⟩))
    (fun os started H enc _ => lifted os started H enc)

theorem card : Claim7.holds Tryz.pinned (.plain (OpenSpec.ofChange Rows.segOnceSpec)) Rows.segOnceCard :=
  Claim7.holds_tied_plain_at .later [] [.data, .data, .data] true Rows.segOnceCard.stood.harness true
    over (fun _ h => by cases h) (by kernel_rfl) (fun _ h => by cases h) segOnce_row_tie rfl ⟨rfl, rfl⟩ (by kernel_rfl) rfl
    (fun f fn hf hfn => by
      obtain rfl : f = 4 := Option.some.inj ((show Tryz.prog.funcNamed "glacis/glacislaw15.SegOnce" = some 4 by kernel_rfl).symm.trans hf) |>.symm
      obtain rfl : fn = Tryz.f4 := (Option.some.inj (Tryz.func4.symm.trans hfn)).symm
      exact ⟨by kernel_rfl, fun j t ht => by
        rw [Tryz.params4] at ht
        have hm : t ∈ [52] := by simpa using Array.mem_of_getElem? ht
        have hall : ([52].all fun u => !Tryz.prog.wantsStandIn u) = true := by kernel_rfl
        exact (show Tryz.prog.wantsStandIn t = false by simpa using List.all_eq_true.1 hall t hm)⟩)
    (by kernel_rfl)
end Go.Proofs.YtakgijpeilafpaaGreatDoor.segOnce
namespace Go.Proofs.YtakgijpeilafpaaGreatDoor
/-- the statement -/
theorem segOnce_holds : Rows.SegOnceCardSaid := segOnce.card
#print axioms segOnce_holds
end Go.Proofs.YtakgijpeilafpaaGreatDoor
