/- RootBack: what the functions do, said for all arguments -/
import Derived.Test.YtilaoinonapokaaWE
import Derived.Test.YtilaoinonapokaaProg
namespace Go.Ev.Root
open Go Go.Proofs Go.Ev
theorem tryNames : namesOk Try.prog = true := by kernel_rfl
theorem begunRun : isTrue (runFn Try.prog 40000 5 []) = true := by kernel_rfl
theorem begun_calls (w : World) : Calls Try.prog 5 #[] w fun e w' => e = .returned (.bool true) ∧ Kept w w' :=
  (calls_true (plan_ok Try.prog) (namesOk_ok tryNames) begunRun w).mono fun e w' h => by
    cases e with
    | returned v => exact ⟨by rw [h.1], h.2⟩
    | panicked c => exact h.elim
    | outgrown => exact h.elim
theorem begunOk : IntrOk Try.prog 5 yesI := yes_ok begun_calls
end Go.Ev.Root

namespace Go.Ev.Root
open Go Go.Proofs Go.Ev
theorem cf4 : cFn Try.prog 4 = some ⟨b4, 248, [(pa 6, none)]⟩ := by kernel_rfl
theorem cf6 : cFn Try.prog 6 = some ⟨b6, 28, [(pa 4, some (some 3))]⟩ := by kernel_rfl
theorem cf7 : cFn Try.prog 7 = some ⟨b7, 39, [(pa 6, some (some 3))]⟩ := by kernel_rfl
theorem cf8 : cFn Try.prog 8 = some ⟨b8, 30, [(pa 8, some (some 3))]⟩ := by kernel_rfl
theorem cf9 : cFn Try.prog 9 = some ⟨b9, 62, [(pa 6, none)]⟩ := by kernel_rfl
theorem cf10 : cFn Try.prog 10 = some ⟨b10, 35, [(pa 2, none)]⟩ := by kernel_rfl
theorem cf11 : cFn Try.prog 11 = some ⟨b11, 6, [(pa 2, none)]⟩ := by kernel_rfl
theorem cf12 : cFn Try.prog 12 = some ⟨b12, 26, [(pa 4, none)]⟩ := by kernel_rfl
theorem cf13 : cFn Try.prog 13 = some ⟨b13, 17, [(pa 2, some (some 5))]⟩ := by kernel_rfl
theorem cf14 : cFn Try.prog 14 = some ⟨b14, 63, [(pa 2, none), (pa 3, none), (pa 4, none)]⟩ := by kernel_rfl
theorem cf15 : cFn Try.prog 15 = some ⟨b15, 44, [(pa 2, some (some 3)), (pa 3, none)]⟩ := by kernel_rfl
theorem cf16 : cFn Try.prog 16 = some ⟨b16, 55, [(pa 2, some (some 5)), (pa 3, none), (pa 4, none)]⟩ := by kernel_rfl
theorem cf17 : cFn Try.prog 17 = some ⟨b17, 40, [(pa 2, none), (pa 3, none), (pa 4, none), (pa 5, none)]⟩ := by kernel_rfl
theorem cf18 : cFn Try.prog 18 = some ⟨b18, 26, [(pa 4, none)]⟩ := by kernel_rfl
theorem cf19 : cFn Try.prog 19 = some ⟨b19, 14, [(pa 4, none)]⟩ := by kernel_rfl
theorem cf20 : cFn Try.prog 20 = some ⟨b20, 35, []⟩ := by kernel_rfl
theorem cf21 : cFn Try.prog 21 = some ⟨b21, 21, [(pa 2, some (some 3))]⟩ := by kernel_rfl
theorem cf22 : cFn Try.prog 22 = some ⟨b22, 24, [(pa 6, none)]⟩ := by kernel_rfl
theorem cf23 : cFn Try.prog 23 = some ⟨b23, 23, []⟩ := by kernel_rfl
theorem cf24 : cFn Try.prog 24 = some ⟨b24, 40, [(pa 4, none)]⟩ := by kernel_rfl
theorem cf25 : cFn Try.prog 25 = some ⟨b25, 41, [(pa 4, none)]⟩ := by kernel_rfl
theorem cf26 : cFn Try.prog 26 = some ⟨b26, 10, [(pa 2, some (some 2))]⟩ := by kernel_rfl
theorem cf27 : cFn Try.prog 27 = some ⟨b27, 26, [(pa 4, none)]⟩ := by kernel_rfl
theorem cf28 : cFn Try.prog 28 = some ⟨b28, 24, [(pa 2, none)]⟩ := by kernel_rfl
theorem cf29 : cFn Try.prog 29 = some ⟨b29, 40, [(pa 6, none)]⟩ := by kernel_rfl
theorem cf30 : cFn Try.prog 30 = some ⟨b30, 39, [(pa 4, none), (pa 5, none)]⟩ := by kernel_rfl
theorem cf31 : cFn Try.prog 31 = some ⟨b31, 8, [(pa 2, none)]⟩ := by kernel_rfl
noncomputable def F0 : Nat → Option FnI := fnsOf Try.prog [(5, yesI)]
theorem F0_ok : FOk Try.prog F0 := fnsOf_ok _ fun p hp => by
  simp only [List.mem_cons, List.not_mem_nil, or_false] at hp
  subst hp
  exact ⟨by kernel_rfl, begunOk⟩
theorem Fs0 : Fs F0 where
  h4 := by show (cFn Try.prog 4).map FnI.code = _; rw [cf4]; rfl
  h6 := by show (cFn Try.prog 6).map FnI.code = _; rw [cf6]; rfl
  h7 := by show (cFn Try.prog 7).map FnI.code = _; rw [cf7]; rfl
  h8 := by show (cFn Try.prog 8).map FnI.code = _; rw [cf8]; rfl
  h9 := by show (cFn Try.prog 9).map FnI.code = _; rw [cf9]; rfl
  h10 := by show (cFn Try.prog 10).map FnI.code = _; rw [cf10]; rfl
  h11 := by show (cFn Try.prog 11).map FnI.code = _; rw [cf11]; rfl
  h12 := by show (cFn Try.prog 12).map FnI.code = _; rw [cf12]; rfl
  h13 := by show (cFn Try.prog 13).map FnI.code = _; rw [cf13]; rfl
  h14 := by show (cFn Try.prog 14).map FnI.code = _; rw [cf14]; rfl
  h15 := by show (cFn Try.prog 15).map FnI.code = _; rw [cf15]; rfl
  h16 := by show (cFn Try.prog 16).map FnI.code = _; rw [cf16]; rfl
  h17 := by show (cFn Try.prog 17).map FnI.code = _; rw [cf17]; rfl
  h18 := by show (cFn Try.prog 18).map FnI.code = _; rw [cf18]; rfl
  h19 := by show (cFn Try.prog 19).map FnI.code = _; rw [cf19]; rfl
  h20 := by show (cFn Try.prog 20).map FnI.code = _; rw [cf20]; rfl
  h21 := by show (cFn Try.prog 21).map FnI.code = _; rw [cf21]; rfl
  h22 := by show (cFn Try.prog 22).map FnI.code = _; rw [cf22]; rfl
  h23 := by show (cFn Try.prog 23).map FnI.code = _; rw [cf23]; rfl
  h24 := by show (cFn Try.prog 24).map FnI.code = _; rw [cf24]; rfl
  h25 := by show (cFn Try.prog 25).map FnI.code = _; rw [cf25]; rfl
  h26 := by show (cFn Try.prog 26).map FnI.code = _; rw [cf26]; rfl
  h27 := by show (cFn Try.prog 27).map FnI.code = _; rw [cf27]; rfl
  h28 := by show (cFn Try.prog 28).map FnI.code = _; rw [cf28]; rfl
  h29 := by show (cFn Try.prog 29).map FnI.code = _; rw [cf29]; rfl
  h30 := by show (cFn Try.prog 30).map FnI.code = _; rw [cf30]; rfl
  h31 := by show (cFn Try.prog 31).map FnI.code = _; rw [cf31]; rfl
  h5 := rfl
end Go.Ev.Root
