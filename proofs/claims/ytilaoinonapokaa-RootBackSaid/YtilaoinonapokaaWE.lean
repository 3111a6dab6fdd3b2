/- RootBack: what the functions do, said for all arguments -/
import Derived.Test.YtilaoinonapokaaWD
namespace Go.Ev.Root
open Go.Ev
/-! the plain law: what is put is read back -/
theorem un_le : ∀ (n x : Nat), un (le n x) = x % 256 ^ n
  | 0, x => by simp [le, un, Nat.mod_one]
  | n + 1, x => by
    rw [le, un, un_le n (x / 256), UInt8.toNat_ofNat']
    have h1 : x % 256 % 2 ^ 8 = x % 256 := by omega
    rw [h1, Nat.pow_succ, Nat.mul_comm (256 ^ n) 256, Nat.mod_mul]
theorem numS_le {n x : Nat} (r : List UInt8) (hx : x < 256 ^ n) : numS n (le n x ++ r, false) = (x, (r, false)) := by
  unfold numS
  have hl : (le n x).length = n := le_length n x
  have h0 : ((false : Bool) || decide ((le n x ++ r).length < n)) = false := by
    rw [Bool.false_or, decide_eq_false]; rw [List.length_append, hl]; omega
  show (if ((false : Bool) || decide ((le n x ++ r).length < n)) = true then _ else _) = _
  rw [if_neg (by rw [h0]; simp)]
  have h1 : (le n x ++ r).take n = le n x := by
    rw [List.take_append_of_le_length (by omega)]
    exact List.take_of_length_le (by omega)
  have h2 : (le n x ++ r).drop n = r := by
    rw [List.drop_append_of_le_length (by omega), List.drop_of_length_le (by omega), List.nil_append]
  show (un ((le n x ++ r).take n), ((le n x ++ r).drop n, false)) = _
  rw [h1, h2, un_le, Nat.mod_eq_of_lt hx]
def PtrOk (p : Nat × Nat) : Prop := p.1 < 65536 ∧ p.2 ≤ 1073741824
theorem ptrS_put {p : Nat × Nat} (hp : PtrOk p) (r : List UInt8) : ptrS (le 2 p.1 ++ le 4 p.2 ++ r, false) = (p, (r, false)) := by
  unfold ptrS
  have h1 : numS 2 (le 2 p.1 ++ le 4 p.2 ++ r, false) = (p.1, (le 4 p.2 ++ r, false)) := by
    rw [List.append_assoc]; exact numS_le _ (by have := hp.1; omega)
  rw [h1]
  have h2 : numS 4 (le 4 p.2 ++ r, false) = (p.2, (r, false)) := numS_le _ (by have := hp.2; omega)
  show ((p.1, (numS 4 (le 4 p.2 ++ r, false)).1), (numS 4 (le 4 p.2 ++ r, false)).2) = _
  rw [h2]
theorem ptrsL_put : ∀ (ps : List (Nat × Nat)) (r : List UInt8), (∀ p, p ∈ ps → PtrOk p) → ptrsL ps.length (encP ps ++ r, false) = (ps, (r, false))
  | [], r, _ => rfl
  | p :: ps, r, h => by
    have hp := h p (List.mem_cons_self ..)
    have ih := ptrsL_put ps r (fun q hq => h q (List.mem_cons_of_mem _ hq))
    have e : encP (p :: ps) ++ r = le 2 p.1 ++ le 4 p.2 ++ (encP ps ++ r) := by simp [encP]
    rw [e]
    show ptrsL (ps.length + 1) _ = _
    rw [ptrsL]
    show (bif false then _ else _) = _
    rw [cond_false, ptrS_put hp]
    show (p :: (ptrsL ps.length (encP ps ++ r, false)).1, (ptrsL ps.length (encP ps ++ r, false)).2) = _
    rw [ih]
theorem ptrsS_put {ps : List (Nat × Nat)} (hl : ps.length < 256) (h : ∀ p, p ∈ ps → PtrOk p) : ptrsS (enc 1 [ps.length] ++ encP ps, false) = (ps, ([], false)) := by
  have e : enc 1 [ps.length] ++ encP ps = le 1 ps.length ++ (encP ps ++ []) := by simp [enc]
  unfold ptrsS
  rw [e, numS_le (encP ps ++ []) (by omega)]
  exact ptrsL_put ps [] h
theorem badP_no {ps : List (Nat × Nat)} (h : ∀ p, p ∈ ps → PtrOk p) : ps.any badP = false := by
  rw [List.any_eq_false]
  intro p hp
  have := h p hp
  simp only [badP, Bool.or_eq_true, decide_eq_true_eq]
  have h1 := this.1; have h2 := this.2
  omega
theorem encP_le (ps : List (Nat × Nat)) : (encP ps).length = ps.length * 6 := encP_length ps

/-- a sum comes back -/
theorem sum_back {n1 n2 : Nat} {ps : List (Nat × Nat)} (h1 : n1 ≤ 1073741824) (h2 : n2 ≤ 1073741824) (hl : ps.length ≤ 6) (h : ∀ p, p ∈ ps → PtrOk p) :
    (doneT 4 9 (sumLoad [n1, n2] ps) (sumBad 9 [n1, n2] ps)) = (4, 9, sumLoad [n1, n2] ps) ∧ sumOk 4 9 (sumLoad [n1, n2] ps) = true ∧ (sumA (sumLoad [n1, n2] ps)).1 = n1 ∧ (sumB (sumLoad [n1, n2] ps)).1 = n2 ∧ (sumP (sumLoad [n1, n2] ps)).1 = ps := by
  have hb : sumBad 9 [n1, n2] ps = false := by
    unfold sumBad
    rw [badP_no h]
    simp; omega
  have hlen : (sumLoad [n1, n2] ps).length ≤ 55 := by
    simp only [sumLoad, List.length_append, enc_length, encP_le, List.length_cons, List.length_nil]; omega
  have hd : doneT 4 9 (sumLoad [n1, n2] ps) (sumBad 9 [n1, n2] ps) = (4, 9, sumLoad [n1, n2] ps) := by
    unfold doneT
    rw [hb, Bool.false_or, decide_eq_false (by omega), cond_false]
  have e : sumLoad [n1, n2] ps = le 4 n1 ++ (le 4 n2 ++ (enc 1 [ps.length] ++ encP ps)) := by simp [sumLoad, enc]
  have hA : sumA (sumLoad [n1, n2] ps) = (n1, (le 4 n2 ++ (enc 1 [ps.length] ++ encP ps), false)) := by
    unfold sumA; rw [e]; exact numS_le _ (by omega)
  have hB : sumB (sumLoad [n1, n2] ps) = (n2, (enc 1 [ps.length] ++ encP ps, false)) := by
    unfold sumB; rw [hA]; exact numS_le _ (by omega)
  have hP : sumP (sumLoad [n1, n2] ps) = (ps, ([], false)) := by
    unfold sumP; rw [hB]; exact ptrsS_put (by omega) h
  have hT : sumT 9 (sumLoad [n1, n2] ps) = (4, 9, sumLoad [n1, n2] ps) := by
    unfold sumT; rw [hA, hB, hP]; exact hd
  refine ⟨hd, ?_, by rw [hA], by rw [hB], by rw [hP]⟩
  unfold sumOk
  rw [hP, hT]; simp

/-- a root comes back -/
theorem root_back {k n1 n2 n3 n4 : Nat} {ps : List (Nat × Nat)} (hk : k < 256) (h1 : n1 ≤ 1073741824) (h2 : n2 ≤ 1073741824) (h3 : n3 ≤ 1073741824) (h4 : n4 ≤ 1073741824) (hl : ps.length ≤ 6) (h : ∀ p, p ∈ ps → PtrOk p) :
    (doneT 3 9 (rootLoad k [n1, n2, n3, n4] ps) (rootBad 9 k [n1, n2, n3, n4] ps)) = (3, 9, rootLoad k [n1, n2, n3, n4] ps) ∧ rootOk 3 9 (rootLoad k [n1, n2, n3, n4] ps) = true ∧ (rootA (rootLoad k [n1, n2, n3, n4] ps)).1 = k ∧ rootNs (rootLoad k [n1, n2, n3, n4] ps) = [n1, n2, n3, n4] ∧ (rootP (rootLoad k [n1, n2, n3, n4] ps)).1 = ps := by
  have hb : rootBad 9 k [n1, n2, n3, n4] ps = false := by
    unfold rootBad
    rw [badP_no h]
    simp; omega
  have hlen : (rootLoad k [n1, n2, n3, n4] ps).length ≤ 55 := by
    simp only [rootLoad, List.length_append, enc_length, encP_le, List.length_cons, List.length_nil]; omega
  have hd : doneT 3 9 (rootLoad k [n1, n2, n3, n4] ps) (rootBad 9 k [n1, n2, n3, n4] ps) = (3, 9, rootLoad k [n1, n2, n3, n4] ps) := by
    unfold doneT
    rw [hb, Bool.false_or, decide_eq_false (by omega), cond_false]
  have e : rootLoad k [n1, n2, n3, n4] ps = le 1 k ++ (le 4 n1 ++ (le 4 n2 ++ (le 4 n3 ++ (le 4 n4 ++ (enc 1 [ps.length] ++ encP ps))))) := by simp [rootLoad, enc]
  obtain ⟨ld, hld⟩ : ∃ ld, ld = rootLoad k [n1, n2, n3, n4] ps := ⟨_, rfl⟩
  rw [← hld] at e hd ⊢
  have hA : rootA ld = (k, (le 4 n1 ++ (le 4 n2 ++ (le 4 n3 ++ (le 4 n4 ++ (enc 1 [ps.length] ++ encP ps)))), false)) := by
    unfold rootA; rw [e]; exact numS_le _ (by omega)
  have hB : rootB ld = (n1, (le 4 n2 ++ (le 4 n3 ++ (le 4 n4 ++ (enc 1 [ps.length] ++ encP ps))), false)) := by
    unfold rootB; rw [hA]; exact numS_le _ (by omega)
  have hC : rootC ld = (n2, (le 4 n3 ++ (le 4 n4 ++ (enc 1 [ps.length] ++ encP ps)), false)) := by
    unfold rootC; rw [hB]; exact numS_le _ (by omega)
  have hD : rootD ld = (n3, (le 4 n4 ++ (enc 1 [ps.length] ++ encP ps), false)) := by
    unfold rootD; rw [hC]; exact numS_le _ (by omega)
  have hE : rootE ld = (n4, (enc 1 [ps.length] ++ encP ps, false)) := by
    unfold rootE; rw [hD]; exact numS_le _ (by omega)
  have hP : rootP ld = (ps, ([], false)) := by
    unfold rootP; rw [hE]; exact ptrsS_put (by omega) h
  have hN : rootNs ld = [n1, n2, n3, n4] := by unfold rootNs; rw [hB, hC, hD, hE]
  have hT : rootT 9 ld = (3, 9, ld) := by
    unfold rootT; rw [hA, hN, hP, ← hld]; exact hd
  refine ⟨hd, ?_, by rw [hA], hN, by rw [hP]⟩
  unfold rootOk
  rw [hP, hT]; simp

/-- an index's block comes back -/
def ItOk (x : RecT × (Nat × Nat)) : Prop := x.1.1 < 256 ∧ x.1.2.1 < 256 ∧ PtrOk x.2
def strip (x : RecT × (Nat × Nat)) : IxT := ((x.1.1, x.1.2.1), x.2)
theorem ixItem_strip (x : RecT × (Nat × Nat)) : ixItem (itT (strip x)) = ixItem x := rfl
theorem ixBad_strip (x : RecT × (Nat × Nat)) : ixBad (itT (strip x)) = ixBad x := rfl
theorem ixItemS_put {x : RecT × (Nat × Nat)} (hx : ItOk x) (r : List UInt8) : ixItemS (ixItem x ++ r, false) = (strip x, (r, false)) := by
  have e : ixItem x ++ r = le 1 x.1.1 ++ (le 1 x.1.2.1 ++ (le 2 x.2.1 ++ le 4 x.2.2 ++ r)) := by simp [ixItem, enc, encP]
  rw [e]
  have h1 := numS_le (n := 1) (x := x.1.1) (le 1 x.1.2.1 ++ (le 2 x.2.1 ++ le 4 x.2.2 ++ r)) (by have := hx.1; omega)
  have h2 := numS_le (n := 1) (x := x.1.2.1) (le 2 x.2.1 ++ le 4 x.2.2 ++ r) (by have := hx.2.1; omega)
  have h3 := ptrS_put hx.2.2 r
  unfold ixItemS
  rw [h1]
  show (((x.1.1, (numS 1 (le 1 x.1.2.1 ++ (le 2 x.2.1 ++ le 4 x.2.2 ++ r), false)).1), (ptrS (numS 1 (le 1 x.1.2.1 ++ (le 2 x.2.1 ++ le 4 x.2.2 ++ r), false)).2).1), (ptrS (numS 1 (le 1 x.1.2.1 ++ (le 2 x.2.1 ++ le 4 x.2.2 ++ r), false)).2).2) = _
  rw [h2]
  show ((((x.1.1, x.1.2.1), (ptrS (le 2 x.2.1 ++ le 4 x.2.2 ++ r, false)).1), (ptrS (le 2 x.2.1 ++ le 4 x.2.2 ++ r, false)).2) : IxT × RS') = _
  rw [h3]
  rfl
theorem ixL_put : ∀ (l : List (RecT × (Nat × Nat))) (n : Nat), l.length ≤ n → (∀ x, x ∈ l → ItOk x) → ixL n (l.flatMap ixItem, false) = (l.map strip, ([], false))
  | [], n, _, _ => by
    cases n with
    | zero => rfl
    | succ n => rfl
  | x :: l, 0, hn, _ => by simp at hn
  | x :: l, n + 1, hn, h => by
    have ih := ixL_put l n (by simpa using hn) (fun y hy => h y (List.mem_cons_of_mem _ hy))
    have hx := h x (List.mem_cons_self ..)
    rw [List.flatMap_cons, ixL]
    have hc : (decide (0 < (ixItem x ++ l.flatMap ixItem).length) && !false) = true := by
      rw [Bool.not_false, Bool.and_true, decide_eq_true]; rw [List.length_append, ixItem_len]; omega
    show (bif (decide (0 < (ixItem x ++ l.flatMap ixItem).length) && !false) then _ else _) = _
    rw [hc, cond_true, ixItemS_put hx]
    show (strip x :: (ixL n (l.flatMap ixItem, false)).1, (ixL n (l.flatMap ixItem, false)).2) = _
    rw [ih]; rfl
theorem ixBad_no {l : List (RecT × (Nat × Nat))} (h : ∀ x, x ∈ l → ItOk x) : l.any ixBad = false := by
  rw [List.any_eq_false]
  intro x hx
  have h1 := h x hx
  have h2 := h1.1; have h3 := h1.2.1
  have h4 : [x.2].any badP = false := badP_no (fun p hp => by simp at hp; subst hp; exact h1.2.2)
  unfold ixBad
  rw [h4]
  simp; omega
theorem index_back {l : List (RecT × (Nat × Nat))} (h0 : 0 < l.length) (hl : l.length ≤ 6) (h : ∀ x, x ∈ l → ItOk x) :
    doneT 2 9 (l.flatMap ixItem) (genBad 9 || l.any ixBad) = (2, 9, l.flatMap ixItem) ∧ ixOk 2 9 (l.flatMap ixItem) = true ∧ (ixS (l.flatMap ixItem)).1 = l.map strip ∧ (l.flatMap ixItem).length ≤ 55 := by
  have hlen : (l.flatMap ixItem).length ≤ 55 := by rw [ixItems_len]; omega
  have hd : doneT 2 9 (l.flatMap ixItem) (genBad 9 || l.any ixBad) = (2, 9, l.flatMap ixItem) := by
    unfold doneT
    rw [ixBad_no h]
    have : genBad 9 = false := by decide
    rw [this, Bool.false_or, Bool.false_or, decide_eq_false (by omega), cond_false]
  have hS : ixS (l.flatMap ixItem) = (l.map strip, ([], false)) := by
    unfold ixS; exact ixL_put l _ (by rw [ixItems_len]; omega) h
  refine ⟨hd, ?_, by rw [hS], hlen⟩
  unfold ixOk
  rw [hS]
  have hit : (l.map strip).map itT = l.map fun x => itT (strip x) := by rw [List.map_map]; rfl
  have hc : ((l.map strip).length + 5) / 6 = 1 := by rw [List.length_map]; omega
  have hix : indexT 9 ((l.map strip).map itT) 1 = [(2, 9, l.flatMap ixItem)] := by
    rw [hit]
    have ht : ((l.map fun x => itT (strip x)).drop (6 * 0)).take 6 = l.map fun x => itT (strip x) := by
      rw [Nat.mul_zero, List.drop_zero]; exact List.take_of_length_le (by rw [List.length_map]; exact hl)
    have hf : (l.map fun x => itT (strip x)).flatMap ixItem = l.flatMap ixItem := by rw [List.flatMap_map]; rfl
    have hb : (l.map fun x => itT (strip x)).any ixBad = l.any ixBad := by rw [List.any_map]; rfl
    show [doneT 2 9 ((((l.map fun x => itT (strip x)).drop (6 * 0)).take 6).flatMap ixItem) (genBad 9 || (((l.map fun x => itT (strip x)).drop (6 * 0)).take 6).any ixBad)] = _
    rw [ht, hf, hb, hd]
  show (!((false : Bool) || !decide ((2 : Int) = 2) || !decide (indexT 9 ((l.map strip).map itT) (((l.map strip).length + 5) / 6) = [(2, 9, l.flatMap ixItem)]))) = true
  rw [hc, hix]
  simp
end Go.Ev.Root

namespace Go.Ev.Root
open Go.Ev
variable {F : Nat → Option FnI}
/-! RootBack's walk -/
theorem _root_.Go.Ev.Sl.inB {h : Hp} (w : WF h) {v : V} {k n : Nat} {cs : List V} (hs : Sl h v k n cs) : InB v fun a => a.toNat < h.next.toNat := by
  intro a o m c e
  rcases hs.2 with ⟨h1, _⟩ | ⟨b, p, d, h1, h2⟩
  · rw [h1] at e; cases e
  · rw [h1] at e; cases e; exact h2.lt w
theorem flat_take {α : Type} (f : α → List V) (k : Nat) (hf : ∀ a, (f a).length = k) : ∀ (l : List α) (m : Nat), (l.flatMap f).take (m * k) = (l.take m).flatMap f
  | [], m => by simp
  | a :: l, 0 => by simp
  | a :: l, m + 1 => by
    rw [List.flatMap_cons, List.take_succ_cons, List.flatMap_cons, Nat.add_mul, Nat.one_mul, Nat.add_comm, List.take_append, hf, List.take_of_length_le (by rw [hf]; omega)]
    congr 1
    rw [show k + m * k - k = m * k by omega]
    exact flat_take f k hf l m
theorem ptrsM_ok (l : List UInt8) : ∀ k n p, p ∈ ptrsM l k n → PtrOk p
  | 0, _, p, hp => by simp [ptrsM] at hp
  | k + 1, n, p, hp => by
    rw [ptrsM, List.mem_cons] at hp
    rcases hp with rfl | hp
    · have h1 := numP_lt l (m := 250) (by omega) n
      have h2 := numP_lt l (m := 99) (by omega) (numP l 250 n).2
      show 2 + (numP l 250 n).1 * 3 < 65536 ∧ (numP l 99 (numP l 250 n).2).1 ≤ 1073741824
      omega
    · exact ptrsM_ok l k _ p hp

/-- what is known behind the first half -/
structure Half (k : Hp) (rv pv xv : V) (y : Pa) (rs : List RecT) (ps : List (Nat × Nat)) (K : Nat) (ns : List Nat) : Prop where
  w : WF k
  r : Sl k rv 3 rs.length (recsV rs)
  p : Sl k pv 2 ps.length (ptrsV ps)
  pc : CapOk pv 2
  x : Sl k xv 3 ((ps.length + 5) / 6) (indexV 9 (rs.zip ps) ((ps.length + 5) / 6))
  y : k.get y = some (.cells (rcV K ns) false)
theorem Half.keep {k k' : Hp} {rv pv xv : V} {y : Pa} {rs : List RecT} {ps : List (Nat × Nat)} {K : Nat} {ns : List Nat} (a : Half k rv pv xv y rs ps K ns) (kk : Keep k.next.toNat k k') : Half k' rv pv xv y rs ps K ns :=
  ⟨kk.wf, a.r.ext kk a.w (Nat.le_refl _), a.p.ext kk a.w (Nat.le_refl _), a.pc, a.x.ext kk a.w (Nat.le_refl _), kk.at (a.w.lt a.y) a.y⟩

/-- the second half -/
noncomputable def b4b : IC Blk := match b4 with
  | .seq _ (.seq _ (.seq _ (.seq _ (.seq _ (.seq _ (.seq _ (.seq _ (.seq _ r)))))))) => r
  | _ => .skip
/-- what stands behind the loop over the index's blocks -/
noncomputable def b4c : IC Blk := match b4b with
  | .seq _ (.seq _ r) => r
  | _ => .skip
theorem eq5 (K a b c d : Nat) : binV .eql (.agg [(0, .i), (1, .i), (2, .i), (3, .i), (4, .i)]) (.agg (rcV K [a, b, c, d])) (.agg (rcV K [a, b, c, d])) = some (.bool true) := by
  show (aggEq (rcV K [a, b, c, d]) (rcV K [a, b, c, d]) [(0, .i), (1, .i), (2, .i), (3, .i), (4, .i)]).map V.bool = _
  have hk : kEq .i64 .i64 = true := rfl
  have n0 : nth (rcV K [a, b, c, d]) 0 = some (.int .i64 (K : Int)) := rfl
  have n1 : nth (rcV K [a, b, c, d]) 1 = some (.int .i64 (a : Int)) := rfl
  have n2 : nth (rcV K [a, b, c, d]) 2 = some (.int .i64 (b : Int)) := rfl
  have n3 : nth (rcV K [a, b, c, d]) 3 = some (.int .i64 (c : Int)) := rfl
  have n4 : nth (rcV K [a, b, c, d]) 4 = some (.int .i64 (d : Int)) := rfl
  simp only [aggEq, n0, n1, n2, n3, n4, flatEq, hk, cond_true, iEq_eq, beq_self_eq_true, Option.map_some]
set_option maxHeartbeats 4000000 in
theorem end_ok (fs : Fs F) {rv pv xv : V} {y : Pa} {rs : List RecT} {ps : List (Nat × Nat)} {K n1 n2 n3 n4 : Nat} {h : Hp} (H : Half h rv pv xv y rs ps K [n1, n2, n3, n4]) (hm : ps.length ≤ 20) (hrp : rs.length = ps.length)
    (hpok : ∀ p, p ∈ ps → PtrOk p) (hK : K < 256) (z1 : n1 ≤ 1073741824) (z2 : n2 ≤ 1073741824) (z3 : n3 ≤ 1073741824) (z4 : n4 ≤ 1073741824) :
    WC F ⟨4, 248, false, none⟩ b4c [(7, rv), (8, pv), (9, .ptr y 0), (11, .int .i64 (ps.length : Int))] h (fnPost [(pa 6, none)] (fun v _ => v = .bool true) (fun _ _ => False)) := by
  obtain ⟨few, hfew⟩ : ∃ few, few = ps.take (min ps.length 6) := ⟨_, rfl⟩
  have hfl : few.length = min ps.length 6 := by rw [hfew, List.length_take]; omega
  have hfok : ∀ p, p ∈ few → PtrOk p := fun p hp => hpok p (List.mem_of_mem_take (hfew ▸ hp))
  obtain ⟨fv, s1, s2, _, _⟩ := cut_hi H.p H.pc (Nat.min_le_left ps.length 6)
  have ht : (ptrsV ps).take (min ps.length 6 * 2) = ptrsV few := by rw [hfew]; exact flat_take ptrV 2 (fun _ => rfl) ps _
  rw [ht, ← hfl] at s2
  refine WC.seq (WC.region ?_)
  refine R.mv .none (.t rfl) ?_  -- t181
  refine R.mv .none (.t rfl) ?_  -- t182
  refine R.lenSlv .none (.t rfl) H.p ?_  -- t183
  refine R.mm2 .none (.t rfl) .c (mm_min ps.length 6) ?_  -- t184
  refine R.slice .none (.t rfl) .none (.some (.t rfl)) .none s1 ?_  -- t185
  refine R.mv .none (.t rfl) ?_  -- t19
  refine WR.nil ?_
  -- a root
  obtain ⟨rb1, rb2, rb3, rb4, rb5⟩ := root_back (k := K) (n1 := n1) (n2 := n2) (n3 := n3) (n4 := n4) hK z1 z2 z3 z4 (by omega) hfok
  obtain ⟨h1, c1, k1⟩ := Root_ok fs (gen := 9) (kind := K) (n1 := n1) (n2 := n2) (n3 := n3) (n4 := n4) H.w s2 (by omega) (s2.inB H.w)
  rw [doneV_T, rb1] at c1
  obtain ⟨av, h2, rk, rns, al, d1, d2, d3, d4, k2, d5⟩ := TakeRoot_ok fs (kind := 3) (gen := 9) (load := rootLoad K [n1, n2, n3, n4] few) k1.wf
  obtain ⟨rfl, rfl, rfl⟩ := d5 rb2
  rw [rb2, rb3, rb4] at d1
  rw [rb5] at d3
  have H2 := (H.keep k1).keep k2
  have f2 := (s2.ext k1 H.w (Nat.le_refl _)).ext k2 k1.wf (Nat.le_refl _)
  refine WC.cut (fun E q => ∃ y2, Keep h2.next.toNat h2 q ∧ q.get y2 = some (.cells (rcV K [n1, n2, n3, n4]) false) ∧ Sub [(7, rv), (9, .ptr y 0), (11, .int .i64 (ps.length : Int)), (19, fv), (20, .ptr y2 0), (21, av), (22, .bool true)] E) ?_ ?_
  · refine WC.region ?_
    refine R.load .none (.t rfl) ((Cells.of H.y rfl).agg (i := 0) (n := 5) rfl rfl) ?_  -- t187
    refine R.mv .none (.t rfl) ?_  -- t188
    refine R.call .none (.cons .c (.cons (.t rfl) (.cons (.t rfl) .nil))) c1 ?_  -- t189
    refine R.call .none (.cons (.t rfl) .nil) d1 ?_  -- t190
    refine R.mv .none (.t rfl) ?_  -- t186
    refine R.ext .none (.t rfl) rfl ?_  -- t191
    refine R.ext .none (.t rfl) rfl ?_  -- t192
    refine R.ext .none (.t rfl) rfl ?_  -- t193
    refine R.alloc .none ?_  -- t20
    refine R.store .none (.t rfl) (.t rfl) rfl (storeN_of (get_alloc_self _ _) rfl rfl) ?_
    refine R.mv .none (.t rfl) ?_  -- t21
    refine R.mv .none (.t rfl) ?_  -- t22
    exact WR.nil ⟨_, Upd.made k2.wf (.put (k2.wf.alloc _) (get_alloc_self _ _) _), get_put_self _ _ _, .cons rfl (.cons rfl (.cons rfl (.cons rfl (.cons rfl (.cons rfl (.cons rfl (.nil _)))))))⟩
  rintro E3 h3 ⟨y2, k3, gy2, hE3⟩
  refine WC.sub hE3 ?_
  have H3 := H2.keep k3
  have f3 := f2.ext k3 k2.wf (Nat.le_refl _)
  have a3 := d3.ext k3 k2.wf (Nat.le_refl _)
  -- a sum
  obtain ⟨sb1, sb2, sb3, sb4, sb5⟩ := sum_back (n1 := 4) (n2 := 2) (by omega) (by omega) (by omega) hfok
  obtain ⟨h4, e1, k4⟩ := Sum_ok fs (gen := 9) (n1 := 4) (n2 := 2) H3.w f3 (by omega) (f3.inB H3.w)
  rw [doneV_T, sb1] at e1
  obtain ⟨bv, h5, r1, r2, bl, i1, i2, i3, k5, i5⟩ := TakeSum_ok fs (kind := 4) (gen := 9) (load := sumLoad [4, 2] few) k4.wf
  obtain ⟨rfl, rfl, rfl⟩ := i5 sb2
  rw [sb2, sb3, sb4] at i1
  rw [sb5] at i2
  have H5 := (H3.keep k4).keep k5
  have f5 := (f3.ext k4 H3.w (Nat.le_refl _)).ext k5 k4.wf (Nat.le_refl _)
  have a5 := (a3.ext k4 H3.w (Nat.le_refl _)).ext k5 k4.wf (Nat.le_refl _)
  have gy5 := k5.at (k4.wf.lt (k4.at (H3.w.lt gy2) gy2)) (k4.at (H3.w.lt gy2) gy2)
  refine WC.seq (WC.region ?_)
  refine R.mv .none (.t rfl) ?_  -- t195
  refine R.call .none (.cons .c (.cons .c (.cons .c (.cons (.t rfl) .nil)))) e1 ?_  -- t196
  refine R.call .none (.cons (.t rfl) .nil) i1 ?_  -- t197
  refine R.mv .none (.t rfl) ?_  -- t194
  refine R.ext .none (.t rfl) rfl ?_
  refine R.ext .none (.t rfl) rfl ?_
  refine R.ext .none (.t rfl) rfl ?_
  refine R.ext .none (.t rfl) rfl ?_
  refine R.mv .none (.t rfl) ?_  -- t23
  refine R.mv .none (.t rfl) ?_  -- t24
  refine R.mv .none (.t rfl) ?_  -- t25
  refine R.mv .none (.t rfl) ?_  -- t26
  refine WR.nil ?_
  -- a root is no sum
  obtain ⟨h6, j1, k6⟩ := Root_ok fs (gen := 9) (kind := K) (n1 := n1) (n2 := n2) (n3 := n3) (n4 := n4) H5.w f5 (by omega) (f5.inB H5.w)
  rw [doneV_T, rb1] at j1
  obtain ⟨cv, h7, t1, t2, cl, m1, m2, m3, k7, _⟩ := TakeSum_ok fs (kind := 3) (gen := 9) (load := rootLoad K [n1, n2, n3, n4] few) k6.wf
  have hno : sumOk 3 9 (rootLoad K [n1, n2, n3, n4] few) = false := by unfold sumOk; simp
  rw [hno] at m1
  have H7 := (H5.keep k6).keep k7
  have f7 := (f5.ext k6 H5.w (Nat.le_refl _)).ext k7 k6.wf (Nat.le_refl _)
  have a7 := (a5.ext k6 H5.w (Nat.le_refl _)).ext k7 k6.wf (Nat.le_refl _)
  have b7 := (i2.ext k6 H5.w (Nat.le_refl _)).ext k7 k6.wf (Nat.le_refl _)
  have gy7 := k7.at (k6.wf.lt (k6.at (H5.w.lt gy5) gy5)) (k6.at (H5.w.lt gy5) gy5)
  refine WC.seq (WC.region ?_)
  refine R.load .none (.t rfl) ((Cells.of H5.y rfl).agg (i := 0) (n := 5) rfl rfl) ?_  -- t203
  refine R.mv .none (.t rfl) ?_  -- t204
  refine R.call .none (.cons .c (.cons (.t rfl) (.cons (.t rfl) .nil))) j1 ?_  -- t205
  refine R.call .none (.cons (.t rfl) .nil) m1 ?_  -- t206
  refine R.mv .none (.t rfl) ?_  -- t202
  refine R.ext .none (.t rfl) rfl ?_
  refine R.ext .none (.t rfl) rfl ?_
  refine R.ext .none (.t rfl) rfl ?_
  refine R.ext .none (.t rfl) rfl ?_
  refine R.mv .none (.t rfl) ?_  -- t27
  refine R.mv .none (.t rfl) ?_  -- t28
  refine R.mv .none (.t rfl) ?_  -- t29
  refine R.mv .none (.t rfl) ?_  -- t30
  refine WR.nil ?_
  -- all of it
  have q1 := SamePtrs_ok fs a7 f7 (by omega)
  have q2 := SamePtrs_ok fs b7 f7 (by omega)
  rw [decide_eq_true rfl] at q1 q2
  have g1 : decide ((ps.length : Int) = (rs.length : Int)) = true := decide_eq_true (by omega)
  refine WC.seq (WC.region ?_)
  refine R.mv .none (.t rfl) ?_  -- t211
  refine R.mv .none (.t rfl) ?_  -- t212
  refine R.lenSlv .none (.t rfl) H7.r ?_  -- t213
  refine R.bin .none (.t rfl) (.t rfl) b_eqI ?_  -- t214
  rw [g1]
  refine R.mv .none (.t rfl) ?_  -- t215
  refine R.mv (.yes rfl) (.t rfl) ?_  -- t216
  refine R.pick .none (.t rfl) (.t rfl) .c ?_  -- t217
  refine R.mv .none (.t rfl) ?_  -- t218
  refine R.load (.yes rfl) (.t rfl) ((Cells.of gy7 rfl).agg (i := 0) (n := 5) rfl rfl) ?_  -- t219
  refine R.load (.yes rfl) (.t rfl) ((Cells.of H7.y rfl).agg (i := 0) (n := 5) rfl rfl) ?_  -- t220
  refine R.bin (.yes rfl) (.t rfl) (.t rfl) (eq5 K n1 n2 n3 n4) ?_  -- t221
  refine R.pick .none (.t rfl) (.t rfl) .c ?_  -- t222
  refine R.mv .none (.t rfl) ?_  -- t223
  refine R.mv (.yes rfl) (.t rfl) ?_  -- t224
  refine R.mv (.yes rfl) (.t rfl) ?_  -- t225
  refine R.call (.yes rfl) (.cons (.t rfl) (.cons (.t rfl) .nil)) q1 ?_  -- t226
  refine R.pick .none (.t rfl) (.t rfl) .c ?_  -- t227
  refine R.mv .none (.t rfl) ?_  -- t228
  refine R.mv (.yes rfl) (.t rfl) ?_  -- t229
  refine R.pick .none (.t rfl) (.t rfl) .c ?_  -- t230
  refine R.mv .none (.t rfl) ?_  -- t231
  refine R.mv (.yes rfl) (.t rfl) ?_  -- t232
  refine R.bin (.yes rfl) (.t rfl) .c b_eqI ?_  -- t233
  refine R.pick .none (.t rfl) (.t rfl) .c ?_  -- t234
  refine R.mv .none (.t rfl) ?_  -- t235
  refine R.mv (.yes rfl) (.t rfl) ?_  -- t236
  refine R.bin (.yes rfl) (.t rfl) .c b_eqI ?_  -- t237
  refine R.pick .none (.t rfl) (.t rfl) .c ?_  -- t238
  refine R.mv .none (.t rfl) ?_  -- t239
  refine R.mv (.yes rfl) (.t rfl) ?_  -- t240
  refine R.mv (.yes rfl) (.t rfl) ?_  -- t241
  refine R.call (.yes rfl) (.cons (.t rfl) (.cons (.t rfl) .nil)) q2 ?_  -- t242
  refine R.pick .none (.t rfl) (.t rfl) .c ?_  -- t243
  refine R.mv .none (.t rfl) ?_  -- t244
  refine R.mv (.yes rfl) (.t rfl) ?_  -- t245
  refine R.un (.yes rfl) (.t rfl) rfl ?_  -- t246
  refine R.pick .none (.t rfl) (.t rfl) .c ?_  -- t247
  refine R.mv .none (.t rfl) ?_  -- t6
  refine WR.nil ?_
  refine WC.ret ?_
  exact ⟨_, .t rfl .nil, rfl⟩
set_option maxHeartbeats 4000000 in
theorem half_ok (fs : Fs F) {rv pv xv : V} {y : Pa} {rs : List RecT} {ps : List (Nat × Nat)} {K n1 n2 n3 n4 : Nat} {h : Hp} (H : Half h rv pv xv y rs ps K [n1, n2, n3, n4]) (hm : ps.length ≤ 20) (hrp : rs.length = ps.length)
    (hrok : ∀ r, r ∈ rs → r.1 < 256 ∧ r.2.1 < 256) (hpok : ∀ p, p ∈ ps → PtrOk p) (hK : K < 256) (z1 : n1 ≤ 1073741824) (z2 : n2 ≤ 1073741824) (z3 : n3 ≤ 1073741824) (z4 : n4 ≤ 1073741824) :
    WC F ⟨4, 248, false, none⟩ b4b [(7, rv), (8, pv), (9, .ptr y 0), (10, xv)] h (fnPost [(pa 6, none)] (fun v _ => v = .bool true) (fun _ _ => False)) := by
  obtain ⟨m, hmm⟩ : ∃ m, m = ps.length := ⟨_, rfl⟩
  obtain ⟨c, hcc⟩ : ∃ c, c = (m + 5) / 6 := ⟨_, rfl⟩
  obtain ⟨its, hits⟩ : ∃ its, its = rs.zip ps := ⟨_, rfl⟩
  have hil : its.length = m := by rw [hits, List.length_zip, hrp, hmm]; exact Nat.min_self _
  have hiok : ∀ x, x ∈ its → ItOk x := by
    intro x hx
    rw [hits] at hx
    obtain ⟨r, p⟩ := x
    have h1 := List.of_mem_zip hx
    exact ⟨(hrok r h1.1).1, (hrok r h1.1).2, hpok p h1.2⟩
  refine WC.seq (WC.region ?_)
  refine R.mv .none .c ?_  -- t11
  refine WR.nil ?_
  refine WC.seq ?_
  refine WC.seq (WC.region ?_)
  refine R.mv .none .c ?_  -- t12
  refine WR.nil ?_
  refine WC.block ?_ -- 2
  refine WC.loop (fun μ E k => ∃ i, μ = c - i ∧ i ≤ c ∧ Half k rv pv xv y rs ps K [n1, n2, n3, n4] ∧ Sub [(7, rv), (8, pv), (9, .ptr y 0), (10, xv), (11, .int .i64 ((min (6 * i) m : Nat) : Int)), (12, .int .i64 (i : Int))] E) (m := c)
    ⟨0, rfl, by omega, H, .cons rfl (.cons rfl (.cons rfl (.cons rfl (.cons (by show some _ = some _; congr 2) (.cons rfl (.nil _))))))⟩ ?_
  rintro μ E k ⟨i, rfl, hi, Hk, hE⟩
  refine WC.sub hE ?_
  have hx := Hk.x
  rw [← hmm, ← hcc, ← hits] at hx
  refine WC.seq ?_
  refine WC.seq (WC.region ?_)
  refine R.mv .none (.t rfl) ?_  -- t72
  refine R.mv .none (.t rfl) ?_  -- t73
  refine R.lenSlv .none (.t rfl) hx ?_  -- t74
  refine R.bin .none (.t rfl) (.t rfl) b_lss ?_  -- t75
  refine WR.nil ?_
  refine WC.condD (.t rfl) (fun hlt => ?_) (fun hge => ?_) -- t75
  · refine WC.skip ?_
    have hic : i < c := by omega
    obtain ⟨ch, hch⟩ : ∃ ch, ch = (its.drop (6 * i)).take 6 := ⟨_, rfl⟩
    have hchl : ch.length = min 6 (m - 6 * i) := by rw [hch, List.length_take, List.length_drop, hil]
    have hchok : ∀ x, x ∈ ch → ItOk x := fun x hx => hiok x (List.mem_of_mem_drop (List.mem_of_mem_take (hch ▸ hx)))
    obtain ⟨q1, q2, q3, q4⟩ := index_back (l := ch) (by omega) (by omega) hchok
    obtain ⟨ld, hld⟩ : ∃ ld, ld = ch.flatMap ixItem := ⟨_, rfl⟩
    rw [← hld] at q1 q2 q3 q4
    rcases hx.2 with ⟨_, h0⟩ | ⟨xa, xo, xc, rfl, _⟩
    · omega
    have hblk : ∀ k', Half k' rv pv (.sl xa xo c xc) y rs ps K [n1, n2, n3, n4] → loadV k' (some 3) (.ptr xa (xo + i * 3)) = some (.agg (blkV 2 9 ld)) := by
      intro k' Hk'
      have hx' := Hk'.x
      rw [← hmm, ← hcc, ← hits] at hx'
      rcases hx'.2 with ⟨h0, _⟩ | ⟨xa', xo', xc', h0, hxc⟩
      · cases h0
      cases h0
      have hf : ∀ j : Nat, (chunkV 9 ((its.drop (6 * j)).take 6)).length = 3 := fun j => by
        obtain ⟨kd, gn, l', hd⟩ := doneV_is 2 9 (((its.drop (6 * j)).take 6).flatMap ixItem) (genBad 9 || ((its.drop (6 * j)).take 6).any ixBad)
        unfold chunkV; rw [hd]; rfl
      have h1 := hxc.agg (i := i * 3) (n := 3) (flat_agg (fun j => chunkV 9 ((its.drop (6 * j)).take 6)) 3 hf (l := List.range c) (j := i) (a := i) (by rw [List.getElem?_range hic])) (hf i)
      rw [h1]
      show some (V.agg (chunkV 9 ((its.drop (6 * i)).take 6))) = _
      rw [← hch]; unfold chunkV
      rw [doneV_T, ← hld, q1]
    obtain ⟨kv, tv, h1, l, d1, d2, d3, d4, d5, d6, d7⟩ := TakeIndex_ok fs (kind := 2) (gen := 9) (load := ld) Hk.w (by omega)
    have hl := d7 q2
    rw [q3] at hl
    rw [q2] at d1
    have hll : l.length = ch.length := by rw [hl, List.length_map]
    have H1 := Hk.keep d6
    obtain ⟨h2, e1, e2⟩ := TakeRec_no fs (kind := 2) (gen := 9) (load := ld) H1.w (by omega)
    have H2 := H1.keep e2
    refine WC.seq ?_
    refine WC.block ?_ -- 3
    refine WC.seq (WC.region ?_)
    refine R.mv .none (.t rfl) ?_  -- t79
    refine R.mv .none (.t rfl) ?_  -- t80
    refine R.iAddr .none (.t rfl) (.t rfl) hic ?_  -- t81
    refine R.load .none (.t rfl) (hblk k Hk) ?_  -- t82
    refine R.call .none (.cons (.t rfl) .nil) d1 ?_  -- t83
    refine R.mv .none (.t rfl) ?_  -- t78
    refine R.ext .none (.t rfl) rfl ?_  -- t84
    refine R.ext .none (.t rfl) rfl ?_  -- t85
    refine R.ext .none (.t rfl) rfl ?_  -- t86
    refine R.mv .none (.t rfl) ?_  -- t13
    refine R.mv .none (.t rfl) ?_  -- t14
    refine R.mv .none (.t rfl) ?_  -- t15
    refine WR.nil ?_
    refine WC.cut (fun E q => Keep h2.next.toNat h2 q ∧ Sub [(7, rv), (8, pv), (9, .ptr y 0), (10, .sl xa xo c xc), (11, .int .i64 ((min (6 * i) m : Nat) : Int)), (12, .int .i64 (i : Int)), (13, kv), (14, tv), (15, .bool true), (17, .bool false)] E) ?_ ?_
    · refine WC.region ?_
      refine R.mv .none (.t rfl) ?_  -- t88
      refine R.mv .none (.t rfl) ?_  -- t89
      refine R.iAddr .none (.t rfl) (.t rfl) hic ?_  -- t90
      refine R.load .none (.t rfl) (hblk h1 H1) ?_  -- t91
      refine R.call .none (.cons (.t rfl) .nil) e1 ?_  -- t92
      refine R.mv .none (.t rfl) ?_  -- t87
      refine R.ext .none (.t rfl) rfl ?_  -- t93
      refine R.ext .none (.t rfl) rfl ?_  -- t94
      refine R.alloc .none ?_  -- t16
      refine R.store .none (.t rfl) (.t rfl) rfl (storeN_of (get_alloc_self _ _) rfl rfl) ?_
      refine R.mv .none (.t rfl) ?_  -- t17
      exact WR.nil ⟨Upd.made H2.w (.put (H2.w.alloc _) (get_alloc_self _ _) _), .cons rfl (.cons rfl (.cons rfl (.cons rfl (.cons rfl (.cons rfl (.cons rfl (.cons rfl (.cons rfl (.cons rfl (.nil _))))))))))⟩
    rintro E3 h3 ⟨k3, hE3⟩
    refine WC.sub hE3 ?_
    have H3 := H2.keep k3
    have kT : Keep h1.next.toNat h1 h3 := e2.trans (k3.less e2.next)
    have hkv := d2.ext kT H1.w (Nat.le_refl _)
    have htv := d3.ext kT H1.w (Nat.le_refl _)
    have hx3 := H3.x
    rw [← hmm, ← hcc, ← hits] at hx3
    refine WC.seq ?_
    refine WC.seq (WC.then (fun E q => q = h3 ∧ Sub [(7, rv), (8, pv), (9, .ptr y 0), (10, .sl xa xo c xc), (11, .int .i64 ((min (6 * i) m : Nat) : Int)), (12, .int .i64 (i : Int)), (13, kv), (14, tv), (123, .bool false)] E) ?_ ?_)
    · refine WC.region ?_
      have f1 : decide (((l.length : Nat) : Int) = ((l.length : Nat) : Int)) = true := by simp
      have f2 : decide ((6 : Int) < ((l.length : Nat) : Int)) = false := decide_eq_false (by omega)
      refine R.mv .none (.t rfl) ?_  -- t95
      refine R.un .none (.t rfl) rfl ?_  -- t96
      refine R.mv .none (.t rfl) ?_  -- t97
      refine R.mv (.yes rfl) (.t rfl) ?_  -- t98
      refine R.pick .none (.t rfl) .c (.t rfl) ?_  -- t99
      refine R.mv .none (.t rfl) ?_  -- t100
      refine R.mv (.yes rfl) (.t rfl) ?_  -- t101
      refine R.lenSlv (.yes rfl) (.t rfl) hkv ?_  -- t102
      refine R.mv (.yes rfl) (.t rfl) ?_  -- t103
      refine R.lenSlv (.yes rfl) (.t rfl) htv ?_  -- t104
      refine R.bin (.yes rfl) (.t rfl) (.t rfl) b_neI ?_  -- t105
      rw [f1]
      refine R.pick .none (.t rfl) .c (.t rfl) ?_  -- t106
      refine R.mv .none (.t rfl) ?_  -- t107
      refine R.mv (.yes rfl) (.t rfl) ?_  -- t108
      refine R.lenSlv (.yes rfl) (.t rfl) hkv ?_  -- t109
      refine R.bin (.yes rfl) (.t rfl) .c b_gtr ?_  -- t110
      rw [f2]
      refine R.pick .none (.t rfl) .c (.t rfl) ?_  -- t111
      refine R.mv .none (.t rfl) ?_  -- t112
      refine R.mv (.yes rfl) (.t rfl) ?_  -- t113
      refine R.mv (.yes rfl) (.t rfl) ?_  -- t114
      refine R.lenSlv (.yes rfl) (.t rfl) hx3 ?_  -- t115
      refine R.bin (.yes rfl) (.t rfl) .c (b_sub (by omega) (by omega)) ?_  -- t116
      refine R.bin (.yes rfl) (.t rfl) (.t rfl) b_lss ?_  -- t117
      refine R.mv (.yes rfl) (.t rfl) ?_  -- t118
      by_cases hlast : i + 1 < c
      · have f3 : decide ((i : Int) < (c : Int) - 1) = true := decide_eq_true (by omega)
        have f4 : decide (((l.length : Nat) : Int) = 6) = true := decide_eq_true (by omega)
        rw [f3]
        refine R.mv (.yes rfl) (.t rfl) ?_  -- t119
        refine R.lenSlv (.yes rfl) (.t rfl) hkv ?_  -- t120
        refine R.bin (.yes rfl) (.t rfl) .c b_neI ?_  -- t121
        rw [f4]
        refine R.pick (.yes rfl) (.t rfl) (.t rfl) .c ?_  -- t122
        refine R.pick .none (.t rfl) .c (.t rfl) ?_  -- t123
        exact WR.nil ⟨rfl, .cons rfl (.cons rfl (.cons rfl (.cons rfl (.cons rfl (.cons rfl (.cons rfl (.cons rfl (.cons rfl (.nil _)))))))))⟩
      · have f3 : decide ((i : Int) < (c : Int) - 1) = false := decide_eq_false (by omega)
        rw [f3]
        refine R.no (.no rfl rfl) ?_
        refine R.no (.no rfl rfl) ?_
        refine R.no (.no rfl rfl) ?_
        refine R.pick (.yes rfl) (.t rfl) (.t rfl) .c ?_  -- t122
        refine R.pick .none (.t rfl) .c (.t rfl) ?_  -- t123
        exact WR.nil ⟨rfl, .cons rfl (.cons rfl (.cons rfl (.cons rfl (.cons rfl (.cons rfl (.cons rfl (.cons rfl (.cons rfl (.nil _)))))))))⟩
    rintro E4 q ⟨rfl, hE4⟩
    refine WC.sub hE4 ?_
    refine WC.condB (.t rfl) (fun hc => by cases hc) (fun _ => ?_) -- t123
    refine WC.skip ?_
    refine WC.seq (WC.region ?_)
    refine R.mv .none .c ?_  -- t18
    refine WR.nil ?_
    refine WC.block ?_ -- 4
    refine WC.loop (fun μ E q' => q' = q ∧ ∃ j, μ = l.length - j ∧ j ≤ l.length ∧ Sub [(7, rv), (8, pv), (9, .ptr y 0), (10, .sl xa xo c xc), (11, .int .i64 ((6 * i + j : Nat) : Int)), (12, .int .i64 (i : Int)), (13, kv), (14, tv), (18, .int .i64 (j : Int))] E) (m := l.length)
      ⟨rfl, 0, rfl, by omega, .cons rfl (.cons rfl (.cons rfl (.cons rfl (.cons (by show some _ = some _; congr 2; omega) (.cons rfl (.cons rfl (.cons rfl (.cons rfl (.nil _)))))))))⟩ ?_
    rintro μ E5 q' ⟨rfl, j, rfl, hj, hE5⟩
    refine WC.sub hE5 ?_
    refine WC.seq ?_
    refine WC.seq (WC.region ?_)
    refine R.mv .none (.t rfl) ?_  -- t124
    refine R.mv .none (.t rfl) ?_  -- t125
    refine R.lenSlv .none (.t rfl) hkv ?_  -- t126
    refine R.bin .none (.t rfl) (.t rfl) b_lss ?_  -- t127
    refine WR.nil ?_
    refine WC.condD (.t rfl) (fun hjl => ?_) (fun hjg => ?_) -- t127
    · refine WC.skip ?_
      have hjl' : j < l.length := by omega
      have h6 : 6 * i + j < m := by omega
      obtain ⟨r, hr⟩ : ∃ r, rs[6 * i + j]? = some r := ⟨_, List.getElem?_eq_getElem (by omega)⟩
      obtain ⟨p, hp⟩ : ∃ p, ps[6 * i + j]? = some p := ⟨_, List.getElem?_eq_getElem (by omega)⟩
      have hx6 : its[6 * i + j]? = some (r, p) := by rw [hits, List.getElem?_zip_eq_some]; exact ⟨hr, hp⟩
      have hcj : ch[j]? = some (r, p) := by
        rw [hch, List.getElem?_take, if_pos (by omega), List.getElem?_drop]; exact hx6
      have hlj : l[j]? = some (strip (r, p)) := by rw [hl, List.getElem?_map, hcj]; rfl
      have hkj : (l.map keyT)[j]? = some (r.1, r.2.1, []) := by rw [List.getElem?_map, hlj]; rfl
      have htj : (l.map fun x => x.2)[j]? = some p := by rw [List.getElem?_map, hlj]; rfl
      rcases hkv.2 with ⟨_, h0⟩ | ⟨ka, ko, kc, rfl, ck⟩
      · omega
      rcases htv.2 with ⟨_, h0⟩ | ⟨ta, tO, tc, rfl, ct⟩
      · omega
      rcases H3.r.2 with ⟨_, h0⟩ | ⟨ra, ro, rc, rfl, cr⟩
      · omega
      rcases H3.p.2 with ⟨_, h0⟩ | ⟨pA, po, pc, rfl, cp⟩
      · omega
      have g1 : decide ((rs.length : Int) ≤ ((6 * i + j : Nat) : Int)) = false := decide_eq_false (by omega)
      have g2 : decide ((r.1 : Int) = (r.1 : Int)) = true := by simp
      have g3 : decide ((r.2.1 : Int) = (r.2.1 : Int)) = true := by simp
      have g4 : decide (([] : List UInt8) = []) = true := by simp
      refine WC.seq ?_
      refine WC.block ?_ -- 5
      refine WC.seq ?_
      refine WC.seq (WC.then (fun E q'' => q'' = q' ∧ Sub [(7, .sl ra ro rs.length rc), (8, .sl pA po ps.length pc), (9, .ptr y 0), (10, .sl xa xo c xc), (11, .int .i64 ((6 * i + j : Nat) : Int)), (12, .int .i64 (i : Int)), (13, .sl ka ko l.length kc), (14, .sl ta tO l.length tc), (18, .int .i64 (j : Int)), (178, .bool false)] E) ?_ ?_)
      · refine WC.region ?_
        refine R.mv .none (.t rfl) ?_  -- t130
        refine R.mv .none (.t rfl) ?_  -- t131
        refine R.lenSlv .none (.t rfl) H3.r ?_  -- t132
        refine R.bin .none (.t rfl) (.t rfl) b_geq ?_  -- t133
        rw [g1]
        refine R.mv .none (.t rfl) ?_  -- t134
        refine R.mv (.yes rfl) (.t rfl) ?_  -- t135
        refine R.mv (.yes rfl) (.t rfl) ?_  -- t136
        refine R.iAddr (.yes rfl) (.t rfl) (.t rfl) hjl' ?_  -- t137
        refine R.fAddr (.yes rfl) (.t rfl) ?_  -- t138
        refine R.load (.yes rfl) (.t rfl) (by rw [Nat.add_assoc]; exact ck.one (i := j * 3 + 0) (v := .int .i64 (r.1 : Int)) ((flat_get recV 3 (fun _ => rfl) (l.map keyT) j _ 0 hkj (by omega)).trans rfl)) ?_  -- t139
        refine R.mv (.yes rfl) (.t rfl) ?_  -- t140
        refine R.mv (.yes rfl) (.t rfl) ?_  -- t141
        refine R.iAddr (.yes rfl) (.t rfl) (.t rfl) (by omega) ?_  -- t142
        refine R.fAddr (.yes rfl) (.t rfl) ?_  -- t143
        refine R.load (.yes rfl) (.t rfl) (by rw [Nat.add_assoc]; exact cr.one (i := (6 * i + j) * 3 + 0) (v := .int .i64 (r.1 : Int)) ((flat_get recV 3 (fun _ => rfl) rs (6 * i + j) r 0 hr (by omega)).trans rfl)) ?_  -- t144
        refine R.bin (.yes rfl) (.t rfl) (.t rfl) b_neI ?_  -- t145
        rw [g2]
        refine R.pick .none (.t rfl) .c (.t rfl) ?_  -- t146
        refine R.mv .none (.t rfl) ?_  -- t147
        refine R.mv (.yes rfl) (.t rfl) ?_  -- t148
        refine R.mv (.yes rfl) (.t rfl) ?_  -- t149
        refine R.iAddr (.yes rfl) (.t rfl) (.t rfl) hjl' ?_  -- t150
        refine R.fAddr (.yes rfl) (.t rfl) ?_  -- t151
        refine R.load (.yes rfl) (.t rfl) (by rw [Nat.add_assoc]; exact ck.one (i := j * 3 + 1) (v := .int .i64 (r.2.1 : Int)) ((flat_get recV 3 (fun _ => rfl) (l.map keyT) j _ 1 hkj (by omega)).trans rfl)) ?_  -- t152
        refine R.mv (.yes rfl) (.t rfl) ?_  -- t153
        refine R.mv (.yes rfl) (.t rfl) ?_  -- t154
        refine R.iAddr (.yes rfl) (.t rfl) (.t rfl) (by omega) ?_  -- t155
        refine R.fAddr (.yes rfl) (.t rfl) ?_  -- t156
        refine R.load (.yes rfl) (.t rfl) (by rw [Nat.add_assoc]; exact cr.one (i := (6 * i + j) * 3 + 1) (v := .int .i64 (r.2.1 : Int)) ((flat_get recV 3 (fun _ => rfl) rs (6 * i + j) r 1 hr (by omega)).trans rfl)) ?_  -- t157
        refine R.bin (.yes rfl) (.t rfl) (.t rfl) b_neI ?_  -- t158
        rw [g3]
        refine R.pick .none (.t rfl) .c (.t rfl) ?_  -- t159
        refine R.mv .none (.t rfl) ?_  -- t160
        refine R.mv (.yes rfl) (.t rfl) ?_  -- t161
        refine R.mv (.yes rfl) (.t rfl) ?_  -- t162
        refine R.iAddr (.yes rfl) (.t rfl) (.t rfl) hjl' ?_  -- t163
        refine R.fAddr (.yes rfl) (.t rfl) ?_  -- t164
        refine R.load (.yes rfl) (.t rfl) (by rw [Nat.add_assoc]; exact ck.one (i := j * 3 + 2) (v := .str []) ((flat_get recV 3 (fun _ => rfl) (l.map keyT) j _ 2 hkj (by omega)).trans rfl)) ?_  -- t165
        refine R.bin (.yes rfl) (.t rfl) .c b_neS ?_  -- t166
        rw [g4]
        refine R.pick .none (.t rfl) .c (.t rfl) ?_  -- t167
        refine R.mv .none (.t rfl) ?_  -- t168
        refine R.mv (.yes rfl) (.t rfl) ?_  -- t169
        refine R.mv (.yes rfl) (.t rfl) ?_  -- t170
        refine R.iAddr (.yes rfl) (.t rfl) (.t rfl) hjl' ?_  -- t171
        refine R.load (.yes rfl) (.t rfl) (ct.agg (flat_agg ptrV 2 (fun _ => rfl) htj) rfl) ?_  -- t172
        refine R.mv (.yes rfl) (.t rfl) ?_  -- t173
        refine R.mv (.yes rfl) (.t rfl) ?_  -- t174
        refine R.iAddr (.yes rfl) (.t rfl) (.t rfl) (by omega) ?_  -- t175
        refine R.load (.yes rfl) (.t rfl) (cp.agg (flat_agg ptrV 2 (fun _ => rfl) hp) rfl) ?_  -- t176
        refine R.bin (.yes rfl) (.t rfl) (.t rfl) (agg_ptr _ _ _ _) ?_  -- t177
        rw [natPair]
        rw [decide_eq_true (rfl : p = p)]
        refine R.pick .none (.t rfl) .c (.t rfl) ?_  -- t178
        exact WR.nil ⟨rfl, .cons rfl (.cons rfl (.cons rfl (.cons rfl (.cons rfl (.cons rfl (.cons rfl (.cons rfl (.cons rfl (.cons rfl (.nil _))))))))))⟩
      rintro E6 q'' ⟨rfl, hE6⟩
      refine WC.sub hE6 ?_
      refine WC.condB (.t rfl) (fun hc => by cases hc) (fun _ => ?_) -- t178
      refine WC.skip ?_
      refine WC.region ?_
      refine R.mv .none (.t rfl) ?_  -- t179
      refine R.bin .none (.t rfl) .c (b_add (by omega) (by omega)) ?_  -- t180
      refine R.mv .none (.t rfl) ?_  -- t11
      refine WR.nil ?_
      refine WC.region ?_
      refine R.mv .none (.t rfl) ?_  -- t128
      refine R.bin .none (.t rfl) .c (b_add (by omega) (by omega)) ?_  -- t129
      refine R.mv .none (.t rfl) ?_  -- t18
      refine WR.nil ?_
      exact ⟨l.length - (j + 1), by omega, rfl, j + 1, rfl, by omega, .cons rfl (.cons rfl (.cons rfl (.cons rfl (.cons rfl (.cons rfl (.cons rfl (.cons rfl (.cons rfl (.nil _)))))))))⟩
    · refine WC.exit ?_ -- 4
      show WC F _ _ _ _ _
      obtain rfl : j = l.length := by omega
      refine WC.region ?_
      refine R.mv .none (.t rfl) ?_  -- t76
      refine R.bin .none (.t rfl) .c (b_add (by omega) (by omega)) ?_  -- t77
      refine R.mv .none (.t rfl) ?_  -- t12
      refine WR.nil ?_
      refine ⟨c - (i + 1), by omega, i + 1, rfl, by omega, H3, .cons rfl (.cons rfl (.cons rfl (.cons rfl (.cons ?_ (.cons rfl (.nil _))))))⟩
      show some _ = some _
      congr 2
      omega
  · refine WC.exit ?_ -- 2
    show WC F _ _ _ _ _
    obtain rfl : i = c := by omega
    refine WC.sub (E' := [(7, rv), (8, pv), (9, .ptr y 0), (11, .int .i64 (ps.length : Int))]) (.cons rfl (.cons rfl (.cons rfl (.cons ?_ (.nil _))))) ?_
    · show some _ = some _
      congr 2
      omega
    · exact end_ok fs Hk hm hrp hpok hK z1 z2 z3 z4

set_option maxHeartbeats 4000000 in
theorem back_ok (fs : Fs F) {v1 v2 v3 : V} {l1 l2 l3 : List UInt8} {h : Hp} (w : WF h) (hl1 : Sl h v1 1 l1.length (l1.map byteV)) (hl2 : Sl h v2 1 l2.length (l2.map byteV)) (hl3 : Sl h v3 1 l3.length (l3.map byteV)) :
    WC F ⟨4, 248, false, none⟩ b4 [(0, v1), (1, v2), (2, v3)] h (fnPost [(pa 6, none)] (fun v _ => v = .bool true) (fun _ _ => False)) := by
  refine WC.seq (WC.region ?_)
  refine R.mv .none .c ?_  -- t6
  refine WR.nil ?_
  have c5 : CallE F 5 [] h (.bool true) h := said_intr fs.h5 rfl
  refine WC.seq ?_
  refine WC.seq (WC.region ?_)
  refine R.call .none .nil c5 ?_  -- t31
  refine R.un .none (.t rfl) rfl ?_  -- t32
  refine WR.nil ?_
  refine WC.condB (.t rfl) (fun hc => by cases hc) (fun _ => ?_) -- t32
  refine WC.skip ?_
  refine WC.seq ?_
  refine WC.seq (WC.then (fun E k => k = h ∧ Sub [(0, v1), (1, v2), (2, v3), (45, .bool (decide (20 < l1.length) || decide (60 < l2.length) || decide (8 < l3.length)))] E) ?_ ?_)
  · refine WC.region ?_
    have d1 : decide ((20 : Int) < ((l1.length : Nat) : Int)) = decide (20 < l1.length) := decide_eq_decide.2 (by omega)
    have d2 : decide ((60 : Int) < ((l2.length : Nat) : Int)) = decide (60 < l2.length) := decide_eq_decide.2 (by omega)
    have d3 : decide ((8 : Int) < ((l3.length : Nat) : Int)) = decide (8 < l3.length) := decide_eq_decide.2 (by omega)
    refine R.mv .none (.t rfl) ?_  -- t33
    refine R.lenSlv .none (.t rfl) hl1 ?_  -- t34
    refine R.bin .none (.t rfl) .c b_gtr ?_  -- t35
    rw [d1]
    refine R.mv .none (.t rfl) ?_  -- t36
    cases decide (20 < l1.length) with
    | true =>
      refine R.no (.no rfl rfl) ?_
      refine R.no (.no rfl rfl) ?_
      refine R.no (.no rfl rfl) ?_
      refine R.pick .none (.t rfl) .c (.t rfl) ?_  -- t40
      refine R.mv .none (.t rfl) ?_  -- t41
      refine R.no (.no rfl rfl) ?_
      refine R.no (.no rfl rfl) ?_
      refine R.no (.no rfl rfl) ?_
      refine R.pick .none (.t rfl) .c (.t rfl) ?_  -- t45
      exact WR.nil ⟨rfl, .cons rfl (.cons rfl (.cons rfl (.cons rfl (.nil _))))⟩
    | false =>
      refine R.mv (.yes rfl) (.t rfl) ?_  -- t37
      refine R.lenSlv (.yes rfl) (.t rfl) hl2 ?_  -- t38
      refine R.bin (.yes rfl) (.t rfl) .c b_gtr ?_  -- t39
      rw [d2]
      refine R.pick .none (.t rfl) .c (.t rfl) ?_  -- t40
      refine R.mv .none (.t rfl) ?_  -- t41
      cases decide (60 < l2.length) with
      | true =>
        refine R.no (.no rfl rfl) ?_
        refine R.no (.no rfl rfl) ?_
        refine R.no (.no rfl rfl) ?_
        refine R.pick .none (.t rfl) .c (.t rfl) ?_  -- t45
        exact WR.nil ⟨rfl, .cons rfl (.cons rfl (.cons rfl (.cons rfl (.nil _))))⟩
      | false =>
        refine R.mv (.yes rfl) (.t rfl) ?_  -- t42
        refine R.lenSlv (.yes rfl) (.t rfl) hl3 ?_  -- t43
        refine R.bin (.yes rfl) (.t rfl) .c b_gtr ?_  -- t44
        rw [d3]
        refine R.pick .none (.t rfl) .c (.t rfl) ?_  -- t45
        exact WR.nil ⟨rfl, .cons rfl (.cons rfl (.cons rfl (.cons rfl (.nil _))))⟩
  rintro E k ⟨rfl, hE⟩
  refine WC.sub hE ?_
  refine WC.condB (.t rfl) (fun hc => ?_) (fun hc => ?_) -- t45
  · refine WC.seq (WC.region ?_)
    refine R.mv .none .c ?_
    refine WR.nil ?_
    refine WC.ret ?_
    exact ⟨_, .t rfl .nil, rfl⟩
  simp only [Bool.or_eq_false_iff, decide_eq_false_iff_not] at hc
  obtain ⟨⟨b1, b2⟩, b3⟩ := hc
  refine WC.skip ?_
  -- records, pointers
  obtain ⟨rv, h1, o1, r1, r2, r3, r4⟩ := recs_ok fs w hl1 (by omega)
  refine WC.seq (WC.region ?_)
  refine R.mv .none (.t rfl) ?_  -- t46
  refine R.call .none (.cons (.t rfl) .nil) r1 ?_  -- t47
  refine R.mv .none (.t rfl) ?_  -- t7
  refine WR.nil ?_
  have hl2a := hl2.ext r4 w (Nat.le_refl _)
  have hl3a := hl3.ext r4 w (Nat.le_refl _)
  obtain ⟨h2, m1, m2, m3, m4⟩ := Made_ok fs r4.wf hl2a
  obtain ⟨pv0, h3, o2, p1, p2, p3, p4⟩ := PtrsM_ok fs (most := 20) (n := 0) m3.wf m2 (hl2a.ext m3 r4.wf (Nat.le_refl _)) (fun b o n c e => paNe (by have := hl2a.inB r4.wf b o n c e; omega)) (by omega) (by omega) (by omega)
  refine WC.seq (WC.region ?_)
  refine R.mv .none (.t rfl) ?_  -- t48
  refine R.call .none (.cons (.t rfl) .nil) m1 ?_  -- t49
  refine R.call .none (.cons (.t rfl) (.cons .c .nil)) p1 ?_  -- t50
  refine R.mv .none (.t rfl) ?_  -- t8
  refine WR.nil ?_
  have kP : Keep h1.next.toNat h1 h3 := Frm.made m3 (Nat.le_refl _) p4
  have hc0 := numP_lt l2 (m := 20 + 1) (by omega) 0
  have n3 := m3.next
  refine WC.seq ?_
  refine WC.block ?_ -- 0
  refine WC.loop (fun μ E q => ∃ (acc : List (Nat × Nat)) (ov : V) (o : Option Pa), μ = l1.length - acc.length ∧ acc.length ≤ 20 ∧ (∀ p, p ∈ acc → PtrOk p) ∧ Own q ov 2 acc.length (ptrsV acc) o ∧ (∀ b, o = some b → h1.next.toNat ≤ b.toNat) ∧ Keep h1.next.toNat h1 q ∧
      Sub [(2, v3), (7, rv), (8, ov)] E) (m := l1.length - (numP l2 (20 + 1) 0).1)
    ⟨ptrsM l2 (numP l2 (20 + 1) 0).1 (numP l2 (20 + 1) 0).2, pv0, o2, by rw [ptrsM_len], by rw [ptrsM_len]; omega, ptrsM_ok l2 _ _, by rw [ptrsM_len]; exact p2, (fun b hb => by have := p3 b hb; omega), kP, .cons rfl (.cons rfl (.cons rfl (.nil _)))⟩ ?_
  rintro μ E q ⟨acc, ov, o, rfl, ha20, hok, ho, hob, hk, hE⟩
  refine WC.sub hE ?_
  have hrq := r2.sl.ext hk r4.wf (Nat.le_refl _)
  have wq := hk.wf
  refine WC.seq ?_
  refine WC.seq (WC.region ?_)
  refine R.mv .none (.t rfl) ?_  -- t51
  refine R.lenSlv .none (.t rfl) ho.sl ?_  -- t52
  refine R.mv .none (.t rfl) ?_  -- t53
  refine R.lenSlv .none (.t rfl) hrq ?_  -- t54
  refine R.bin .none (.t rfl) (.t rfl) b_lss ?_  -- t55
  refine WR.nil ?_
  refine WC.condD (.t rfl) (fun hlt => ?_) (fun hge => ?_) -- t55
  · refine WC.skip ?_
    obtain ⟨p, hp⟩ : ∃ p : Nat × Nat, p = (acc.length, 1) := ⟨_, rfl⟩
    have k4 := Keep.made wq (.cells (ptrV p) false)
    have ho4 := Own.keep wq ho k4
    have s4 : Sl (q.alloc (.cells (ptrV p) false)) (.sl q.next 0 1 (.ex 1)) 2 1 (ptrV p) := ⟨rfl, .inr ⟨q.next, 0, .ex 1, rfl, .of (get_alloc_self q _) rfl⟩⟩
    obtain ⟨h5, f1, f2, f3, f4, f5⟩ := ho4.app k4.wf (by omega) (by omega) s4.src.1 s4.src.2 rfl rfl (by omega)
    have n4 := k4.next
    have nk := hk.next
    subst hp
    refine WC.block (WC.region ?_)
    refine R.mv .none (.t rfl) ?_  -- t56
    refine R.mv .none (.t rfl) ?_  -- t57
    refine R.lenSlv .none (.t rfl) ho.sl ?_  -- t58
    refine R.build .none (.cons (.t rfl) rfl rfl rfl (.cons .c rfl rfl rfl .nil)) ?_  -- t59
    refine R.buildSl .none (.cons (.t rfl) rfl rfl rfl .nil) rfl ?_  -- t60
    refine R.app .none (.t rfl) (.t rfl) f1 ?_  -- t61
    refine R.mv .none (.t rfl) ?_  -- t8
    refine WR.nil ?_
    refine ⟨l1.length - (acc ++ [(acc.length, 1)]).length, by simp; omega, acc ++ [(acc.length, 1)], _, some (q.alloc (.cells (ptrV (acc.length, 1)) false)).next, rfl, by simp; omega, ?_, ?_, ?_, ?_, .cons rfl (.cons rfl (.cons rfl (.nil _)))⟩
    · intro p hp
      rw [List.mem_append, List.mem_singleton] at hp
      rcases hp with hp | rfl
      · exact hok p hp
      · exact ⟨by show acc.length < 65536; omega, by show 1 ≤ 1073741824; omega⟩
    · have : ptrsV (acc ++ [(acc.length, 1)]) = ptrsV acc ++ ptrV (acc.length, 1) := by simp [ptrsV]
      rw [this, List.length_append]
      exact f2
    · intro b hb; injection hb with hb; subst hb; omega
    · refine ⟨by omega, fun x hx => ?_, f3⟩
      rw [f5 x (by omega) (fun e => by have := hob x e.symm; omega), k4.old x (by omega), hk.old x hx]
  · refine WC.exit ?_ -- 0
    show WC F _ _ _ _ _
    have hge' : l1.length ≤ acc.length := by omega
    obtain ⟨pv, s1, s2, s3, s4⟩ := cut_hi ho.sl ho.capOk hge'
    have ht : (ptrsV acc).take (l1.length * 2) = ptrsV (acc.take l1.length) := flat_take ptrV 2 (fun _ => rfl) acc l1.length
    rw [ht] at s2
    obtain ⟨ps, hps⟩ : ∃ ps, ps = acc.take l1.length := ⟨_, rfl⟩
    rw [← hps] at s2
    have hpl : ps.length = l1.length := by rw [hps, List.length_take]; omega
    have hpok : ∀ p, p ∈ ps → PtrOk p := fun p hp => hok p (List.mem_of_mem_take (hps ▸ hp))
    refine WC.seq (WC.region ?_)
    refine R.mv .none (.t rfl) ?_  -- t62
    refine R.mv .none (.t rfl) ?_  -- t63
    refine R.lenSlv .none (.t rfl) hrq ?_  -- t64
    refine R.slice .none (.t rfl) .none (.some (.t rfl)) .none s1 ?_  -- t65
    refine R.mv .none (.t rfl) ?_  -- t8
    refine WR.nil ?_
    -- the root
    have hl3q := hl3a.ext hk r4.wf (Nat.le_refl _)
    obtain ⟨h4, t1, t2, t3, t4⟩ := Made_ok fs wq hl3q
    have hl34 := hl3q.ext t3 wq (Nat.le_refl _)
    obtain ⟨h5, u1, u2⟩ := RootM_ok fs (n := 0) t3.wf t2 hl34 (fun b o n c e => paNe (by have := hl3q.inB wq b o n c e; omega)) (by omega) (by omega)
    have kR : Keep q.next.toNat q h5 := Frm.made t3 (Nat.le_refl _) u2
    obtain ⟨K, hK⟩ : ∃ K, K = 1 + (rM1 l3 0).1 := ⟨_, rfl⟩
    have y1 := numP_lt l3 (m := 3) (by omega) 0
    have hK256 : K < 256 := by rw [hK]; show 1 + (numP l3 3 0).1 < 256; omega
    have y2 := numP_lt l3 (m := 300) (by omega) (rM1 l3 0).2
    have y3 := numP_lt l3 (m := 9) (by omega) (rM2 l3 0).2
    have y4 := numP_lt l3 (m := 2) (by omega) (rM3 l3 0).2
    have y5 := numP_lt l3 (m := 200) (by omega) (rM4 l3 0).2
    obtain ⟨n1, hn1⟩ : ∃ n1, n1 = (rM2 l3 0).1 := ⟨_, rfl⟩
    obtain ⟨n2, hn2⟩ : ∃ n2, n2 = 65536 + (rM3 l3 0).1 := ⟨_, rfl⟩
    obtain ⟨n4, hn4⟩ : ∃ n4, n4 = (rM4 l3 0).1 * 65537 := ⟨_, rfl⟩
    obtain ⟨n5, hn5⟩ : ∃ n5, n5 = (rM5 l3 0).1 := ⟨_, rfl⟩
    have z1 : n1 ≤ 1073741824 := by rw [hn1]; show (numP l3 300 (rM1 l3 0).2).1 ≤ _; omega
    have z2 : n2 ≤ 1073741824 := by rw [hn2]; show 65536 + (numP l3 9 (rM2 l3 0).2).1 ≤ _; omega
    have z4 : n4 ≤ 1073741824 := by rw [hn4]; show (numP l3 2 (rM3 l3 0).2).1 * 65537 ≤ _; omega
    have z5 : n5 ≤ 1073741824 := by rw [hn5]; show (numP l3 200 (rM4 l3 0).2).1 ≤ _; omega
    rw [← hK, ← hn1, ← hn2, ← hn4, ← hn5] at u1
    have hr5 := hrq.ext kR wq (Nat.le_refl _)
    have hp5 := s2.ext kR wq (Nat.le_refl _)
    refine WC.cut (fun E k => ∃ y, Keep h5.next.toNat h5 k ∧ k.get y = some (.cells (rcV K [n1, n2, n4, n5]) false) ∧ Sub [(7, rv), (8, pv), (9, .ptr y 0)] E) ?_ ?_
    · refine WC.region ?_
      refine R.mv .none (.t rfl) ?_  -- t66
      refine R.call .none (.cons (.t rfl) .nil) t1 ?_  -- t67
      refine R.call .none (.cons (.t rfl) .nil) u1 ?_  -- t68
      refine R.alloc .none ?_  -- t9
      refine R.store .none (.t rfl) (.t rfl) rfl (storeN_of (get_alloc_self _ _) rfl rfl) ?_
      exact WR.nil ⟨_, Upd.made u2.wf (.put (u2.wf.alloc _) (get_alloc_self _ _) _), get_put_self _ _ _, .cons rfl (.cons rfl (.cons rfl (.nil _)))⟩
    rintro E6 h6 ⟨y, k6, g6, hE6⟩
    refine WC.sub hE6 ?_
    have hr6 := hr5.ext k6 u2.wf (Nat.le_refl _)
    have hp6 := hp5.ext k6 u2.wf (Nat.le_refl _)
    obtain ⟨rs, hrs⟩ : ∃ rs, rs = l1.map recM := ⟨_, rfl⟩
    have hrl : rs.length = l1.length := by rw [hrs, List.length_map]
    have hrok : ∀ r, r ∈ rs → r.1 < 256 ∧ r.2.1 < 256 := by
      intro r hr
      rw [hrs, List.mem_map] at hr
      obtain ⟨b, _, rfl⟩ := hr
      have := UInt8.toNat_lt b
      show 1 + b.toNat % 9 < 256 ∧ b.toNat / 64 < 256
      omega
    rw [← hrs, ← hrl] at hr6
    rw [← hpl] at hp6
    obtain ⟨xv, h7, o7, i1, i2, i3, i4⟩ := Index_ok fs (gen := 9) k6.wf (hrl.trans hpl.symm) hr6 r2.capOk hp6 (by omega) (hr6.inB k6.wf) (hp6.inB k6.wf)
    refine WC.seq (WC.region ?_)
    refine R.mv .none (.t rfl) ?_  -- t69
    refine R.mv .none (.t rfl) ?_  -- t70
    refine R.call .none (.cons .c (.cons (.t rfl) (.cons (.t rfl) .nil))) i1 ?_  -- t71
    refine R.mv .none (.t rfl) ?_  -- t10
    refine WR.nil ?_
    have H : Half h7 rv pv xv y rs ps K [n1, n2, n4, n5] := ⟨i4.wf, hr6.ext i4 k6.wf (Nat.le_refl _), hp6.ext i4 k6.wf (Nat.le_refl _), s3, i2.sl, i4.at (k6.wf.lt g6) g6⟩
    have hm20 : ps.length ≤ 20 := by omega
    have hrp : rs.length = ps.length := hrl.trans hpl.symm
    refine WC.sub (E' := [(7, rv), (8, pv), (9, .ptr y 0), (10, xv)]) (.cons rfl (.cons rfl (.cons rfl (.cons rfl (.nil _))))) ?_
    exact half_ok fs H hm20 hrp hrok hpok hK256 z1 z2 z4 z5
end Go.Ev.Root
