/- RootBack: what the functions do, said for all arguments -/
import Derived.Test.YtilaoinonapokaaWC
namespace Go.Ev.Root
open Go.Ev
variable {F : Nat → Option FnI}
/-! the index's blocks read -/
abbrev IxT := (Nat × Nat) × (Nat × Nat)
def ixItemS (s : RS') : IxT × RS' := ((((numS 1 s).1, (numS 1 (numS 1 s).2).1), (ptrS (numS 1 (numS 1 s).2).2).1), (ptrS (numS 1 (numS 1 s).2).2).2)
def ixL : Nat → RS' → List IxT × RS'
  | 0, s => ([], s)
  | n + 1, s => bif decide (0 < s.1.length) && !s.2 then ((ixItemS s).1 :: (ixL n (ixItemS s).2).1, (ixL n (ixItemS s).2).2) else ([], s)
def ixS (load : List UInt8) : List IxT × RS' := ixL load.length (load, false)
def keyT (x : IxT) : RecT := (x.1.1, x.1.2, [])
def itT (x : IxT) : RecT × (Nat × Nat) := (keyT x, x.2)
def indexT (gen : Int) (its : List (RecT × (Nat × Nat))) (c : Nat) : List BlkT := (List.range c).map fun j => doneT 2 gen (((its.drop (6 * j)).take 6).flatMap ixItem) (genBad gen || ((its.drop (6 * j)).take 6).any ixBad)
theorem indexV_T (gen : Int) (its : List (RecT × (Nat × Nat))) (c : Nat) : indexV gen its c = bsV (indexT gen its c) := by
  simp only [indexV, bsV, indexT, List.flatMap_map]
  congr 1
  funext j
  exact doneV_T _ _ _ _
def ixOk (kind gen : Int) (load : List UInt8) : Bool := !((ixS load).2.2 || !decide (kind = 2) || !decide (indexT gen ((ixS load).1.map itT) (((ixS load).1.length + 5) / 6) = [(kind, gen, load)]))
theorem numS_len (n : Nat) (s : RS') : (numS n s).2.1.length ≤ s.1.length := by
  unfold numS
  split
  · exact Nat.le_refl _
  · show (s.1.drop n).length ≤ _
    rw [List.length_drop]; omega
theorem ixItemS_len (s : RS') (hs : 0 < s.1.length) (hb : s.2 = false) : (ixItemS s).2.1.length < s.1.length := by
  have h1 : (numS 1 s).2.1.length < s.1.length := by
    unfold numS
    have h0 : (s.2 || decide (s.1.length < 1)) = false := by rw [hb, decide_eq_false (by omega)]; rfl
    rw [if_neg (by rw [h0]; simp)]
    show (s.1.drop 1).length < _
    rw [List.length_drop]; omega
  have h2 := numS_len 1 (numS 1 s).2
  have h3 := numS_len 2 (numS 1 (numS 1 s).2).2
  have h4 := numS_len 4 (numS 2 (numS 1 (numS 1 s).2).2).2
  show (ptrS (numS 1 (numS 1 s).2).2).2.1.length < _
  show (numS 4 (numS 2 (numS 1 (numS 1 s).2).2).2).2.1.length < _
  omega
theorem zip_its (l : List IxT) : (l.map keyT).zip (l.map fun x => x.2) = l.map itT := by
  induction l with
  | nil => rfl
  | cons a l ih => simp only [List.map_cons, List.zip_cons_cons, ih]; rfl

theorem TakeIndex_ok (fs : Fs F) {kind gen : Int} {load : List UInt8} {h : Hp} (w : WF h) (hll : load.length ≤ 1000) :
    ∃ kv pv h' l, CallE F 14 [.agg (blkV kind gen load)] h (.tup [kv, pv, .bool (ixOk kind gen load)]) h' ∧ Sl h' kv 3 l.length (recsV (l.map keyT)) ∧ Sl h' pv 2 l.length (ptrsV (l.map fun x => x.2)) ∧ InB kv (fun a => h.next.toNat ≤ a.toNat) ∧ InB pv (fun a => h.next.toNat ≤ a.toNat) ∧ Keep h.next.toNat h h' ∧
      (ixOk kind gen load = true → l = (ixS load).1) := by
  suffices hs : Said F 14 [.agg (blkV kind gen load)] h (fun t h' => ∃ kv pv l, t = .tup [kv, pv, .bool (ixOk kind gen load)] ∧ Sl h' kv 3 l.length (recsV (l.map keyT)) ∧ Sl h' pv 2 l.length (ptrsV (l.map fun x => x.2)) ∧ InB kv (fun a => h.next.toNat ≤ a.toNat) ∧ InB pv (fun a => h.next.toNat ≤ a.toNat) ∧ Keep h.next.toNat h h' ∧
      (ixOk kind gen load = true → l = (ixS load).1)) (fun _ _ => False) by
    obtain ⟨t, h', h1, kv, pv, l, rfl, h3⟩ := hs.ret
    exact ⟨kv, pv, h', l, h1, h3⟩
  refine said_of fs.h14 ?_
  show WC F _ b14 [(0, .agg (blkV kind gen load))] h _
  refine WC.cut (fun E k => WF k ∧ k.get h.next = some (.cells (blkV kind gen load) false) ∧ Keep h.next.toNat h k ∧ k.next.toNat = h.next.toNat + 1 ∧ Sub [(1, .ptr h.next 0), (2, .no .sl), (3, .no .sl)] E) ?_ ?_
  · refine WC.region ?_
    refine R.box .none (.t rfl) rfl ?_  -- t1
    refine R.mv .none .c ?_  -- t2
    refine R.mv .none .c ?_  -- t3
    refine R.mv .none .c ?_  -- t4
    exact WR.nil ⟨w.alloc _, get_alloc_self _ _, Keep.made w _, next_alloc _ _, .cons rfl (.cons rfl (.cons rfl (.nil _)))⟩
  rintro E k ⟨w1, g1, k1, x1, hE⟩
  refine WC.sub hE ?_
  refine WC.cut (fun E k' => ∃ a, Rd k.next k' a (load, false) ∧ a.toNat = k.next.toNat + 1 ∧ Keep k.next.toNat k k' ∧ k.next.toNat + 2 ≤ k'.next.toNat ∧ Sub [(1, .ptr h.next 0), (2, .no .sl), (3, .no .sl), (5, .ptr a 0)] E) ?_ ?_
  · refine WC.region ?_
    refine R.fAddr .none (.t rfl) ?_
    refine R.load .none (.t rfl) ((Cells.of g1 rfl).one (i := 2) rfl) ?_
    refine R.convBytes .none (.t rfl) ?_
    refine R.build .none (.cons (.t rfl) rfl rfl rfl .nil) ?_
    refine R.box .none (.t rfl) rfl ?_
    refine R.mv .none (.t rfl) ?_
    have w2 := w1.alloc (.cells (load.map byteV) false)
    have x2 : (k.alloc (.cells (load.map byteV) false)).next.toNat = k.next.toNat + 1 := next_alloc k (.cells (load.map byteV) false)
    have s2 : Sl (k.alloc (.cells (load.map byteV) false)) (.sl k.next 0 load.length (.un 1)) 1 load.length (load.map byteV) := ⟨by simp, .inr ⟨k.next, 0, .un 1, rfl, .of (get_alloc_self k _) rfl⟩⟩
    have k3 := Keep.made w2 (.cells [.sl k.next 0 load.length (.un 1), .bool false] false)
    exact WR.nil ⟨(k.alloc (.cells (load.map byteV) false)).next, ⟨_, get_alloc_self _ _, s2.ext k3 w2 (Nat.le_refl _), rfl, fun a o n c e => by cases e; exact ⟨paNe (by omega), rfl⟩⟩, x2,
      (Keep.made w1 _).trans (k3.less (by omega)), by show _ ≤ (Heap.alloc _ _).next.toNat; rw [next_alloc, x2]; exact Nat.le_refl _, .cons rfl (.cons rfl (.cons rfl (.cons rfl (.nil _))))⟩
  rintro E' k2 ⟨a, r2, ha, kk2, hn2, hE'⟩
  refine WC.sub hE' ?_
  refine WC.seq ?_
  refine WC.block ?_ -- 0
  refine WC.loop (fun μ E q => ∃ (acc : List IxT) (s' : RS') (kv pv : V) (o1 o2 : Option Pa), acc.length + μ ≤ load.length ∧ s'.1.length ≤ μ ∧ ixS load = (acc ++ (ixL μ s').1, (ixL μ s').2) ∧ Own q kv 3 acc.length (recsV (acc.map keyT)) o1 ∧ Own q pv 2 acc.length (ptrsV (acc.map fun x => x.2)) o2 ∧
      (∀ b, o1 = some b → k2.next.toNat ≤ b.toNat) ∧ (∀ b, o2 = some b → k2.next.toNat ≤ b.toNat) ∧ (∀ b, o1 = some b → o2 ≠ some b) ∧ Rd k.next q a s' ∧ Frm a k2 q ∧
      Sub [(1, .ptr h.next 0), (2, kv), (3, pv), (5, .ptr a 0)] E) (m := load.length)
    ⟨[], (load, false), .no .sl, .no .sl, none, none, by simp, Nat.le_refl _, rfl, Own.none _ 3, Own.none _ 2, (fun _ e => by cases e), (fun _ e => by cases e), (fun _ e => by cases e), r2, Frm.refl kk2.wf, .cons rfl (.cons rfl (.cons rfl (.cons rfl (.nil _))))⟩ ?_
  rintro μ E q ⟨acc, s', kv, pv, o1, o2, hlen, hsl, hS, hk, hp, hb1, hb2, hb12, hr, hf, hE⟩
  refine WC.sub hE ?_
  have wq := hf.wf
  have nf := hf.next
  refine WC.seq ?_
  refine WC.seq (WC.then (fun E q' => q' = q ∧ Sub [(1, .ptr h.next 0), (2, kv), (3, pv), (5, .ptr a 0), (25, .bool (decide (0 < s'.1.length) && !s'.2))] E) ?_ ?_)
  · obtain ⟨rv, g, rs, _⟩ := hr
    refine WC.region ?_
    refine R.mv .none (.t rfl) ?_  -- t13
    refine R.nil? .none (.t rfl) ?_  -- t14
    refine R.fAddr .none (.t rfl) ?_  -- t15
    refine R.load .none (.t rfl) ((Cells.of g rfl).one (i := 0) rfl) ?_  -- t16
    refine R.lenSlv .none (.t rfl) rs ?_  -- t17
    refine R.bin .none (.t rfl) .c b_gtr ?_  -- t18
    refine R.mv .none (.t rfl) ?_  -- t19
    by_cases h0 : 0 < s'.1.length
    · have hd : decide ((0 : Int) < (s'.1.length : Int)) = true := decide_eq_true (by omega)
      have hd' : decide (0 < s'.1.length) = true := decide_eq_true h0
      rw [hd, hd']
      refine R.mv (.yes rfl) (.t rfl) ?_  -- t20
      refine R.nil? (.yes rfl) (.t rfl) ?_  -- t21
      refine R.fAddr (.yes rfl) (.t rfl) ?_  -- t22
      refine R.load (.yes rfl) (.t rfl) ((Cells.of g rfl).one (i := 1) rfl) ?_  -- t23
      refine R.un (.yes rfl) (.t rfl) rfl ?_  -- t24
      refine R.pick .none (.t rfl) (.t rfl) .c ?_  -- t25
      exact WR.nil ⟨rfl, .cons rfl (.cons rfl (.cons rfl (.cons rfl (.cons rfl (.nil _)))))⟩
    · have hd : decide ((0 : Int) < (s'.1.length : Int)) = false := decide_eq_false (by omega)
      have hd' : decide (0 < s'.1.length) = false := decide_eq_false h0
      rw [hd, hd']
      refine R.no (.no rfl rfl) ?_
      refine R.no (.no rfl rfl) ?_
      refine R.no (.no rfl rfl) ?_
      refine R.no (.no rfl rfl) ?_
      refine R.no (.no rfl rfl) ?_
      refine R.pick .none (.t rfl) (.t rfl) .c ?_  -- t25
      exact WR.nil ⟨rfl, .cons rfl (.cons rfl (.cons rfl (.cons rfl (.cons rfl (.nil _)))))⟩
  rintro E'' q' ⟨rfl, hE''⟩
  refine WC.sub hE'' ?_
  refine WC.condB (.t rfl) (fun hc => ?_) (fun hc => ?_) -- t25
  · refine WC.skip ?_
    have hcc := hc
    rw [Bool.and_eq_true] at hc
    have hs0 : 0 < s'.1.length := of_decide_eq_true hc.1
    have hs2 : s'.2 = false := by simpa using hc.2
    obtain ⟨ν, rfl⟩ : ∃ ν, μ = ν + 1 := ⟨μ - 1, by omega⟩
    have hdec := ixItemS_len s' hs0 hs2
    -- two numbers
    obtain ⟨h3, c1, c2, c3⟩ := num_ok fs (n := 1) wq hr (by omega) (by omega)
    obtain ⟨h4, d1, d2, d3⟩ := num_ok fs (n := 1) c3.wf c2 (by omega) (by omega)
    have f34 := c3.trans d3
    have n4 := f34.next
    refine WC.block ?_ -- 1
    refine WC.seq (WC.region ?_)
    refine R.mv .none (.t rfl) ?_  -- t26
    refine R.call .none (.cons (.t rfl) (.cons .c .nil)) c1 ?_  -- t27
    refine R.mv .none (.t rfl) ?_  -- t28
    refine R.call .none (.cons (.t rfl) (.cons .c .nil)) d1 ?_  -- t29
    refine R.mv .none (.t rfl) ?_  -- t6
    refine R.mv .none (.t rfl) ?_  -- t7
    refine WR.nil ?_
    -- the key put behind
    have a2 := r2.lt kk2.wf
    have hne1 : o1 ≠ some a := fun e => by have := hb1 a e; omega
    have hne2 : o2 ≠ some a := fun e => by have := hb2 a e; omega
    obtain ⟨key, hkey⟩ : ∃ key : RecT, key = ((numS 1 s').1, (numS 1 (numS 1 s').2).1, []) := ⟨_, rfl⟩
    have k5 := Keep.made f34.wf (.cells (recV key) false)
    have hk5 := Own.keep f34.wf (Own.frm wq hk f34 hne1) k5
    have hp5 := Own.keep f34.wf (Own.frm wq hp f34 hne2) k5
    have s5 : Sl (h4.alloc (.cells (recV key) false)) (.sl h4.next 0 1 (.ex 1)) 3 1 (recV key) := ⟨rfl, .inr ⟨h4.next, 0, .ex 1, rfl, .of (get_alloc_self h4 _) rfl⟩⟩
    have x5 : (h4.alloc (.cells (recV key) false)).next.toNat = h4.next.toNat + 1 := next_alloc _ _
    obtain ⟨h6, e1, e2, e3, e4, e5⟩ := hk5.app k5.wf (by omega) (by omega) s5.src.1 s5.src.2 rfl rfl (by omega)
    have r5 := d2.keep f34.wf k5
    have hkn := kk2.next
    have r6 : Rd k.next h6 a (numS 1 (numS 1 s').2).2 := by
      obtain ⟨v, q1, q2, q3, q4⟩ := r5
      have hav : ∀ x : Pa, x = k.next ∨ x = a → h6.get x = (h4.alloc (.cells (recV key) false)).get x := fun x hx => e5 x (by rcases hx with rfl | rfl <;> omega) (fun e => by have := hb1 x e.symm; rcases hx with rfl | rfl <;> omega)
      refine ⟨v, by rw [hav a (.inr rfl)]; exact q1, ⟨q2.1, ?_⟩, q3, q4⟩
      rcases q2.2 with q | ⟨la, lo, lc, rfl, l, q5, q6⟩
      · exact .inl q
      · exact .inr ⟨la, lo, lc, rfl, l, by rw [cells_get (hav la (.inl (q4 la lo _ lc rfl).2))]; exact q5, q6⟩
    have hp6 : Own h6 pv 2 acc.length (ptrsV (acc.map fun x => x.2)) o2 := hp5.same fun b hb => e5 b (by subst hb; have := hp5.lt k5.wf; exact this) (fun e => hb12 b e.symm hb)
    -- the pointer
    obtain ⟨h7, i1, i2, i3⟩ := ptr_ok fs e3 r6 (by omega)
    have n7 := i3.next
    obtain ⟨ptr, hptr⟩ : ∃ ptr, ptr = (ptrS (numS 1 (numS 1 s').2).2).1 := ⟨_, rfl⟩
    rw [← hptr] at i1
    have k8 := Keep.made i3.wf (.cells (ptrV ptr) false)
    have x8 : (h7.alloc (.cells (ptrV ptr) false)).next.toNat = h7.next.toNat + 1 := next_alloc _ _
    have hk6 := Own.keep i3.wf (Own.frm e3 e2 i3 (by intro e; injection e with e; have := congrArg Pa.toNat e; omega)) k8
    have hp8 := Own.keep i3.wf (Own.frm e3 hp6 i3 hne2) k8
    have s8 : Sl (h7.alloc (.cells (ptrV ptr) false)) (.sl h7.next 0 1 (.ex 1)) 2 1 (ptrV ptr) := ⟨rfl, .inr ⟨h7.next, 0, .ex 1, rfl, .of (get_alloc_self h7 _) rfl⟩⟩
    obtain ⟨h9, j1, j2, j3, j4, j5⟩ := hp8.app k8.wf (by omega) (by omega) s8.src.1 s8.src.2 rfl rfl (by omega)
    have r8 := i2.keep i3.wf k8
    have r9 : Rd k.next h9 a (ixItemS s').2 := by
      obtain ⟨v, q1, q2, q3, q4⟩ := r8
      have hav : ∀ x : Pa, x = k.next ∨ x = a → h9.get x = (h7.alloc (.cells (ptrV ptr) false)).get x := fun x hx => j5 x (by rcases hx with rfl | rfl <;> omega) (fun e => by have := hb2 x e.symm; rcases hx with rfl | rfl <;> omega)
      refine ⟨v, by rw [hav a (.inr rfl)]; exact q1, ⟨q2.1, ?_⟩, q3, q4⟩
      rcases q2.2 with q | ⟨la, lo, lc, rfl, l, q5, q6⟩
      · exact .inl q
      · exact .inr ⟨la, lo, lc, rfl, l, by rw [cells_get (hav la (.inl (q4 la lo _ lc rfl).2))]; exact q5, q6⟩
    have hk9 := hk6.same (h' := h9) fun b hb => by
      injection hb with hb
      subst hb
      exact j5 _ (by omega) (fun e => by subst e; have := hp5.lt k5.wf; omega)
    refine WC.region ?_
    refine R.mv .none (.t rfl) ?_  -- t30
    refine R.mv .none (.t rfl) ?_  -- t31
    refine R.mv .none (.t rfl) ?_  -- t32
    refine R.build .none (.cons (.t rfl) rfl rfl rfl (.cons (.t rfl) rfl rfl rfl .nil)) ?_  -- t33
    refine R.buildSl .none (.cons (.t rfl) rfl rfl rfl .nil) rfl ?_  -- t34
    subst hkey
    refine R.app .none (.t rfl) (.t rfl) e1 ?_  -- t35
    refine R.mv .none (.t rfl) ?_  -- t36
    refine R.mv .none (.t rfl) ?_  -- t37
    refine R.call .none (.cons (.t rfl) .nil) i1 ?_  -- t38
    refine R.buildSl .none (.cons (.t rfl) rfl rfl rfl .nil) rfl ?_  -- t39
    refine R.app .none (.t rfl) (.t rfl) j1 ?_  -- t40
    refine R.mv .none (.t rfl) ?_  -- t2
    refine R.mv .none (.t rfl) ?_  -- t3
    refine WR.nil ?_
    refine ⟨ν, by omega, acc ++ [(ixItemS s').1], (ixItemS s').2, _, _, some (h4.alloc (.cells (recV ((numS 1 s').1, (numS 1 (numS 1 s').2).1, [])) false)).next, some (h7.alloc (.cells (ptrV ptr) false)).next, by simp; omega, by omega, ?_, ?_, ?_, ?_, ?_, ?_, r9, ?_, .cons rfl (.cons rfl (.cons rfl (.cons rfl (.nil _))))⟩
    · rw [hS, ixL, hcc]; simp
    · have : recsV ((acc ++ [(ixItemS s').1]).map keyT) = recsV (acc.map keyT) ++ recV ((numS 1 s').1, (numS 1 (numS 1 s').2).1, []) := by simp [recsV, keyT, ixItemS]
      rw [this, List.length_append]
      exact hk9
    · have : ptrsV ((acc ++ [(ixItemS s').1]).map fun x => x.2) = ptrsV (acc.map fun x => x.2) ++ ptrV ptr := by simp [ptrsV, ixItemS, hptr]
      rw [this, List.length_append]
      exact j2
    · intro b hb; injection hb with hb; subst hb; omega
    · intro b hb; injection hb with hb; subst hb; omega
    · intro b hb e; injection hb with hb; injection e with e; rw [← hb] at e; have := congrArg Pa.toNat e; omega
    · refine ⟨fun x hx hxa => ?_, by omega, j3⟩
      rw [j5 x (by omega) (fun e => by have := hb2 x e.symm; omega), k8.old x (by omega), i3.old x (by omega) hxa, e5 x (by omega) (fun e => by have := hb1 x e.symm; omega), k5.old x (by omega), f34.old x (by omega) hxa, hf.old x hx hxa]
  · refine WC.exit ?_ -- 0
    show WC F _ _ _ _ _
    have hnil : ixL μ s' = ([], s') := by
      cases μ with
      | zero => rfl
      | succ ν => rw [ixL, hc, cond_false]
    rw [hnil, List.append_nil] at hS
    have hlS : (ixS load).1 = acc := by rw [hS]
    have hbS : (ixS load).2 = s' := by rw [hS]
    have hka : Keep h.next.toNat h q' := k1.trans ⟨Nat.le_trans kk2.next nf, fun x hx => (hf.old x (by omega) (paNe (by omega))).trans (kk2.old x (by omega)), wq⟩
    have g5 : q'.get h.next = some (.cells (blkV kind gen load) false) := hf.at kk2.wf (kk2.at (by omega) g1) (paNe (by omega))
    have hkn := kk2.next
    have hkb := hk.inB (P := fun b => k2.next.toNat ≤ b.toNat ∧ b.toNat < q'.next.toNat) (fun b hb => ⟨hb1 b hb, by subst hb; exact hk.lt wq⟩)
    have hpb := hp.inB (P := fun b => k2.next.toNat ≤ b.toNat ∧ b.toNat < q'.next.toNat) (fun b hb => ⟨hb2 b hb, by subst hb; exact hp.lt wq⟩)
    refine WC.seq ?_
    refine WC.seq (WC.then (fun E k' => Keep q'.next.toNat q' k' ∧ Sub [(2, kv), (3, pv), (60, .bool (!ixOk kind gen load))] E) ?_ ?_)
    · obtain ⟨rv, g, _⟩ := hr
      rw [← hbS] at g
      refine WC.region ?_
      refine R.mv .none (.t rfl) ?_  -- t41
      refine R.nil? .none (.t rfl) ?_  -- t42
      refine R.fAddr .none (.t rfl) ?_  -- t43
      refine R.load .none (.t rfl) ((Cells.of g rfl).one (i := 1) rfl) ?_  -- t44
      refine R.mv .none (.t rfl) ?_  -- t45
      cases hbad : (ixS load).2.2 with
      | true =>
        have hno : ixOk kind gen load = false := by unfold ixOk; rw [hbad]; rfl
        refine R.no (.no rfl rfl) ?_
        refine R.no (.no rfl rfl) ?_
        refine R.no (.no rfl rfl) ?_
        refine R.pick .none (.t rfl) .c (.t rfl) ?_  -- t49
        refine R.mv .none (.t rfl) ?_  -- t50
        refine R.no (.no rfl rfl) ?_
        refine R.no (.no rfl rfl) ?_
        refine R.no (.no rfl rfl) ?_
        refine R.no (.no rfl rfl) ?_
        refine R.no (.no rfl rfl) ?_
        refine R.no (.no rfl rfl) ?_
        refine R.no (.no rfl rfl) ?_
        refine R.chkNo (.no rfl rfl) rfl ?_
        refine R.chkNo (.no rfl rfl) rfl ?_
        refine R.no (.no rfl rfl) ?_
        refine R.no (.no rfl rfl) ?_
        refine R.pick .none (.t rfl) .c (.t rfl) ?_  -- t60
        rw [hno]
        exact WR.nil ⟨Keep.refl wq, .cons rfl (.cons rfl (.cons rfl (.nil _)))⟩
      | false =>
        refine R.fAddr (.yes rfl) (.t rfl) ?_  -- t46
        refine R.load (.yes rfl) (.t rfl) ((Cells.of g5 rfl).one (i := 0) rfl) ?_  -- t47
        refine R.bin (.yes rfl) (.t rfl) .c b_neI ?_  -- t48
        refine R.pick .none (.t rfl) .c (.t rfl) ?_  -- t49
        refine R.mv .none (.t rfl) ?_  -- t50
        by_cases hk2 : kind = 2
        · have hkd : decide (kind = 2) = true := by simp [hk2]
          rw [hkd]
          have hok : ixOk kind gen load = decide (indexT gen (acc.map itT) ((acc.length + 5) / 6) = [(kind, gen, load)]) := by unfold ixOk; rw [hbad, hkd, hlS]; simp
          have k6 := Keep.made wq (.cells (blkV kind gen load) false)
          have x6 : (q'.alloc (.cells (blkV kind gen load) false)).next.toNat = q'.next.toNat + 1 := next_alloc _ _
          have hk6 := Own.keep wq hk k6
          have hp6 := Own.keep wq hp k6
          obtain ⟨ov, h7, o, f1, f2, f3, f4⟩ := Index_ok fs (gen := gen) (rs := acc.map keyT) (ps := acc.map fun x => x.2) k6.wf (by simp) (by rw [List.length_map]; exact hk6.sl) hk6.capOk (by rw [List.length_map]; exact hp6.sl) (by rw [List.length_map]; omega)
            (fun b o n c e => by have := (hkb b o n c e).2; omega) (fun b o n c e => by have := (hpb b o n c e).2; omega)
          rw [zip_its, List.length_map, indexV_T] at f2
          have n7 := f4.next
          have g7 : h7.get q'.next = some (.cells (blkV kind gen load) false) := f4.at (by omega) (get_alloc_self _ _)
          have g7x : h7.get h.next = some (.cells (blkV kind gen load) false) := f4.at (by omega) (k6.at (by omega) g5)
          have hil : (indexT gen (acc.map itT) ((acc.length + 5) / 6)).length = (acc.length + 5) / 6 := by simp [indexT]
          have e1 := Equal_ok fs (v1 := ov) (v2 := .sl q'.next 0 1 (.ex 1)) (l := indexT gen (acc.map itT) ((acc.length + 5) / 6)) (b := (kind, gen, load)) (h := h7) (by rw [hil]; exact f2.sl) ⟨rfl, .inr ⟨q'.next, 0, .ex 1, rfl, .of g7 rfl⟩⟩ (by rw [hil]; omega)
          refine R.fAddr (.yes rfl) (.t rfl) ?_  -- t51
          refine R.load (.yes rfl) (.t rfl) ((Cells.of g5 rfl).one (i := 1) rfl) ?_  -- t52
          refine R.mv (.yes rfl) (.t rfl) ?_  -- t53
          refine R.mv (.yes rfl) (.t rfl) ?_  -- t54
          refine R.load (.yes rfl) (.t rfl) ((Cells.of g5 rfl).agg (i := 0) (n := 3) rfl rfl) ?_  -- t56
          refine R.buildSl (.yes rfl) (.cons (.t rfl) rfl rfl rfl .nil) rfl ?_  -- t57
          refine R.call (.yes rfl) (.cons (.t rfl) (.cons (.t rfl) (.cons (.t rfl) .nil))) f1 ?_  -- t55
          refine R.chkBuildSl (.yes rfl) rfl (.cons (.t rfl) rfl rfl rfl .nil) rfl g7 (same_blk _ _ _) ?_
          refine R.chkLoad (.yes rfl) rfl (.t rfl) ((Cells.of g7x rfl).agg (i := 0) (n := 3) rfl rfl) (same_blk _ _ _) ?_
          refine R.call (.yes rfl) (.cons (.t rfl) (.cons (.t rfl) .nil)) e1 ?_  -- t58
          refine R.un (.yes rfl) (.t rfl) rfl ?_  -- t59
          refine R.pick .none (.t rfl) .c (.t rfl) ?_  -- t60
          refine WR.nil ⟨k6.trans (f4.less (by omega)), .cons rfl (.cons rfl (.cons ?_ (.nil _)))⟩
          rw [hok]
          rfl
        · have hkd : decide (kind = 2) = false := by simp [hk2]
          have hno : ixOk kind gen load = false := by unfold ixOk; rw [hkd]; simp
          rw [hkd]
          refine R.no (.no rfl rfl) ?_
          refine R.no (.no rfl rfl) ?_
          refine R.no (.no rfl rfl) ?_
          refine R.no (.no rfl rfl) ?_
          refine R.no (.no rfl rfl) ?_
          refine R.no (.no rfl rfl) ?_
          refine R.no (.no rfl rfl) ?_
          refine R.chkNo (.no rfl rfl) rfl ?_
          refine R.chkNo (.no rfl rfl) rfl ?_
          refine R.no (.no rfl rfl) ?_
          refine R.no (.no rfl rfl) ?_
          refine R.pick .none (.t rfl) .c (.t rfl) ?_  -- t60
          rw [hno]
          exact WR.nil ⟨Keep.refl wq, .cons rfl (.cons rfl (.cons rfl (.nil _)))⟩
    rintro E2 k9 ⟨kB, hE2⟩
    refine WC.sub hE2 ?_
    have kT : Keep h.next.toNat h k9 := hka.trans (kB.less hka.next)
    refine WC.condB (.t rfl) (fun hc => ?_) (fun hc => ?_) -- t60
    · refine WC.seq (WC.region ?_)
      refine R.mv .none .c ?_  -- t2
      refine R.mv .none .c ?_  -- t3
      refine R.mv .none .c ?_  -- t4
      refine WR.nil ?_
      refine WC.ret ?_
      have hno : ixOk kind gen load = false := by simpa using hc
      rw [hno]
      exact ⟨_, .t rfl (.t rfl (.t rfl .nil)), .no .sl, .no .sl, [], rfl, ⟨rfl, .inl ⟨rfl, rfl⟩⟩, ⟨rfl, .inl ⟨rfl, rfl⟩⟩, (fun _ _ _ _ e => by cases e), (fun _ _ _ _ e => by cases e), kT, fun e => by cases e⟩
    · have hyes : ixOk kind gen load = true := by simpa using hc
      refine WC.skip ?_
      refine WC.seq (WC.region ?_)
      refine R.mv .none (.t rfl) ?_  -- t61
      refine R.mv .none (.t rfl) ?_  -- t62
      refine R.mv .none (.t rfl) ?_  -- t2
      refine R.mv .none (.t rfl) ?_  -- t3
      refine R.mv .none .c ?_  -- t4
      refine WR.nil ?_
      refine WC.ret ?_
      rw [hyes]
      exact ⟨_, .t rfl (.t rfl (.t rfl .nil)), kv, pv, acc, rfl, hk.sl.ext kB wq (Nat.le_refl _), hp.sl.ext kB wq (Nat.le_refl _), (fun b o n c e => by have := (hkb b o n c e).1; omega), (fun b o n c e => by have := (hpb b o n c e).1; omega), kT, fun _ => hlS.symm⟩
end Go.Ev.Root

namespace Go.Ev.Root
open Go.Ev
variable {F : Nat → Option FnI}
/-! what is made of numbers -/
theorem b_remI {q : EqK} {k : IntKind} {a m : Nat} (hm : 0 < m) : binV .rem q (.int k (a : Int)) (.int k (m : Int)) = some (.int k ((a % m : Nat) : Int)) := by
  show (bif kEq k k then (bif iEq (m : Int) 0 then none else some (V.int k ((a : Int).tmod (m : Int)))) else none) = _
  have h1 : kEq k k = true := by cases k <;> rfl
  have h2 : iEq (m : Int) 0 = false := by rw [iEq_eq]; simp; omega
  rw [h1, h2, cond_true, cond_false]
  rfl
theorem b_quo8 {q : EqK} {a m : Nat} (hm : 0 < m) (ha : a < 256) : binV .quo q (.int .u8 (a : Int)) (.int .u8 (m : Int)) = some (.int .u8 ((a / m : Nat) : Int)) := by
  show (bif kEq .u8 .u8 then (bif iEq (m : Int) 0 then none else some (V.int .u8 (wrapF .u8 ((a : Int).tdiv (m : Int))))) else none) = _
  have h2 : iEq (m : Int) 0 = false := by rw [iEq_eq]; simp; omega
  rw [show kEq .u8 .u8 = true from rfl, h2, cond_true, cond_false]
  have : (a : Int).tdiv (m : Int) = ((a / m : Nat) : Int) := rfl
  rw [this, wrapF_nat .u8 (show a / m ≤ 255 by have := Nat.div_le_self a m; omega)]
def numP (l : List UInt8) (m n : Nat) : Nat × Nat := match l[n]? with
  | some b => (b.toNat % m, n + 1)
  | none => (0, n)
theorem numP_lt (l : List UInt8) {m : Nat} (hm : 0 < m) (n : Nat) : (numP l m n).1 < m := by
  unfold numP
  split
  · exact Nat.mod_lt _ hm
  · exact hm
theorem numP_le (l : List UInt8) (m : Nat) {n : Nat} (hn : n ≤ l.length) : (numP l m n).2 ≤ l.length := by
  unfold numP
  split
  · rename_i b hb; have := (List.getElem?_eq_some_iff.1 hb).1; exact this
  · exact hn
theorem numM_ok (fs : Fs F) {a : Pa} {v : V} {l : List UInt8} {m n : Nat} {h : Hp} (w : WF h) (hg : h.get a = some (.cells [v, .int .i64 (n : Int)] false)) (hl : Sl h v 1 l.length (l.map byteV)) (hne : InB v fun b => b ≠ a) (hm : 0 < m) (hn : n ≤ l.length) (hll : l.length ≤ 1000) :
    ∃ h', CallE F 24 [.ptr a 0, .int .i64 (m : Int)] h (.int .i64 ((numP l m n).1 : Int)) h' ∧ Upd h a [v, .int .i64 ((numP l m n).2 : Int)] h' := by
  suffices hs : Said F 24 [.ptr a 0, .int .i64 (m : Int)] h (fun r h' => r = .int .i64 ((numP l m n).1 : Int) ∧ Upd h a [v, .int .i64 ((numP l m n).2 : Int)] h') (fun _ _ => False) by
    obtain ⟨r, h', h1, rfl, h3⟩ := hs.ret
    exact ⟨h', h1, h3⟩
  refine said_of fs.h24 ?_
  show WC F _ b24 [(0, .ptr a 0), (1, .int .i64 (m : Int))] h _
  refine WC.seq (WC.region ?_)
  refine R.mv .none .c ?_  -- t4
  refine WR.nil ?_
  have hm1 : decide ((m : Int) < 1) = false := by simp; omega
  refine WC.seq ?_
  refine WC.seq (WC.then (fun E k => k = h ∧ Sub [(0, .ptr a 0), (1, .int .i64 (m : Int)), (18, .bool (decide (l.length ≤ n)))] E) ?_ ?_)
  · refine WC.region ?_
    refine R.mv .none (.t rfl) ?_  -- t5
    refine R.nil? .none (.t rfl) ?_  -- t6
    refine R.fAddr .none (.t rfl) ?_  -- t7
    refine R.load .none (.t rfl) ((Cells.of hg rfl).one (i := 1) rfl) ?_  -- t8
    refine R.mv .none (.t rfl) ?_  -- t9
    refine R.nil? .none (.t rfl) ?_  -- t10
    refine R.fAddr .none (.t rfl) ?_  -- t11
    refine R.load .none (.t rfl) ((Cells.of hg rfl).one (i := 0) rfl) ?_  -- t12
    refine R.lenSlv .none (.t rfl) hl ?_  -- t13
    refine R.bin .none (.t rfl) (.t rfl) b_geq ?_  -- t14
    refine R.mv .none (.t rfl) ?_  -- t15
    by_cases hc : l.length ≤ n
    · have hd : decide (((l.length : Nat) : Int) ≤ (n : Int)) = true := decide_eq_true (by omega)
      rw [hd, decide_eq_true hc]
      refine R.no (.no rfl rfl) ?_
      refine R.no (.no rfl rfl) ?_
      refine R.pick .none (.t rfl) .c (.t rfl) ?_  -- t18
      exact WR.nil ⟨rfl, .cons rfl (.cons rfl (.cons rfl (.nil _)))⟩
    · have hd : decide (((l.length : Nat) : Int) ≤ (n : Int)) = false := decide_eq_false (by omega)
      rw [hd, decide_eq_false hc]
      refine R.mv (.yes rfl) (.t rfl) ?_  -- t16
      refine R.bin (.yes rfl) (.t rfl) .c b_lss ?_  -- t17
      rw [hm1]
      refine R.pick .none (.t rfl) .c (.t rfl) ?_  -- t18
      exact WR.nil ⟨rfl, .cons rfl (.cons rfl (.cons rfl (.nil _)))⟩
  rintro E k ⟨rfl, hE⟩
  refine WC.sub hE ?_
  refine WC.condD (.t rfl) (fun hc => ?_) (fun hc => ?_) -- t18
  · refine WC.seq (WC.region ?_)
    refine R.mv .none .c ?_
    refine WR.nil ?_
    refine WC.ret ?_
    have hp : numP l m n = (0, n) := by unfold numP; rw [List.getElem?_eq_none hc]
    rw [hp]
    exact ⟨_, .t rfl .nil, rfl, Upd.refl w hg⟩
  · refine WC.skip ?_
    obtain ⟨b, hb⟩ : ∃ b, l[n]? = some b := ⟨_, List.getElem?_eq_getElem (by omega)⟩
    have hp : numP l m n = (b.toNat % m, n + 1) := by unfold numP; rw [hb]
    have u1 : Upd k a [v, .int .i64 ((n + 1 : Nat) : Int)] (k.put a (.cells [v, .int .i64 ((n + 1 : Nat) : Int)] false)) := .put w hg _
    have hl1 := hl.upd w u1 hne
    have hb8 : b.toNat < 256 := UInt8.toNat_lt b
    refine WC.seq (WC.region ?_)
    refine R.mv .none (.t rfl) ?_  -- t19
    refine R.nil? .none (.t rfl) ?_  -- t20
    refine R.fAddr .none (.t rfl) ?_  -- t21
    refine R.load .none (.t rfl) ((Cells.of hg rfl).one (i := 1) rfl) ?_  -- t22
    refine R.bin .none (.t rfl) .c (b_add (by omega) (by omega)) ?_  -- t23
    refine R.nil? .none (.t rfl) ?_  -- t24
    refine R.fAddr .none (.t rfl) ?_  -- t25
    have e1 : ((n : Int) + 1) = ((n + 1 : Nat) : Int) := by omega
    rw [e1]
    refine R.store .none (.t rfl) (.t rfl) rfl (storeN_of hg rfl rfl) ?_
    refine WR.nil ?_
    rcases hl1.2 with ⟨rfl, h0⟩ | ⟨la, lo, lc, rfl, hcc⟩
    · omega
    refine WC.seq (WC.region ?_)
    refine R.mv .none (.t rfl) ?_  -- t26
    refine R.nil? .none (.t rfl) ?_  -- t27
    refine R.fAddr .none (.t rfl) ?_  -- t28
    refine R.load .none (.t rfl) ((Cells.of u1.get rfl).one (i := 0) rfl) ?_  -- t29
    refine R.mv .none (.t rfl) ?_  -- t30
    refine R.nil? .none (.t rfl) ?_  -- t31
    refine R.fAddr .none (.t rfl) ?_  -- t32
    refine R.load .none (.t rfl) ((Cells.of u1.get rfl).one (i := 1) rfl) ?_  -- t33
    refine R.bin .none (.t rfl) .c (b_sub (by omega) (by omega)) ?_  -- t34
    rw [show (((n + 1 : Nat) : Int) - 1) = (n : Int) by omega]
    refine R.iAddr .none (.t rfl) (.t rfl) (by omega) ?_  -- t35
    refine R.load .none (.t rfl) (by rw [Nat.mul_one]; exact hcc.one (i := n) (v := .int .u8 (b.toNat : Int)) (by rw [List.getElem?_map, hb]; rfl)) ?_  -- t36
    refine R.convI .none (.t rfl) ?_  -- t37
    rw [conv_i64]
    refine R.mv .none (.t rfl) ?_  -- t38
    refine R.bin .none (.t rfl) (.t rfl) (b_remI hm) ?_  -- t39
    refine R.mv .none (.t rfl) ?_  -- t4
    refine WR.nil ?_
    refine WC.ret ?_
    rw [hp]
    exact ⟨_, .t rfl .nil, rfl, u1⟩

/-- the row that is read from -/
theorem Made_ok (fs : Fs F) {v : V} {l : List UInt8} {h : Hp} (w : WF h) (hl : Sl h v 1 l.length (l.map byteV)) :
    ∃ h', CallE F 11 [v] h (.ptr h.next 0) h' ∧ h'.get h.next = some (.cells [v, .int .i64 ((0 : Nat) : Int)] false) ∧ Keep h.next.toNat h h' ∧ h'.next.toNat = h.next.toNat + 1 := by
  refine ⟨h.alloc (.cells [v, .int .i64 ((0 : Nat) : Int)] false), Said.eq (said_of fs.h11 ?_), get_alloc_self _ _, Keep.made w _, next_alloc _ _⟩
  show WC F _ b11 [(0, v)] h _
  have hsv : isScalar v = true ∧ v.cells = [v] := by
    rcases hl.2 with ⟨rfl, _⟩ | ⟨la, lo, lc, rfl, _⟩ <;> exact ⟨rfl, rfl⟩
  rcases hl.2 with ⟨rfl, _⟩ | ⟨la, lo, lc, rfl, _⟩
  all_goals
    refine WC.seq (WC.region ?_)
    refine R.mv .none .c ?_  -- t2
    refine WR.nil ?_
    refine WC.seq (WC.region ?_)
    refine R.mv .none (.t rfl) ?_  -- t3
    refine R.build .none (.cons (.t rfl) rfl rfl rfl .nil) ?_  -- t4
    refine R.box .none (.t rfl) rfl ?_  -- t5
    refine R.mv .none (.t rfl) ?_  -- t2
    refine WR.nil ?_
    refine WC.ret ?_
    exact ⟨_, .t rfl .nil, rfl, rfl⟩

def ptrM (l : List UInt8) (n : Nat) : (Nat × Nat) × Nat := ((2 + (numP l 250 n).1 * 3, (numP l 99 (numP l 250 n).2).1), (numP l 99 (numP l 250 n).2).2)
def ptrsM (l : List UInt8) : Nat → Nat → List (Nat × Nat)
  | 0, _ => []
  | k + 1, n => (ptrM l n).1 :: ptrsM l k (ptrM l n).2
theorem ptrsM_len (l : List UInt8) : ∀ k n, (ptrsM l k n).length = k
  | 0, _ => rfl
  | k + 1, n => by rw [ptrsM, List.length_cons, ptrsM_len l k]
theorem PtrsM_ok (fs : Fs F) {a : Pa} {v : V} {l : List UInt8} {most n : Nat} {h : Hp} (w : WF h) (hg : h.get a = some (.cells [v, .int .i64 (n : Int)] false)) (hl : Sl h v 1 l.length (l.map byteV)) (hne : InB v fun b => b ≠ a) (hn : n ≤ l.length) (hll : l.length ≤ 1000) (hmost : most ≤ 1000) :
    ∃ pv h' o, CallE F 12 [.ptr a 0, .int .i64 (most : Int)] h pv h' ∧ Own h' pv 2 (numP l (most + 1) n).1 (ptrsV (ptrsM l (numP l (most + 1) n).1 (numP l (most + 1) n).2)) o ∧ (∀ b, o = some b → h.next.toNat ≤ b.toNat) ∧ Frm a h h' := by
  suffices hs : Said F 12 [.ptr a 0, .int .i64 (most : Int)] h (fun pv h' => ∃ o, Own h' pv 2 (numP l (most + 1) n).1 (ptrsV (ptrsM l (numP l (most + 1) n).1 (numP l (most + 1) n).2)) o ∧ (∀ b, o = some b → h.next.toNat ≤ b.toNat) ∧ Frm a h h') (fun _ _ => False) by
    obtain ⟨pv, h', h1, o, h3⟩ := hs.ret
    exact ⟨pv, h', o, h1, h3⟩
  have ha := w.lt hg
  refine said_of fs.h12 ?_
  show WC F _ b12 [(0, .ptr a 0), (1, .int .i64 (most : Int))] h _
  refine WC.seq (WC.region ?_)
  refine R.mv .none .c ?_  -- t4
  refine WR.nil ?_
  refine WC.seq (WC.region ?_)
  refine R.mv .none .c ?_  -- t5
  refine WR.nil ?_
  obtain ⟨h1, c1, c2⟩ := numM_ok fs (m := most + 1) w hg hl hne (by omega) hn hll
  have hc := numP_lt l (m := most + 1) (by omega) n
  have hcl := numP_le l (most + 1) hn
  refine WC.seq ?_
  refine WC.seq (WC.region ?_)
  refine R.mv .none (.t rfl) ?_  -- t7
  refine R.mv .none (.t rfl) ?_  -- t8
  refine R.bin .none (.t rfl) .c (b_add (by omega) (by omega)) ?_  -- t9
  rw [show ((most : Int) + 1) = ((most + 1 : Nat) : Int) by omega]
  refine R.call .none (.cons (.t rfl) (.cons (.t rfl) .nil)) c1 ?_  -- t10
  refine R.mv .none (.t rfl) ?_  -- t6
  refine WR.nil ?_
  refine WC.block ?_ -- 0
  refine WC.loop (fun μ E k => ∃ (acc : List (Nat × Nat)) (n' : Nat) (ov : V) (o : Option Pa), acc.length + μ = (numP l (most + 1) n).1 ∧ ptrsM l (numP l (most + 1) n).1 (numP l (most + 1) n).2 = acc ++ ptrsM l μ n' ∧ n' ≤ l.length ∧ Own k ov 2 acc.length (ptrsV acc) o ∧ (∀ b, o = some b → h.next.toNat ≤ b.toNat) ∧ k.get a = some (.cells [v, .int .i64 (n' : Int)] false) ∧ Frm a h k ∧
      Sub [(0, .ptr a 0), (5, ov), (6, .int .i64 (μ : Int))] E) (m := (numP l (most + 1) n).1)
    ⟨[], (numP l (most + 1) n).2, .no .sl, none, by simp, rfl, hcl, Own.none _ 2, (fun _ e => by cases e), c2.get, .upd c2, .cons rfl (.cons rfl (.cons rfl (.nil _)))⟩ ?_
  rintro μ E k ⟨acc, n', ov, o, hlen, hS, hn', ho, hob, hgk, hf, hE⟩
  refine WC.sub hE ?_
  have wk := hf.wf
  have hlk := hf.sl w hl hne
  refine WC.seq ?_
  refine WC.seq (WC.region ?_)
  refine R.mv .none (.t rfl) ?_  -- t11
  refine R.bin .none (.t rfl) .c b_gtr ?_  -- t12
  refine WR.nil ?_
  refine WC.condD (.t rfl) (fun hlt => ?_) (fun hge => ?_) -- t12
  · refine WC.skip ?_
    obtain ⟨ν, rfl⟩ : ∃ ν, μ = ν + 1 := ⟨μ - 1, by omega⟩
    obtain ⟨h2, d1, d2⟩ := numM_ok fs (m := 250) wk hgk hlk hne (by omega) hn' hll
    have hn2 := numP_le l 250 hn'
    have hx1 := numP_lt l (m := 250) (by omega) n'
    obtain ⟨h3, e1, e2⟩ := numM_ok fs (m := 99) d2.wf d2.get (hlk.upd wk d2 hne) hne (by omega) hn2 hll
    have hn3 := numP_le l 99 hn2
    have u3 := d2.trans e2
    have f3 : Frm a k h3 := .upd u3
    obtain ⟨p, hp⟩ : ∃ p, p = (ptrM l n').1 := ⟨_, rfl⟩
    have k4 := Keep.made e2.wf (.cells (ptrV p) false)
    have hnea : o ≠ some a := fun e => by have := hob a e; omega
    have ho4 := Own.keep e2.wf (Own.frm wk ho f3 hnea) k4
    have s4 : Sl (h3.alloc (.cells (ptrV p) false)) (.sl h3.next 0 1 (.ex 1)) 2 1 (ptrV p) := ⟨rfl, .inr ⟨h3.next, 0, .ex 1, rfl, .of (get_alloc_self h3 _) rfl⟩⟩
    obtain ⟨h5, f1, f2, f3', f4, f5⟩ := ho4.app k4.wf (by omega) (by omega) s4.src.1 s4.src.2 rfl rfl (by omega)
    have n3 := u3.next
    have n4 := k4.next
    have nf := hf.next
    have a3 := e2.wf.lt e2.get
    refine WC.seq (WC.block (WC.region ?_))
    refine R.mv .none (.t rfl) ?_  -- t15
    refine R.mv .none (.t rfl) ?_  -- t16
    refine R.call .none (.cons (.t rfl) (.cons .c .nil)) d1 ?_  -- t17
    refine R.bin .none (.t rfl) .c (b_mul (by omega) (by omega)) ?_  -- t18
    refine R.bin .none .c (.t rfl) (b_add (by omega) (by omega)) ?_  -- t19
    refine R.mv .none (.t rfl) ?_  -- t20
    refine R.call .none (.cons (.t rfl) (.cons .c .nil)) e1 ?_  -- t21
    refine R.build .none (.cons (.t rfl) rfl rfl rfl (.cons (.t rfl) rfl rfl rfl .nil)) ?_  -- t22
    rw [show (2 + ((numP l 250 n').1 : Int) * 3) = ((2 + (numP l 250 n').1 * 3 : Nat) : Int) by omega]
    refine R.buildSl .none (.cons (.t rfl) rfl rfl rfl .nil) rfl ?_  -- t23
    subst hp
    refine R.app .none (.t rfl) (.t rfl) f1 ?_  -- t24
    refine R.mv .none (.t rfl) ?_  -- t5
    refine WR.nil ?_
    refine WC.region ?_
    refine R.mv .none (.t rfl) ?_  -- t13
    refine R.bin .none (.t rfl) .c (b_sub (by omega) (by omega)) ?_  -- t14
    refine R.mv .none (.t rfl) ?_  -- t6
    refine WR.nil ?_
    refine ⟨ν, by omega, acc ++ [(ptrM l n').1], (ptrM l n').2, _, some (h3.alloc (.cells (ptrV (ptrM l n').1) false)).next, by simp; omega, ?_, hn3, ?_, ?_, ?_, ?_, .cons rfl (.cons rfl (.cons ?_ (.nil _)))⟩
    · rw [hS, ptrsM]; simp
    · have : ptrsV (acc ++ [(ptrM l n').1]) = ptrsV acc ++ ptrV (ptrM l n').1 := by simp [ptrsV]
      rw [this, List.length_append]
      exact f2
    · intro b hb; injection hb with hb; subst hb; omega
    · rw [f5 a (by omega) (fun e => hnea e.symm), k4.old a a3]; exact e2.get
    · refine ⟨fun x hx hxa => ?_, by omega, f3'⟩
      rw [f5 x (by omega) (fun e => by have := hob x e.symm; omega), k4.old x (by omega), f3.old x (by omega) hxa, hf.old x hx hxa]
    · show some _ = some _
      congr 2
      omega
  · refine WC.exit ?_ -- 0
    show WC F _ _ _ _ _
    obtain rfl : μ = 0 := by omega
    rw [ptrsM, List.append_nil] at hS
    refine WC.seq (WC.region ?_)
    refine R.mv .none (.t rfl) ?_  -- t25
    refine R.mv .none (.t rfl) ?_  -- t4
    refine WR.nil ?_
    refine WC.ret ?_
    refine ⟨_, .t rfl .nil, o, ?_, hob, hf⟩
    rw [hS, ← hlen]
    exact ho

/-- a root of numbers -/
def rM1 (l : List UInt8) (n : Nat) : Nat × Nat := numP l 3 n
def rM2 (l : List UInt8) (n : Nat) : Nat × Nat := numP l 300 (rM1 l n).2
def rM3 (l : List UInt8) (n : Nat) : Nat × Nat := numP l 9 (rM2 l n).2
def rM4 (l : List UInt8) (n : Nat) : Nat × Nat := numP l 2 (rM3 l n).2
def rM5 (l : List UInt8) (n : Nat) : Nat × Nat := numP l 200 (rM4 l n).2
theorem RootM_ok (fs : Fs F) {a : Pa} {v : V} {l : List UInt8} {n : Nat} {h : Hp} (w : WF h) (hg : h.get a = some (.cells [v, .int .i64 (n : Int)] false)) (hl : Sl h v 1 l.length (l.map byteV)) (hne : InB v fun b => b ≠ a) (hn : n ≤ l.length) (hll : l.length ≤ 1000) :
    ∃ h', CallE F 13 [.ptr a 0] h (.agg (rcV (1 + (rM1 l n).1) [(rM2 l n).1, 65536 + (rM3 l n).1, (rM4 l n).1 * 65537, (rM5 l n).1])) h' ∧ Frm a h h' := by
  suffices hs : Said F 13 [.ptr a 0] h (fun r h' => r = .agg (rcV (1 + (rM1 l n).1) [(rM2 l n).1, 65536 + (rM3 l n).1, (rM4 l n).1 * 65537, (rM5 l n).1]) ∧ Frm a h h') (fun _ _ => False) by
    obtain ⟨r, h', h1, rfl, h3⟩ := hs.ret
    exact ⟨h', h1, h3⟩
  have ha := w.lt hg
  refine said_of fs.h13 ?_
  show WC F _ b13 [(0, .ptr a 0)] h _
  refine WC.cut (fun E k => WF k ∧ k.get h.next = some (.cells (rcV 0 [0, 0, 0, 0]) false) ∧ Keep h.next.toNat h k ∧ Sub [(0, .ptr a 0), (2, .ptr h.next 0)] E) ?_ ?_
  · refine WC.region ?_
    refine R.alloc .none ?_  -- t2
    exact WR.nil ⟨w.alloc _, get_alloc_self _ _, Keep.made w _, .cons rfl (.cons rfl (.nil _))⟩
  rintro E k ⟨w1, g1, k1, hE⟩
  refine WC.sub hE ?_
  have hg1 := k1.at ha hg
  have hl1 := hl.ext k1 w (Nat.le_refl _)
  obtain ⟨h1, c1, c2⟩ := numM_ok fs (m := 3) w1 hg1 hl1 hne (by omega) hn hll
  have n1 := numP_le l 3 hn
  obtain ⟨h2, d1, d2⟩ := numM_ok fs (m := 300) c2.wf c2.get (hl1.upd w1 c2 hne) hne (by omega) n1 hll
  have n2 := numP_le l 300 n1
  have u2 := c2.trans d2
  obtain ⟨h3, e1, e2⟩ := numM_ok fs (m := 9) u2.wf u2.get (hl1.upd w1 u2 hne) hne (by omega) n2 hll
  have n3 := numP_le l 9 n2
  have u3 := u2.trans e2
  obtain ⟨h4, f1, f2⟩ := numM_ok fs (m := 2) u3.wf u3.get (hl1.upd w1 u3 hne) hne (by omega) n3 hll
  have n4 := numP_le l 2 n3
  have u4 := u3.trans f2
  obtain ⟨h5, i1, i2⟩ := numM_ok fs (m := 200) u4.wf u4.get (hl1.upd w1 u4 hne) hne (by omega) n4 hll
  have u5 := u4.trans i2
  have g5 := u5.at w1 g1 (paNe (by omega))
  have x1 := numP_lt l (m := 3) (by omega) n
  have x3 := numP_lt l (m := 9) (by omega) (numP l 300 (numP l 3 n).2).2
  have x4 := numP_lt l (m := 2) (by omega) (numP l 9 (numP l 300 (numP l 3 n).2).2).2
  refine WC.seq (WC.region ?_)
  refine R.mv .none (.t rfl) ?_  -- t3
  refine R.call .none (.cons (.t rfl) (.cons .c .nil)) c1 ?_  -- t4
  refine R.bin .none .c (.t rfl) (b_add (by omega) (by omega)) ?_  -- t5
  rw [show (1 + ((numP l 3 n).1 : Int)) = ((1 + (rM1 l n).1 : Nat) : Int) by show _ = ((1 + (numP l 3 n).1 : Nat) : Int); omega]
  refine R.mv .none (.t rfl) ?_  -- t6
  refine R.call .none (.cons (.t rfl) (.cons .c .nil)) d1 ?_  -- t7
  refine R.mv .none (.t rfl) ?_  -- t8
  refine R.call .none (.cons (.t rfl) (.cons .c .nil)) e1 ?_  -- t9
  refine R.bin .none .c (.t rfl) (b_add (by omega) (by omega)) ?_  -- t10
  rw [show (65536 + ((numP l 9 (numP l 300 (numP l 3 n).2).2).1 : Int)) = ((65536 + (rM3 l n).1 : Nat) : Int) by show _ = ((65536 + (numP l 9 (numP l 300 (numP l 3 n).2).2).1 : Nat) : Int); omega]
  refine R.mv .none (.t rfl) ?_  -- t11
  refine R.call .none (.cons (.t rfl) (.cons .c .nil)) f1 ?_  -- t12
  refine R.bin .none (.t rfl) .c (b_mul (by omega) (by omega)) ?_  -- t13
  rw [show (((numP l 2 (numP l 9 (numP l 300 (numP l 3 n).2).2).2).1 : Int) * 65537) = (((rM4 l n).1 * 65537 : Nat) : Int) by show _ = (((numP l 2 (numP l 9 (numP l 300 (numP l 3 n).2).2).2).1 * 65537 : Nat) : Int); omega]
  refine R.mv .none (.t rfl) ?_  -- t14
  refine R.call .none (.cons (.t rfl) (.cons .c .nil)) i1 ?_  -- t15
  refine R.build .none (.cons (.t rfl) rfl rfl rfl (.cons (.t rfl) rfl rfl rfl (.cons (.t rfl) rfl rfl rfl (.cons (.t rfl) rfl rfl rfl (.cons (.t rfl) rfl rfl rfl .nil))))) ?_  -- t16
  refine R.store .none (.t rfl) (.t rfl) rfl (storeN_of g5 rfl rfl) ?_
  refine WR.nil ?_
  refine WC.ret ?_
  have n5 := u5.next
  have nk := k1.next
  have y5 := u5.wf.lt g5
  exact ⟨_, .c rfl ((Cells.of (get_put_self _ _ _) rfl).agg (i := 0) (n := 5) rfl rfl) .nil, rfl, ⟨fun x hx hxa => (get_put_ne (paNe (by omega))).trans ((u5.old x (by omega) hxa).trans (k1.old x hx)), Nat.le_trans nk n5, u5.wf.put y5 _⟩⟩

/-- pointers that are alike -/
theorem agg_ptr (a b c d : Int) : binV .neq (.agg [(0, .i), (1, .i)]) (.agg [.int .i64 a, .int .i64 b]) (.agg [.int .i64 c, .int .i64 d]) = some (.bool (!decide (a = c ∧ b = d))) := by
  show (aggEq [V.int .i64 a, .int .i64 b] [.int .i64 c, .int .i64 d] [(0, .i), (1, .i)]).map (fun b => V.bool (!b)) = _
  have hk : kEq .i64 .i64 = true := rfl
  have n0 : ∀ (a b : V), nth [a, b] 0 = some a := fun _ _ => rfl
  have n1 : ∀ (a b : V), nth [a, b] 1 = some b := fun _ _ => rfl
  simp only [aggEq, n0, n1, flatEq, hk, cond_true, iEq_eq]
  by_cases h1 : a = c
  · have e1 : (a == c) = true := by simpa using h1
    by_cases h2 : b = d
    · have e2 : (b == d) = true := by simpa using h2
      rw [e1, e2]; simp [h1, h2]
    · have e2 : (b == d) = false := by simpa using h2
      rw [e1, e2]; simp [h2]
  · have e1 : (a == c) = false := by simpa using h1
    rw [e1]; simp [h1]
theorem natPair (p q : Nat × Nat) : decide ((p.1 : Int) = (q.1 : Int) ∧ (p.2 : Int) = (q.2 : Int)) = decide (p = q) := by
  obtain ⟨a, b⟩ := p
  obtain ⟨c, d⟩ := q
  have h1 : ((a : Int) = (c : Int) ∧ (b : Int) = (d : Int)) ↔ ((a, b) = (c, d)) := by
    rw [Prod.mk.injEq]; omega
  exact decide_eq_decide.2 h1
theorem SamePtrs_ok (fs : Fs F) {v1 v2 : V} {l1 l2 : List (Nat × Nat)} {h : Hp} (hl1 : Sl h v1 2 l1.length (ptrsV l1)) (hl2 : Sl h v2 2 l2.length (ptrsV l2)) (hlen : l1.length ≤ 100000) :
    CallE F 18 [v1, v2] h (.bool (decide (l1 = l2))) h := by
  refine Said.eq (said_of fs.h18 ?_)
  show WC F _ b18 [(0, v1), (1, v2)] h _
  refine WC.seq (WC.region ?_)
  refine R.mv .none .c ?_  -- t4
  refine WR.nil ?_
  refine WC.seq ?_
  refine WC.seq (WC.region ?_)
  refine R.mv .none (.t rfl) ?_  -- t6
  refine R.lenSlv .none (.t rfl) hl1 ?_  -- t7
  refine R.mv .none (.t rfl) ?_  -- t8
  refine R.lenSlv .none (.t rfl) hl2 ?_  -- t9
  refine R.bin .none (.t rfl) (.t rfl) b_neI ?_  -- t10
  refine WR.nil ?_
  refine WC.condB (.t rfl) (fun hc => ?_) (fun hc => ?_) -- t10
  · refine WC.seq (WC.region ?_)
    refine R.mv .none .c ?_
    refine WR.nil ?_
    refine WC.ret ?_
    refine ⟨_, .t rfl .nil, ?_, rfl⟩
    have hne : l1 ≠ l2 := fun e => by rw [e] at hc; simp at hc
    rw [decide_eq_false hne]; rfl
  · have hle : l1.length = l2.length := by
      have : decide (((l1.length : Nat) : Int) = ((l2.length : Nat) : Int)) = true := by simpa using hc
      have := of_decide_eq_true this
      omega
    refine WC.skip ?_
    refine WC.seq ?_
    refine WC.seq (WC.region ?_)
    refine R.mv .none .c ?_  -- t5
    refine WR.nil ?_
    refine WC.block ?_ -- 0
    refine WC.loop (fun μ E k => k = h ∧ ∃ i, μ = l1.length - i ∧ i ≤ l1.length ∧ l1.take i = l2.take i ∧ Sub [(0, v1), (1, v2), (5, .int .i64 (i : Int))] E) (m := l1.length)
      ⟨rfl, 0, rfl, by omega, rfl, .cons rfl (.cons rfl (.cons rfl (.nil _)))⟩ ?_
    rintro μ E k ⟨rfl, i, rfl, hi, hti, hE⟩
    refine WC.sub hE ?_
    refine WC.seq ?_
    refine WC.seq (WC.region ?_)
    refine R.mv .none (.t rfl) ?_  -- t11
    refine R.mv .none (.t rfl) ?_  -- t12
    refine R.lenSlv .none (.t rfl) hl1 ?_  -- t13
    refine R.bin .none (.t rfl) (.t rfl) b_lss ?_  -- t14
    refine WR.nil ?_
    refine WC.condD (.t rfl) (fun hlt => ?_) (fun hge => ?_) -- t14
    · refine WC.skip ?_
      have hi1 : i < l1.length := by omega
      obtain ⟨p, hp⟩ : ∃ p, l1[i]? = some p := ⟨_, List.getElem?_eq_getElem hi1⟩
      obtain ⟨q, hq⟩ : ∃ q, l2[i]? = some q := ⟨_, List.getElem?_eq_getElem (by omega)⟩
      rcases hl1.2 with ⟨_, h0⟩ | ⟨a1, o1, c1, rfl, q1⟩
      · omega
      rcases hl2.2 with ⟨_, h0⟩ | ⟨a2, o2, c2, rfl, q2⟩
      · omega
      refine WC.seq ?_
      refine WC.block ?_ -- 1
      refine WC.seq (WC.region ?_)
      refine R.mv .none (.t rfl) ?_  -- t17
      refine R.mv .none (.t rfl) ?_  -- t18
      refine R.iAddr .none (.t rfl) (.t rfl) hi1 ?_  -- t19
      refine R.load .none (.t rfl) (q1.agg (flat_agg ptrV 2 (fun _ => rfl) hp) rfl) ?_  -- t20
      refine R.mv .none (.t rfl) ?_  -- t21
      refine R.mv .none (.t rfl) ?_  -- t22
      refine R.iAddr .none (.t rfl) (.t rfl) (by omega) ?_  -- t23
      refine R.load .none (.t rfl) (q2.agg (flat_agg ptrV 2 (fun _ => rfl) hq) rfl) ?_  -- t24
      refine R.bin .none (.t rfl) (.t rfl) (agg_ptr _ _ _ _) ?_  -- t25
      rw [natPair]
      refine WR.nil ?_
      refine WC.condB (.t rfl) (fun hd => ?_) (fun hd => ?_) -- t25
      · refine WC.seq (WC.region ?_)
        refine R.mv .none .c ?_
        refine WR.nil ?_
        refine WC.ret ?_
        refine ⟨_, .t rfl .nil, ?_, rfl⟩
        have hne : l1 ≠ l2 := fun e => by rw [e, hq] at hp; cases hp; simp at hd
        rw [decide_eq_false hne]; rfl
      · have hpq : p = q := by simpa using hd
        refine WC.skip ?_
        refine WC.region ?_
        refine R.mv .none (.t rfl) ?_  -- t15
        refine R.bin .none (.t rfl) .c (b_add (by omega) (by omega)) ?_  -- t16
        refine R.mv .none (.t rfl) ?_  -- t5
        refine WR.nil ?_
        exact ⟨l1.length - (i + 1), by omega, rfl, i + 1, rfl, by omega, by rw [take_snoc hp, take_snoc hq, hti, hpq], .cons rfl (.cons rfl (.cons rfl (.nil _)))⟩
    · refine WC.exit ?_ -- 0
      show WC F _ _ _ _ _
      obtain rfl : i = l1.length := by omega
      have he : l1 = l2 := by
        rw [List.take_length, hle, List.take_length] at hti; exact hti
      refine WC.seq (WC.region ?_)
      refine R.mv .none .c ?_  -- t4
      refine WR.nil ?_
      refine WC.ret ?_
      refine ⟨_, .t rfl .nil, ?_, rfl⟩
      rw [decide_eq_true he]; rfl

/-- records of numbers -/
def recM (b : UInt8) : RecT := (1 + b.toNat % 9, b.toNat / 64, [b, 120])
theorem recs_ok (fs : Fs F) {v : V} {l : List UInt8} {h : Hp} (w : WF h) (hl : Sl h v 1 l.length (l.map byteV)) (hll : l.length ≤ 1000) :
    ∃ rv h' o, CallE F 10 [v] h rv h' ∧ Own h' rv 3 l.length (recsV (l.map recM)) o ∧ (∀ b, o = some b → h.next.toNat ≤ b.toNat) ∧ Keep h.next.toNat h h' := by
  suffices hs : Said F 10 [v] h (fun rv h' => ∃ o, Own h' rv 3 l.length (recsV (l.map recM)) o ∧ (∀ b, o = some b → h.next.toNat ≤ b.toNat) ∧ Keep h.next.toNat h h') (fun _ _ => False) by
    obtain ⟨rv, h', h1, o, h3⟩ := hs.ret
    exact ⟨rv, h', o, h1, h3⟩
  refine said_of fs.h10 ?_
  show WC F _ b10 [(0, v)] h _
  refine WC.seq (WC.region ?_)
  refine R.mv .none .c ?_  -- t2
  refine WR.nil ?_
  refine WC.seq (WC.region ?_)
  refine R.mv .none .c ?_  -- t3
  refine WR.nil ?_
  refine WC.seq ?_
  refine WC.seq (WC.region ?_)
  refine R.mv .none .c ?_  -- t4
  refine WR.nil ?_
  refine WC.block ?_ -- 0
  refine WC.loop (fun μ E k => ∃ (i : Nat) (ov : V) (o : Option Pa), μ = l.length - i ∧ i ≤ l.length ∧ Own k ov 3 i (recsV ((l.take i).map recM)) o ∧ (∀ b, o = some b → h.next.toNat ≤ b.toNat) ∧ Keep h.next.toNat h k ∧
      Sub [(0, v), (3, ov), (4, .int .i64 (i : Int))] E) (m := l.length)
    ⟨0, .no .sl, none, rfl, by omega, Own.none _ 3, (fun _ e => by cases e), Keep.refl w, .cons rfl (.cons rfl (.cons rfl (.nil _)))⟩ ?_
  rintro μ E k ⟨i, ov, o, rfl, hi, ho, hob, hk, hE⟩
  refine WC.sub hE ?_
  have hlk := hl.ext hk w (Nat.le_refl _)
  have wk := hk.wf
  refine WC.seq ?_
  refine WC.seq (WC.region ?_)
  refine R.mv .none (.t rfl) ?_  -- t5
  refine R.mv .none (.t rfl) ?_  -- t6
  refine R.lenSlv .none (.t rfl) hlk ?_  -- t7
  refine R.bin .none (.t rfl) (.t rfl) b_lss ?_  -- t8
  refine WR.nil ?_
  refine WC.condD (.t rfl) (fun hlt => ?_) (fun hge => ?_) -- t8
  · refine WC.skip ?_
    have hi1 : i < l.length := by omega
    obtain ⟨b, hb⟩ : ∃ b, l[i]? = some b := ⟨_, List.getElem?_eq_getElem hi1⟩
    have hb8 : b.toNat < 256 := UInt8.toNat_lt b
    rcases hlk.2 with ⟨_, h0⟩ | ⟨la, lo, lc, rfl, hcc⟩
    · omega
    have hld : loadV k none (.ptr la (lo + i * 1)) = some (.int .u8 (b.toNat : Int)) := by
      rw [Nat.mul_one]; exact hcc.one (i := i) (v := .int .u8 (b.toNat : Int)) (by rw [List.getElem?_map, hb]; rfl)
    have k1 := Keep.made wk (.cells [.int .u8 (b.toNat : Int), .int .u8 120] false)
    have s1 : Sl (k.alloc (.cells [.int .u8 (b.toNat : Int), .int .u8 120] false)) (.sl k.next 0 2 (.ex 2)) 1 2 ([b, 120].map byteV) := ⟨rfl, .inr ⟨k.next, 0, .ex 2, rfl, .of (get_alloc_self k _) rfl⟩⟩
    have k2 := Keep.made k1.wf (.cells (recV (recM b)) false)
    have x1 : (k.alloc (.cells [.int .u8 (b.toNat : Int), .int .u8 120] false)).next.toNat = k.next.toNat + 1 := next_alloc _ _
    have ho2 := Own.keep k1.wf (Own.keep wk ho k1) k2
    have s2 : Sl ((k.alloc (.cells [.int .u8 (b.toNat : Int), .int .u8 120] false)).alloc (.cells (recV (recM b)) false)) (.sl (k.alloc (.cells [.int .u8 (b.toNat : Int), .int .u8 120] false)).next 0 1 (.ex 1)) 3 1 (recV (recM b)) := ⟨rfl, .inr ⟨_, 0, .ex 1, rfl, .of (get_alloc_self _ _) rfl⟩⟩
    obtain ⟨h5, f1, f2, f3, f4, f5⟩ := ho2.app k2.wf (by omega) (by omega) s2.src.1 s2.src.2 rfl rfl (by omega)
    have n2 := k2.next
    have nk := hk.next
    refine WC.seq (WC.block (WC.region ?_))
    refine R.mv .none (.t rfl) ?_  -- t11
    refine R.mv .none (.t rfl) ?_  -- t12
    refine R.mv .none (.t rfl) ?_  -- t13
    refine R.iAddr .none (.t rfl) (.t rfl) hi1 ?_  -- t14
    refine R.load .none (.t rfl) hld ?_  -- t15
    refine R.bin .none (.t rfl) .c (b_remI (m := 9) (by omega)) ?_  -- t16
    refine R.convI .none (.t rfl) ?_  -- t17
    rw [wrapF_nat .i64 (a := b.toNat % 9) (show _ ≤ 9223372036854775807 by omega)]
    refine R.bin .none .c (.t rfl) (b_add (by omega) (by omega)) ?_  -- t18
    rw [show (1 + ((b.toNat % 9 : Nat) : Int)) = ((1 + b.toNat % 9 : Nat) : Int) by omega]
    refine R.mv .none (.t rfl) ?_  -- t19
    refine R.mv .none (.t rfl) ?_  -- t20
    refine R.iAddr .none (.t rfl) (.t rfl) hi1 ?_  -- t21
    refine R.load .none (.t rfl) hld ?_  -- t22
    refine R.bin .none (.t rfl) .c (b_quo8 (m := 64) (by omega) hb8) ?_  -- t23
    refine R.convI .none (.t rfl) ?_  -- t24
    rw [wrapF_nat .i64 (a := b.toNat / 64) (show _ ≤ 9223372036854775807 by omega)]
    refine R.mv .none (.t rfl) ?_  -- t25
    refine R.mv .none (.t rfl) ?_  -- t26
    refine R.iAddr .none (.t rfl) (.t rfl) hi1 ?_  -- t27
    refine R.load .none (.t rfl) hld ?_  -- t28
    refine R.buildSl .none (.cons (.t rfl) rfl rfl rfl (.cons .c rfl rfl rfl .nil)) rfl ?_  -- t29
    refine R.convStrSl .none (.t rfl) s1 ?_  -- t30
    refine R.build .none (.cons (.t rfl) rfl rfl rfl (.cons (.t rfl) rfl rfl rfl (.cons (.t rfl) rfl rfl rfl .nil))) ?_  -- t31
    refine R.buildSl .none (.cons (.t rfl) rfl rfl rfl .nil) rfl ?_  -- t32
    refine R.app .none (.t rfl) (.t rfl) f1 ?_  -- t33
    refine R.mv .none (.t rfl) ?_  -- t3
    refine WR.nil ?_
    refine WC.region ?_
    refine R.mv .none (.t rfl) ?_  -- t9
    refine R.bin .none (.t rfl) .c (b_add (by omega) (by omega)) ?_  -- t10
    refine R.mv .none (.t rfl) ?_  -- t4
    refine WR.nil ?_
    refine ⟨l.length - (i + 1), by omega, i + 1, _, some ((k.alloc (.cells [.int .u8 (b.toNat : Int), .int .u8 120] false)).alloc (.cells (recV (recM b)) false)).next, rfl, by omega, ?_, ?_, ?_, .cons rfl (.cons rfl (.cons rfl (.nil _)))⟩
    · have : recsV ((l.take (i + 1)).map recM) = recsV ((l.take i).map recM) ++ recV (recM b) := by rw [take_snoc hb]; simp [recsV]
      rw [this]
      exact f2
    · intro x hx; injection hx with hx; subst hx; omega
    · refine ⟨by omega, fun x hx => ?_, f3⟩
      rw [f5 x (by omega) (fun e => by have := hob x e.symm; omega), k2.old x (by omega), k1.old x (by omega), hk.old x hx]
  · refine WC.exit ?_ -- 0
    show WC F _ _ _ _ _
    obtain rfl : i = l.length := by omega
    rw [List.take_length] at ho
    refine WC.seq (WC.region ?_)
    refine R.mv .none (.t rfl) ?_  -- t34
    refine R.mv .none (.t rfl) ?_  -- t2
    refine WR.nil ?_
    refine WC.ret ?_
    exact ⟨_, .t rfl .nil, o, ho, hob, hk⟩
end Go.Ev.Root
