/- RootBack: what the functions do, said for all arguments -/
import Derived.Test.YtilaoinonapokaaWA
namespace Go.Ev.Root
open Go.Ev
variable {F : Nat → Option FnI}
/-- a block that is made -/
def wr (kind gen : Int) (load : List UInt8) (bad : Bool) : List V := [.int .i64 kind, .int .i64 gen, .str load, .bool bad]

theorem look_ok (fs : Fs F) {a : Pa} {kind gen n most : Int} {load : List UInt8} {b : Bool} {h : Hp} (w : WF h) (hg : h.get a = some (.cells (wr kind gen load b) false)) :
    ∃ h', CallE F 22 [.ptr a 0, .int .i64 n, .int .i64 most] h (.ptr a 0) h' ∧ Upd h a (wr kind gen load (b || (decide (n < 0) || decide (most < n)))) h' := by
  refine ⟨h.put a (.cells (wr kind gen load (b || (decide (n < 0) || decide (most < n)))) false), Said.eq (said_of fs.h22 ?_), .put w hg _⟩
  show WC F _ b22 [(0, .ptr a 0), (1, .int .i64 n), (2, .int .i64 most)] h _
  have hc := Cells.of hg rfl
  refine WC.seq (WC.region ?_)
  refine R.mv .none .c ?_  -- t6 := smMv (.no .ptr)
  refine WR.nil ?_
  refine WC.seq (WC.region ?_)
  refine R.mv .none (.t rfl) ?_  -- t7 := smMv t0
  refine R.mv .none (.t rfl) ?_  -- t8 := smMv t0
  refine R.nil? .none (.t rfl) ?_  -- t9 := smNil t8
  refine R.fAddr .none (.t rfl) ?_  -- t10 := smFAddr 3 t9
  refine R.load .none (.t rfl) (hc.one rfl) ?_  -- t11 := smLoad none t10
  refine R.mv .none (.t rfl) ?_  -- t12 := smMv t11
  cases b with
  | true =>
    refine R.no (.no rfl rfl) ?_  -- t13 := smMv t1  IF some (pa 12, false)
    refine R.no (.no rfl rfl) ?_  -- t14
    refine R.pick .none (.t rfl) .c (.t rfl) ?_  -- t15 := smPick t12 (.bool true) t14
    refine R.mv .none (.t rfl) ?_  -- t16 := smMv t15
    refine R.no (.no rfl rfl) ?_  -- t17 := smMv t1  IF some (pa 16, false)
    refine R.no (.no rfl rfl) ?_  -- t18 := smMv t2  IF some (pa 16, false)
    refine R.no (.no rfl rfl) ?_  -- t19
    refine R.pick .none (.t rfl) .c (.t rfl) ?_  -- t20 := smPick t16 (.bool true) t19
    refine R.nil? .none (.t rfl) ?_  -- t21 := smNil t7
    refine R.fAddr .none (.t rfl) ?_  -- t22 := smFAddr 3 t21
    refine R.store .none (.t rfl) (.t rfl) rfl (storeN_of hg rfl rfl) ?_  -- tNone := smStore 1 t22 t20
    refine WR.nil ?_
    refine WC.seq (WC.region ?_)
    refine R.mv .none (.t rfl) ?_  -- t23 := smMv t0
    refine R.mv .none (.t rfl) ?_  -- t6 := smMv t23
    refine WR.nil ?_
    refine WC.ret ?_
    exact ⟨_, .t rfl .nil, rfl, rfl⟩
  | false =>
    refine R.mv (.yes rfl) (.t rfl) ?_  -- t13 := smMv t1  IF some (pa 12, false)
    refine R.bin (.yes rfl) (.t rfl) .c b_lss ?_  -- t14 := smBin .lss (.flat .i) t13 (.int .i64 0)  IF some (pa 12, false)
    refine R.pick .none (.t rfl) .c (.t rfl) ?_  -- t15 := smPick t12 (.bool true) t14
    refine R.mv .none (.t rfl) ?_  -- t16 := smMv t15
    by_cases h0 : n < 0
    · refine R.no (.no rfl (by simp [h0])) ?_  -- t17 := smMv t1  IF some (pa 16, false)
      refine R.no (.no rfl (by simp [h0])) ?_  -- t18 := smMv t2  IF some (pa 16, false)
      refine R.no (.no rfl (by simp [h0])) ?_  -- t19
      refine R.pick .none (.t rfl) .c (.t rfl) ?_  -- t20 := smPick t16 (.bool true) t19
      refine R.nil? .none (.t rfl) ?_  -- t21 := smNil t7
      refine R.fAddr .none (.t rfl) ?_  -- t22 := smFAddr 3 t21
      refine R.store .none (.t rfl) (.t rfl) (by simp [h0, V.cells]) (storeN_of hg (by simp [h0, V.cells, allScalar, isScalar]) (by simp only [h0, decide_true, cond_true]; rfl)) ?_
      refine WR.nil ?_
      refine WC.seq (WC.region ?_)
      refine R.mv .none (.t rfl) ?_  -- t23 := smMv t0
      refine R.mv .none (.t rfl) ?_  -- t6 := smMv t23
      refine WR.nil ?_
      refine WC.ret ?_
      exact ⟨_, .t rfl .nil, rfl, by simp [h0, wr]⟩
    · refine R.mv (.is rfl (by simp [h0])) (.t rfl) ?_  -- t17 := smMv t1  IF some (pa 16, false)
      refine R.mv (.is rfl (by simp [h0])) (.t rfl) ?_  -- t18 := smMv t2  IF some (pa 16, false)
      refine R.bin (.is rfl (by simp [h0])) (.t rfl) (.t rfl) b_gtr ?_  -- t19
      refine R.pick .none (.t rfl) .c (.t rfl) ?_  -- t20 := smPick t16 (.bool true) t19
      refine R.nil? .none (.t rfl) ?_  -- t21 := smNil t7
      refine R.fAddr .none (.t rfl) ?_  -- t22 := smFAddr 3 t21
      refine R.store .none (.t rfl) (.t rfl) (by simp [h0, V.cells]) (storeN_of hg (by simp [h0, V.cells, allScalar, isScalar]) (by simp only [h0, decide_false, cond_false]; rfl)) ?_
      refine WR.nil ?_
      refine WC.seq (WC.region ?_)
      refine R.mv .none (.t rfl) ?_  -- t23 := smMv t0
      refine R.mv .none (.t rfl) ?_  -- t6 := smMv t23
      refine WR.nil ?_
      refine WC.ret ?_
      exact ⟨_, .t rfl .nil, rfl, by simp [h0, wr]⟩

theorem begun_ok (fs : Fs F) {kind gen : Int} {h : Hp} (w : WF h) :
    ∃ h', CallE F 19 [.int .i64 kind, .int .i64 gen] h (.ptr h.next 0) h' ∧ Upd (h.alloc (.cells (wr kind gen [] false) false)) h.next (wr kind gen [] (decide (gen < 0) || decide (1073741824 < gen))) h' := by
  obtain ⟨h', c1, c2⟩ := look_ok fs (n := gen) (most := 1073741824) (w.alloc (.cells (wr kind gen [] false) false)) (get_alloc_self h _)
  refine ⟨h', Said.eq (said_of fs.h19 ?_), c2⟩
  show WC F _ b19 [(0, .int .i64 kind), (1, .int .i64 gen)] h _
  refine WC.seq (WC.region ?_)
  refine R.mv .none .c ?_  -- t4 := smMv (.no .ptr)
  refine WR.nil ?_
  refine WC.seq (WC.region ?_)
  refine R.mv .none (.t rfl) ?_  -- t6 := smMv t0
  refine R.mv .none (.t rfl) ?_  -- t7 := smMv t1
  refine R.build .none (.cons (.t rfl) rfl rfl rfl (.cons (.t rfl) rfl rfl rfl .nil)) ?_
  refine R.build .none (.cons (.t rfl) rfl rfl rfl .nil) ?_
  refine R.box .none (.t rfl) rfl ?_  -- t10 := smBox t9
  refine R.mv .none (.t rfl) ?_  -- t5 := smMv t10
  refine WR.nil ?_
  refine WC.seq (WC.region ?_)
  refine R.mv .none (.t rfl) ?_  -- t11 := smMv t5
  refine R.mv .none (.t rfl) ?_  -- t12 := smMv t1
  refine R.call .none (.cons (.t rfl) (.cons (.t rfl) (.cons .c .nil))) c1 ?_
  refine R.mv .none (.t rfl) ?_  -- t4 := smMv t13
  refine WR.nil ?_
  refine WC.ret ?_
  exact ⟨_, .t rfl .nil, rfl, rfl⟩

theorem Clone_ok (fs : Fs F) {bv : V} {bs : List UInt8} {h : Hp} (w : WF h) (hb : Sl h bv 1 bs.length (bs.map byteV)) (hlen : bs.length ≤ 1073741824) :
    ∃ v h' s, CallE F 31 [bv] h v h' ∧ Own h' v 1 bs.length (bs.map byteV) s ∧ Keep h.next.toNat h h' ∧ ∀ a, s = some a → h.next.toNat ≤ a.toNat := by
  suffices hs : Said F 31 [bv] h (fun v h' => ∃ s, Own h' v 1 bs.length (bs.map byteV) s ∧ Keep h.next.toNat h h' ∧ ∀ a, s = some a → h.next.toNat ≤ a.toNat) (fun _ _ => False) by
    obtain ⟨v, h', h1, s, h2, h3, h4⟩ := hs.ret
    exact ⟨v, h', s, h1, h2, h3, h4⟩
  refine said_of fs.h31 ?_
  show WC F _ b31 [(0, bv)] h _
  refine WC.seq (WC.region ?_)
  refine R.mv .none .c ?_  -- t2 := smMv (.no .sl)
  refine WR.nil ?_
  refine WC.seq (WC.seq (WC.region ?_))
  refine R.mv .none (.t rfl) ?_  -- t3 := smMv t0
  rcases hb.2 with ⟨rfl, h0⟩ | ⟨a, o, c, rfl, hc⟩
  · have hbs : bs = [] := List.eq_nil_of_length_eq_zero h0
    subst hbs
    refine R.bin .none (.t rfl) .c rfl ?_  -- t4
    refine WR.nil ?_
    refine WC.cond (.t rfl) ?_
    refine WC.seq (WC.region ?_)
    refine R.mv .none .c ?_  -- t2 := smMv (.no .sl)
    refine WR.nil ?_
    refine WC.ret ?_
    exact ⟨_, .t rfl .nil, none, Own.none h 1, .refl w, fun a e => by cases e⟩
  · refine R.bin .none (.t rfl) .c rfl ?_  -- t4
    refine WR.nil ?_
    refine WC.cond (.t rfl) ?_
    refine WC.skip ?_
    refine WC.seq (WC.region ?_)
    refine R.buildSl .none .nil rfl ?_  -- t5 := smBuildSl [] 0 []
    refine R.mv .none (.t rfl) ?_  -- t6 := smMv t0
    have k1 : Keep h.next.toNat h (h.alloc (.cells [] false)) := (Keep.refl w).alloc (Nat.le_refl _) _
    have o1 : Own (h.alloc (.cells [] false)) (.sl h.next 0 0 (.ex 0)) 1 0 [] (some h.next) := ⟨rfl, rfl, .inr (.inr ⟨h.next, rfl, rfl, get_alloc_self h _, rfl⟩)⟩
    obtain ⟨q1, q2⟩ := (hb.ext k1 w (Nat.le_refl _)).src
    by_cases hz : bs.length = 0
    · have hbs : bs = [] := List.eq_nil_of_length_eq_zero hz
      subst hbs
      refine R.app .none (.t rfl) (.t rfl) (o1.app0 q1 q2) ?_
      refine R.mv .none (.t rfl) ?_  -- t2 := smMv t7
      refine WR.nil ?_
      refine WC.ret ?_
      exact ⟨_, .t rfl .nil, some h.next, o1, k1, fun a e => by cases e; exact Nat.le_refl _⟩
    · obtain ⟨h2, g1, g2, g3, g4, g5⟩ := o1.app k1.wf (by omega) (by decide) q1 q2 (by simp) (bytes_scalar bs) (by omega)
      refine R.app .none (.t rfl) (.t rfl) g1 ?_
      refine R.mv .none (.t rfl) ?_  -- t2 := smMv t7
      refine WR.nil ?_
      refine WC.ret ?_
      refine ⟨_, .t rfl .nil, some (h.alloc (.cells [] false)).next, ?_, ⟨?_, fun x hx => ?_, g3⟩, fun a e => ?_⟩
      · simp only [Nat.zero_add, List.nil_append] at g2 ⊢; exact g2
      · rw [g4, next_alloc]; omega
      · rw [g5 x (by rw [next_alloc]; omega) (fun e => by cases e; omega)]; exact k1.old x hx
      · cases e; rw [next_alloc]; omega

/-- a number as so many bytes, the lowest first -/
def le : Nat → Nat → List UInt8
  | 0, _ => []
  | k + 1, x => UInt8.ofNat (x % 256) :: le k (x / 256)
theorem le_length : ∀ k x, (le k x).length = k
  | 0, _ => rfl
  | k + 1, x => by rw [le, List.length_cons, le_length k]
theorem le_snoc : ∀ k x, le (k + 1) x = le k x ++ [UInt8.ofNat (x / 256 ^ k % 256)]
  | 0, x => by simp [le]
  | k + 1, x => by
    rw [le, le_snoc k (x / 256), le, List.cons_append, Nat.div_div_eq_div_mul, Nat.pow_succ, Nat.mul_comm (256 ^ k)]
/-- numbers, one behind the other -/
def enc (n : Nat) (xs : List Nat) : List UInt8 := xs.flatMap (le n)
theorem enc_length (n : Nat) (xs : List Nat) : (enc n xs).length = xs.length * n := by
  induction xs with
  | nil => simp [enc]
  | cons a l ih => simp only [enc, List.flatMap_cons, List.length_append, le_length, List.length_cons] at ih ⊢; rw [ih, Nat.add_mul]; omega
theorem enc_snoc (n : Nat) (xs : List Nat) (x : Nat) : enc n (xs ++ [x]) = enc n xs ++ le n x := by simp [enc]
theorem take_snoc {α : Type} {l : List α} {i : Nat} {x : α} (h : l[i]? = some x) : l.take (i + 1) = l.take i ++ [x] := by
  rw [List.take_add_one, h]; rfl

theorem b_shr {q : EqK} {x k : Nat} (hk : k ≤ 7) : binV .shr q (.int .i64 (x : Int)) (.int .i64 (8 * (k : Int))) = some (.int .i64 ((x / 256 ^ k : Nat) : Int)) := by
  show shiftInt false .i64 (x : Int) (8 * (k : Int)) = _
  have h0 : iLt (8 * (k : Int)) 0 = false := by rw [iLt_eq]; simp; omega
  simp only [shiftInt, h0, cond_false]
  have h1 : (8 * (k : Int)).toNat = 8 * k := by omega
  have h2 : min (8 * k) (IntKind.bits .i64) = 8 * k := by simp [IntKind.bits]; omega
  have e : (2 : Int) ^ (8 * k) = ((256 ^ k : Nat) : Int) := by
    have : (256 : Nat) ^ k = 2 ^ (8 * k) := by rw [Nat.pow_mul]
    rw [this, Int.natCast_pow]; rfl
  rw [h1, h2, e, Int.ofNat_fdiv]
theorem conv_u8 (x : Nat) : wrapF .u8 (x : Int) = ((x % 256 : Nat) : Int) := by
  rw [wrapF_eq]
  simp [IntKind.wrap, IntKind.signed, IntKind.bits]
theorem byteV_of (x : Nat) : byteV (UInt8.ofNat (x % 256)) = .int .u8 ((x % 256 : Nat) : Int) := by
  show V.int .u8 (Int.ofNat (UInt8.ofNat (x % 256)).toNat) = _
  congr 1
  show ((UInt8.ofNat (x % 256)).toNat : Int) = _
  rw [UInt8.toNat_ofNat']
  congr 1
  omega

/-- the bytes of a row so far -/
theorem Put_ok (fs : Fs F) {bv lv : V} {bs : List UInt8} {n : Nat} {xs : List Nat} {h : Hp} (w : WF h) (hb : Sl h bv 1 bs.length (bs.map byteV)) (hn : 1 ≤ n) (hn4 : n ≤ 4) (hl : Sl h lv 1 xs.length (xs.map fun (x : Nat) => V.int .i64 (x : Int))) (hlen : bs.length + xs.length * n ≤ 1000000) (hxs : xs.length ≤ 1000000) :
    ∃ v h' s, CallE F 29 [bv, .int .i64 (n : Int), lv] h v h' ∧ Own h' v 1 (bs ++ enc n xs).length ((bs ++ enc n xs).map byteV) s ∧ Keep h.next.toNat h h' ∧ ∀ a, s = some a → h.next.toNat ≤ a.toNat := by
  suffices hs : Said F 29 [bv, .int .i64 (n : Int), lv] h (fun v h' => ∃ s, Own h' v 1 (bs ++ enc n xs).length ((bs ++ enc n xs).map byteV) s ∧ Keep h.next.toNat h h' ∧ ∀ a, s = some a → h.next.toNat ≤ a.toNat) (fun _ _ => False) by
    obtain ⟨v, h', h1, s, h2, h3, h4⟩ := hs.ret
    exact ⟨v, h', s, h1, h2, h3, h4⟩
  obtain ⟨v0, h0, s0, c1, c2, c3, c4⟩ := Clone_ok fs w hb (by omega)
  refine said_of fs.h29 ?_
  show WC F _ b29 [(0, bv), (1, .int .i64 (n : Int)), (2, lv)] h _
  refine WC.seq (WC.region ?_)
  refine R.mv .none .c ?_  -- t6 := smMv (.no .sl)
  refine WR.nil ?_
  refine WC.seq (WC.region ?_)
  refine R.mv .none (.t rfl) ?_  -- t10 := smMv t0
  refine R.call .none (.cons (.t rfl) .nil) c1 ?_  -- t11 := smCallF 119 [t10]
  refine R.mv .none (.t rfl) ?_  -- t0 := smMv t11
  refine WR.nil ?_
  refine WC.seq (WC.seq (WC.region ?_))
  have n1 : decide ((n : Int) < 1) = false := by simp; omega
  have n4 : decide ((4 : Int) < n) = false := by simp; omega
  refine R.mv .none (.t rfl) ?_  -- t12 := smMv t1
  refine R.bin .none (.t rfl) .c b_lss ?_  -- t13
  refine R.mv .none (.t rfl) ?_  -- t14 := smMv t13
  refine R.mv (.is rfl n1) (.t rfl) ?_  -- t15 := smMv t1  IF some (pa 14, false)
  refine R.bin (.is rfl n1) (.t rfl) .c b_gtr ?_  -- t16
  refine R.pick .none (.t rfl) .c (.t rfl) ?_  -- t17 := smPick t14 (.bool true) t16
  refine WR.nil ?_
  refine WC.cond (t := false) (.t (by simp only [n1, n4, cond_false]; rfl)) ?_
  refine WC.skip ?_
  refine WC.seq (WC.seq (WC.region ?_))
  refine R.mv .none (.t rfl) ?_  -- t19 := smMv t2
  refine R.pu .none (fun e he => by rw [OdIs.t (E := _) rfl e he]; exact hl.len) ?_  -- t20
  refine R.mv .none .c ?_  -- t21 := smMv (.int .i64 0)
  refine WR.nil ?_
  refine WC.block ?_ -- 0
  refine WC.loop (fun m E k => ∃ i v s, m = xs.length - i ∧ i ≤ xs.length ∧ Own k v 1 (bs ++ enc n (xs.take i)).length ((bs ++ enc n (xs.take i)).map byteV) s ∧ Keep h.next.toNat h k ∧ (∀ a, s = some a → h.next.toNat ≤ a.toNat) ∧
      Sub [(0, v), (1, .int .i64 (n : Int)), (19, lv), (20, .int .i64 (xs.length : Int)), (21, .int .i64 (i : Int))] E) (m := xs.length)
    ⟨0, v0, s0, by omega, by omega, by simpa [enc] using c2, c3, c4, .cons rfl (.cons rfl (.cons rfl (.cons rfl (.cons rfl (.nil _)))))⟩ ?_
  rintro m E k ⟨i, v, s, rfl, hi, ho, hk, hs, hE⟩
  refine WC.sub hE ?_
  refine WC.seq (WC.region ?_)
  refine R.bin .none (.t rfl) (.t rfl) b_lss ?_  -- t22 := smBin .lss (.flat .i) t21 t20
  refine WR.nil ?_
  refine WC.seq ?_
  refine WC.condD (.t rfl) (fun hlt => ?_) (fun hge => ?_) -- t22
  · refine WC.skip ?_
    have hlt' : i < xs.length := by omega
    obtain ⟨x, hx⟩ : ∃ x, xs[i]? = some x := ⟨_, List.getElem?_eq_getElem hlt'⟩
    have hlk := hl.ext hk w (Nat.le_refl _)
    rcases hlk.2 with ⟨_, h0⟩ | ⟨la, lo, lc, rfl, hc⟩
    · omega
    refine WC.seq (WC.block (WC.seq (WC.region ?_)))
    refine R.iAddr .none (.t rfl) (.t rfl) hlt' ?_  -- t23 := smIAddr none 1 t19 t21
    refine R.load .none (.t rfl) (by rw [Nat.mul_one]; exact hc.one (i := i) (v := .int .i64 (x : Int)) (by rw [List.getElem?_map, hx]; rfl)) ?_  -- t24
    refine R.mv .none (.t rfl) ?_  -- t8 := smMv t24
    refine WR.nil ?_
    refine WC.seq (WC.region ?_)
    refine R.mv .none (.t rfl) ?_  -- t25 := smMv t1
    refine R.mv .none .c ?_  -- t26 := smMv (.int .i64 0)
    refine WR.nil ?_
    refine WC.block ?_ -- 2
    refine WC.loop (fun m E k => ∃ j v s, m = n - j ∧ j ≤ n ∧ Own k v 1 (bs ++ (enc n (xs.take i) ++ le j x)).length ((bs ++ (enc n (xs.take i) ++ le j x)).map byteV) s ∧ Keep h.next.toNat h k ∧ (∀ a, s = some a → h.next.toNat ≤ a.toNat) ∧
        Sub [(0, v), (1, .int .i64 (n : Int)), (19, .sl la lo xs.length lc), (20, .int .i64 (xs.length : Int)), (21, .int .i64 (i : Int)), (8, .int .i64 (x : Int)), (25, .int .i64 (n : Int)), (26, .int .i64 (j : Int))] E) (m := n)
      ⟨0, v, s, by omega, by omega, by simpa [le] using ho, hk, hs, .cons rfl (.cons rfl (.cons rfl (.cons rfl (.cons rfl (.cons rfl (.cons rfl (.cons rfl (.nil _))))))))⟩ ?_
    rintro m E k ⟨j, v, s, rfl, hj, ho, hk, hs, hE⟩
    refine WC.sub hE ?_
    refine WC.seq (WC.region ?_)
    refine R.bin .none (.t rfl) (.t rfl) b_lss ?_  -- t27 := smBin .lss (.flat .i) t26 t25
    refine WR.nil ?_
    refine WC.seq ?_
    refine WC.condD (.t rfl) (fun hlt2 => ?_) (fun hge2 => ?_) -- t27
    · refine WC.skip ?_
      have hj' : j < n := by omega
      have hne := hk.next
      refine WC.seq (WC.block (WC.seq (WC.region ?_)))
      refine R.mv .none (.t rfl) ?_  -- t28 := smMv t26
      refine R.mv .none (.t rfl) ?_  -- t9 := smMv t28
      refine WR.nil ?_
      refine WC.region ?_
      refine R.mv .none (.t rfl) ?_  -- t29 := smMv t0
      refine R.mv .none (.t rfl) ?_  -- t30 := smMv t8
      refine R.mv .none (.t rfl) ?_  -- t31 := smMv t9
      refine R.bin .none .c (.t rfl) (b_mul (by omega) (by omega)) ?_  -- t32
      refine R.bin .none (.t rfl) (.t rfl) (b_shr (by omega)) ?_  -- t33
      refine R.convI .none (.t rfl) ?_  -- t34 := smConvInt .u8 t33
      refine R.buildSl .none (.cons (.t rfl) rfl rfl rfl .nil) rfl ?_  -- t35
      have k1 : Keep h.next.toNat h (k.alloc (.cells [.int .u8 (wrapF .u8 ((x / 256 ^ j : Nat) : Int))] false)) := hk.alloc hk.next _
      have o1 : Own (k.alloc (.cells [.int .u8 (wrapF .u8 ((x / 256 ^ j : Nat) : Int))] false)) v 1 _ _ s := ho.same (fun a e => by subst e; exact get_alloc_lt (ho.lt hk.wf))
      have s1 : Sl (k.alloc (.cells [.int .u8 (wrapF .u8 ((x / 256 ^ j : Nat) : Int))] false)) (.sl k.next 0 1 (.ex 1)) 1 1 [.int .u8 (wrapF .u8 ((x / 256 ^ j : Nat) : Int))] := ⟨rfl, .inr ⟨k.next, 0, .ex 1, rfl, .of (get_alloc_self k _) rfl⟩⟩
      obtain ⟨q1, q2⟩ := s1.src
      have hll : (bs ++ (enc n (xs.take i) ++ le j x)).length ≤ 1000000 := by
        simp only [List.length_append, enc_length, le_length, List.length_take]
        have : min i xs.length * n + n ≤ xs.length * n := by rw [Nat.min_eq_left hi, ← Nat.succ_mul]; exact Nat.mul_le_mul_right n hlt'
        omega
      obtain ⟨h2, g1, g2, g3, g4, g5⟩ := o1.app k1.wf (by omega) (by decide) q1 q2 rfl rfl (by omega)
      refine R.app .none (.t rfl) (.t rfl) g1 ?_  -- t36 := smApp 1 t29 t35
      refine R.mv .none (.t rfl) ?_  -- t0 := smMv t36
      refine WR.nil ?_
      refine WC.region ?_
      refine R.bin .none (.t rfl) .c (b_add (by omega) (by omega)) ?_  -- t37
      refine R.mv .none (.t rfl) ?_  -- t26 := smMv t37
      refine WR.nil ?_
      refine ⟨n - (j + 1), by omega, j + 1, _, some (k.alloc (.cells [.int .u8 (wrapF .u8 ((x / 256 ^ j : Nat) : Int))] false)).next, rfl, by omega, ?_, ⟨by rw [g4]; have := k1.next; omega, fun y hy => ?_, g3⟩, fun a e => ?_, .cons rfl (.cons rfl (.cons rfl (.cons rfl (.cons rfl (.cons rfl (.cons rfl (.cons rfl (.nil _))))))))⟩
      · have e1 : bs ++ (enc n (xs.take i) ++ le (j + 1) x) = (bs ++ (enc n (xs.take i) ++ le j x)) ++ [UInt8.ofNat (x / 256 ^ j % 256)] := by rw [le_snoc]; simp
        have e2 : ((bs ++ (enc n (xs.take i) ++ le j x)) ++ [UInt8.ofNat (x / 256 ^ j % 256)]).length = (bs ++ (enc n (xs.take i) ++ le j x)).length + 1 := by rw [List.length_append]; rfl
        rw [e1, e2, List.map_append, List.map_cons, List.map_nil, byteV_of, ← conv_u8]
        exact g2
      · rw [g5 y (by have := k1.next; omega) (fun e => by have := hs y e.symm; omega)]; exact k1.old y hy
      · cases e; exact k1.next
    · refine WC.exit ?_ -- 2
      show WC F _ _ _ _ _
      refine WC.region ?_
      refine R.bin .none (.t rfl) .c (b_add (by omega) (by omega)) ?_  -- t38
      refine R.mv .none (.t rfl) ?_  -- t21 := smMv t38
      refine WR.nil ?_
      have hj' : j = n := by omega
      subst hj'
      refine ⟨xs.length - (i + 1), by omega, i + 1, v, s, rfl, by omega, ?_, hk, hs, .cons rfl (.cons rfl (.cons rfl (.cons rfl (.cons rfl (.nil _)))))⟩
      rw [take_snoc hx, enc_snoc]
      exact ho
  · refine WC.exit ?_ -- 0
    show WC F _ _ _ _ _
    refine WC.seq (WC.region ?_)
    refine R.mv .none (.t rfl) ?_  -- t39 := smMv t0
    refine R.mv .none (.t rfl) ?_  -- t6 := smMv t39
    refine WR.nil ?_
    refine WC.ret ?_
    have hi' : i = xs.length := by omega
    subst hi'
    rw [List.take_length] at ho
    exact ⟨_, .t rfl .nil, s, ho, hk, hs⟩

theorem nums_ok (fs : Fs F) {a : Pa} {kind gen : Int} {load : List UInt8} {b : Bool} {n most : Nat} {lv : V} {xs : List Nat} {h : Hp} (w : WF h) (hg : h.get a = some (.cells (wr kind gen load b) false)) (hn : 1 ≤ n) (hn4 : n ≤ 4)
    (hl : Sl h lv 1 xs.length (xs.map fun (x : Nat) => V.int .i64 (x : Int))) (hne : ∀ c o m cp, lv = .sl c o m cp → c ≠ a) (hlen : load.length + xs.length * n ≤ 1000000) (hxs : xs.length ≤ 1000000) :
    ∃ h', CallE F 20 [.ptr a 0, .int .i64 (n : Int), .int .i64 (most : Int), lv] h (.tup []) h' ∧ Upd h a (wr kind gen (load ++ enc n xs) (b || xs.any fun x => decide (most < x))) h' := by
  suffices hs : Said F 20 [.ptr a 0, .int .i64 (n : Int), .int .i64 (most : Int), lv] h (fun v h' => v = .tup [] ∧ Upd h a (wr kind gen (load ++ enc n xs) (b || xs.any fun x => decide (most < x))) h') (fun _ _ => False) by
    obtain ⟨v, h', h1, rfl, h3⟩ := hs.ret
    exact ⟨h', h1, h3⟩
  have ha := w.lt hg
  refine said_of fs.h20 ?_
  show WC F _ b20 [(0, .ptr a 0), (1, .int .i64 (n : Int)), (2, .int .i64 (most : Int)), (3, lv)] h _
  refine WC.seq (WC.seq (WC.region ?_))
  refine R.mv .none (.t rfl) ?_  -- t10 := smMv t3
  refine R.lenSlv .none (.t rfl) hl ?_  -- t11 := smLenSl t10
  refine R.mv .none .c ?_  -- t12 := smMv (.int .i64 0)
  refine WR.nil ?_
  refine WC.block ?_ -- 0
  refine WC.loop (fun m E k => ∃ i, m = xs.length - i ∧ i ≤ xs.length ∧ Upd h a (wr kind gen load (b || (xs.take i).any fun x => decide (most < x))) k ∧
      Sub [(0, .ptr a 0), (1, .int .i64 (n : Int)), (2, .int .i64 (most : Int)), (3, lv), (10, lv), (11, .int .i64 (xs.length : Int)), (12, .int .i64 (i : Int))] E) (m := xs.length)
    ⟨0, by omega, by omega, by simpa using Upd.refl w hg, .cons rfl (.cons rfl (.cons rfl (.cons rfl (.cons rfl (.cons rfl (.cons rfl (.nil _)))))))⟩ ?_
  rintro m E k ⟨i, rfl, hi, hu, hE⟩
  refine WC.sub hE ?_
  refine WC.seq (WC.region ?_)
  refine R.bin .none (.t rfl) (.t rfl) b_lss ?_  -- t13 := smBin .lss (.flat .i) t12 t11
  refine WR.nil ?_
  refine WC.seq ?_
  have hlk := hl.upd w hu hne
  refine WC.condD (.t rfl) (fun hlt => ?_) (fun hge => ?_) -- t13
  · refine WC.skip ?_
    have hlt' : i < xs.length := by omega
    obtain ⟨x, hx⟩ : ∃ x, xs[i]? = some x := ⟨_, List.getElem?_eq_getElem hlt'⟩
    rcases hlk.2 with ⟨_, h0⟩ | ⟨la, lo, lc, rfl, hc⟩
    · omega
    refine WC.seq (WC.block (WC.seq (WC.region ?_)))
    refine R.iAddr .none (.t rfl) (.t rfl) hlt' ?_  -- t14 := smIAddr none 1 t10 t12
    refine R.load .none (.t rfl) (by rw [Nat.mul_one]; exact hc.one (i := i) (v := .int .i64 (x : Int)) (by rw [List.getElem?_map, hx]; rfl)) ?_  -- t15
    refine R.mv .none (.t rfl) ?_  -- t9 := smMv t15
    refine WR.nil ?_
    obtain ⟨k2, c1, c2⟩ := look_ok fs (n := (x : Int)) (most := (most : Int)) hu.wf hu.get
    refine WC.region ?_
    refine R.mv .none (.t rfl) ?_  -- t16 := smMv t0
    refine R.mv .none (.t rfl) ?_  -- t17 := smMv t9
    refine R.mv .none (.t rfl) ?_  -- t18 := smMv t2
    refine R.call .none (.cons (.t rfl) (.cons (.t rfl) (.cons (.t rfl) .nil))) c1 ?_  -- t19
    refine WR.nil ?_
    refine WC.region ?_
    refine R.bin .none (.t rfl) .c (b_add (by omega) (by omega)) ?_  -- t20
    refine R.mv .none (.t rfl) ?_  -- t12 := smMv t20
    refine WR.nil ?_
    refine ⟨xs.length - (i + 1), by omega, i + 1, rfl, by omega, ?_, .cons rfl (.cons rfl (.cons rfl (.cons rfl (.cons rfl (.cons rfl (.cons rfl (.nil _)))))))⟩
    have e1 : (b || (xs.take (i + 1)).any fun x => decide (most < x)) = ((b || (xs.take i).any fun x => decide (most < x)) || (decide ((x : Int) < 0) || decide ((most : Int) < (x : Int)))) := by
      rw [take_snoc hx, List.any_append, Bool.or_assoc]
      have : decide ((x : Int) < 0) = false := by simp
      rw [this]; simp
    rw [e1]
    exact hu.trans c2
  · refine WC.exit ?_ -- 0
    show WC F _ _ _ _ _
    have hi' : i = xs.length := by omega
    subst hi'
    rw [List.take_length] at hu
    have k1 := Keep.made hu.wf (.cells (load.map byteV) false)
    have hu1 := hu.keep ha k1
    have s1 : Sl (k.alloc (.cells (load.map byteV) false)) (.sl k.next 0 load.length (.un 1)) 1 load.length (load.map byteV) := ⟨by simp, .inr ⟨k.next, 0, .un 1, rfl, .of (get_alloc_self k _) rfl⟩⟩
    have hlk1 := hl.upd w hu1 hne
    obtain ⟨v, k3, s, c1, c2, c3, c4⟩ := Put_ok fs k1.wf s1 hn hn4 hlk1 hlen hxs
    have hu2 := hu1.keep ha c3
    refine WC.region ?_
    refine R.mv .none (.t rfl) ?_  -- t21 := smMv t0
    refine R.mv .none (.t rfl) ?_  -- t22 := smMv t0
    refine R.nil? .none (.t rfl) ?_  -- t23 := smNil t22
    refine R.fAddr .none (.t rfl) ?_  -- t24 := smFAddr 0 t23
    refine R.fAddr .none (.t rfl) ?_  -- t25 := smFAddr 2 t24
    refine R.load .none (.t rfl) ((Cells.of hu.get rfl).one (i := 2) rfl) ?_  -- t26 := smLoad none t25
    refine R.convBytes .none (.t rfl) ?_  -- t27 := smConvBytes t26
    refine R.mv .none (.t rfl) ?_  -- t28 := smMv t1
    refine R.mv .none (.t rfl) ?_  -- t29 := smMv t3
    refine R.call .none (.cons (.t rfl) (.cons (.t rfl) (.cons (.t rfl) .nil))) c1 ?_  -- t30
    refine R.convStrSl .none (.t rfl) c2.sl ?_  -- t31 := smConvStr t30
    refine R.nil? .none (.t rfl) ?_  -- t32 := smNil t21
    refine R.fAddr .none (.t rfl) ?_  -- t33 := smFAddr 0 t32
    refine R.fAddr .none (.t rfl) ?_  -- t34 := smFAddr 2 t33
    refine R.store .none (.t rfl) (.t rfl) rfl (storeN_of hu2.get rfl rfl) ?_
    refine WR.nil ?_
    exact ⟨_, .nil, rfl, hu2.trans (Upd.put hu2.wf hu2.get _)⟩

/-! pointers: two numbers each -/
def ptrV (p : Nat × Nat) : List V := [.int .i64 (p.1 : Int), .int .i64 (p.2 : Int)]
def ptrsV (ps : List (Nat × Nat)) : List V := ps.flatMap ptrV
def encP (ps : List (Nat × Nat)) : List UInt8 := ps.flatMap fun p => le 2 p.1 ++ le 4 p.2
def badP (p : Nat × Nat) : Bool := decide (65535 < p.1) || decide (1073741824 < p.2)
/-- elements of k cells each -/
theorem flat_get {α : Type} (f : α → List V) (k : Nat) (hf : ∀ a, (f a).length = k) : ∀ (l : List α) (j : Nat) (a : α) (i : Nat), l[j]? = some a → i < k → (l.flatMap f)[j * k + i]? = (f a)[i]?
  | [], j, a, i, h, _ => by simp at h
  | b :: l, 0, a, i, h, hi => by
    simp at h; subst h
    rw [List.flatMap_cons, Nat.zero_mul, Nat.zero_add, List.getElem?_append_left (by rw [hf]; exact hi)]
  | b :: l, j + 1, a, i, h, hi => by
    have ih := flat_get f k hf l j a i (by simpa using h) hi
    rw [List.flatMap_cons, List.getElem?_append_right (by rw [hf, Nat.add_mul]; omega), hf, ← ih]
    congr 1
    rw [Nat.add_mul]; omega
theorem flat_len {α : Type} (f : α → List V) (k : Nat) (hf : ∀ a, (f a).length = k) (l : List α) : (l.flatMap f).length = l.length * k := by
  induction l with
  | nil => simp
  | cons a l ih => rw [List.flatMap_cons, List.length_append, hf, ih, List.length_cons, Nat.add_mul]; omega
theorem flat_agg {α : Type} (f : α → List V) (k : Nat) (hf : ∀ a, (f a).length = k) {l : List α} {j : Nat} {a : α} (h : l[j]? = some a) : ((l.flatMap f).drop (j * k)).take k = f a := by
  apply List.ext_getElem?
  intro i
  rw [List.getElem?_take]
  by_cases hi : i < k
  · rw [if_pos hi, List.getElem?_drop, flat_get f k hf l j a i h hi]
  · rw [if_neg hi, List.getElem?_eq_none (by rw [hf]; omega)]
theorem encP_length (ps : List (Nat × Nat)) : (encP ps).length = ps.length * 6 := by
  induction ps with
  | nil => rfl
  | cons a l ih => simp only [encP, List.flatMap_cons, List.length_append, le_length, List.length_cons] at ih ⊢; rw [ih]; omega
theorem encP_snoc (ps : List (Nat × Nat)) (p : Nat × Nat) : encP (ps ++ [p]) = encP ps ++ (le 2 p.1 ++ le 4 p.2) := by simp [encP]

theorem ptrs_ok (fs : Fs F) {a : Pa} {kind gen : Int} {load : List UInt8} {b : Bool} {lv : V} {ps : List (Nat × Nat)} {h : Hp} (w : WF h) (hg : h.get a = some (.cells (wr kind gen load b) false))
    (hl : Sl h lv 2 ps.length (ptrsV ps)) (hne : ∀ c o m cp, lv = .sl c o m cp → c ≠ a) (hlen : load.length + ps.length * 6 ≤ 900000) :
    ∃ h', CallE F 23 [.ptr a 0, lv] h (.tup []) h' ∧ Upd h a (wr kind gen (load ++ encP ps) (b || ps.any badP)) h' := by
  suffices hs : Said F 23 [.ptr a 0, lv] h (fun v h' => v = .tup [] ∧ Upd h a (wr kind gen (load ++ encP ps) (b || ps.any badP)) h') (fun _ _ => False) by
    obtain ⟨v, h', h1, rfl, h3⟩ := hs.ret
    exact ⟨h', h1, h3⟩
  have ha := w.lt hg
  refine said_of fs.h23 ?_
  show WC F _ b23 [(0, .ptr a 0), (1, lv)] h _
  refine WC.seq (WC.region ?_)
  refine R.mv .none (.t rfl) ?_  -- t6 := smMv t1
  refine R.lenSlv .none (.t rfl) hl ?_  -- t7 := smLenSl t6
  refine R.mv .none .c ?_  -- t8 := smMv (.int .i64 0)
  refine WR.nil ?_
  refine WC.block ?_ -- 0
  refine WC.loop (fun m E k => ∃ i, m = ps.length - i ∧ i ≤ ps.length ∧ Upd h a (wr kind gen (load ++ encP (ps.take i)) (b || (ps.take i).any badP)) k ∧
      Sub [(0, .ptr a 0), (6, lv), (7, .int .i64 (ps.length : Int)), (8, .int .i64 (i : Int))] E) (m := ps.length)
    ⟨0, by omega, by omega, by simpa [encP] using Upd.refl w hg, .cons rfl (.cons rfl (.cons rfl (.cons rfl (.nil _))))⟩ ?_
  rintro m E k ⟨i, rfl, hi, hu, hE⟩
  refine WC.sub hE ?_
  refine WC.seq (WC.region ?_)
  refine R.bin .none (.t rfl) (.t rfl) b_lss ?_  -- t9 := smBin .lss (.flat .i) t8 t7
  refine WR.nil ?_
  refine WC.seq ?_
  have hlk := hl.upd w hu hne
  refine WC.condD (.t rfl) (fun hlt => ?_) (fun hge => ?_) -- t9
  · refine WC.skip ?_
    have hlt' : i < ps.length := by omega
    obtain ⟨p, hp⟩ : ∃ p, ps[i]? = some p := ⟨_, List.getElem?_eq_getElem hlt'⟩
    rcases hlk.2 with ⟨_, h0⟩ | ⟨la, lo, lc, rfl, hc⟩
    · omega
    refine WC.seq (WC.block (WC.seq (WC.region ?_)))
    refine R.iAddr .none (.t rfl) (.t rfl) hlt' ?_  -- t10 := smIAddr none 2 t6 t8
    refine R.load .none (.t rfl) (hc.agg (flat_agg ptrV 2 (fun _ => rfl) hp) rfl) ?_  -- t11 := smLoad (some 2) t10
    refine R.alloc .none ?_  -- t5 := smAlloc
    refine R.store .none (.t rfl) (.t rfl) rfl (storeN_of (get_alloc_self k _) rfl rfl) ?_
    refine WR.nil ?_
    -- the pointer's own row
    have w1 := hu.wf.alloc (.cells [.int .i64 0, .int .i64 0] false)
    have u1 : Upd (k.alloc (.cells [.int .i64 0, .int .i64 0] false)) k.next (ptrV p) ((k.alloc (.cells [.int .i64 0, .int .i64 0] false)).put k.next (.cells (ptrV p) false)) := .put w1 (get_alloc_self k _) _
    have k1 := Upd.made hu.wf u1
    obtain ⟨h1, hh1⟩ : ∃ h1, h1 = (k.alloc (.cells [.int .i64 0, .int .i64 0] false)).put k.next (.cells (ptrV p) false) := ⟨_, rfl⟩
    have hq1 : h1.get k.next = some (.cells (ptrV p) false) := by rw [hh1]; exact u1.get
    have hn1 : h1.next.toNat = k.next.toNat + 1 := by rw [hh1]; exact next_alloc k (.cells [.int .i64 0, .int .i64 0] false)
    rw [← hh1] at k1
    have hu1 := hu.keep ha k1
    have hka : k.next ≠ a := fun e => by have := hu.next; rw [e] at this; omega
    refine WC.seq (WC.region ?_)
    rw [show (k.alloc (.cells [.int .i64 0, .int .i64 0] false)).put k.next (.cells [V.int .i64 (p.1 : Int), .int .i64 (p.2 : Int)] false) = h1 from hh1.symm]
    refine R.mv .none (.t rfl) ?_  -- t12 := smMv t0
    refine R.fAddr .none (.t rfl) ?_  -- t13 := smFAddr 0 t5
    refine R.load .none (.t rfl) ((Cells.of hq1 rfl).one (i := 0) rfl) ?_  -- t14
    refine R.buildSl .none (.cons (.t rfl) rfl rfl rfl .nil) rfl ?_  -- t15
    have k2 := Keep.made k1.wf (.cells [.int .i64 (p.1 : Int)] false)
    have hu2 := hu1.keep ha k2
    obtain ⟨h3, c1, c2⟩ := nums_ok fs (n := 2) (most := 65535) (xs := [p.1]) k2.wf hu2.get (by omega) (by omega) (lv := .sl h1.next 0 1 (.ex 1)) ⟨rfl, .inr ⟨h1.next, 0, .ex 1, rfl, .of (get_alloc_self h1 _) rfl⟩⟩
      (fun c o m cp e => by cases e; intro e2; rw [e2] at hn1; have := hu.next; omega) (by simp only [List.length_append, encP_length, List.length_take, List.length_cons, List.length_nil]; have : min i ps.length ≤ ps.length := Nat.min_le_right _ _; omega) (by simp)
    refine R.call .none (.cons (.t rfl) (.cons .c (.cons .c (.cons (.t rfl) .nil)))) c1 ?_  -- t16
    refine WR.nil ?_
    have hu3 := hu2.trans c2
    have hq3 : h3.get k.next = some (.cells (ptrV p) false) := by
      rw [c2.old k.next (by rw [next_alloc]; omega) hka, get_alloc_lt (by omega)]; exact hq1
    refine WC.region ?_
    refine R.mv .none (.t rfl) ?_  -- t17 := smMv t0
    refine R.fAddr .none (.t rfl) ?_  -- t18 := smFAddr 1 t5
    refine R.load .none (.t rfl) ((Cells.of hq3 rfl).one (i := 1) rfl) ?_  -- t19
    refine R.buildSl .none (.cons (.t rfl) rfl rfl rfl .nil) rfl ?_  -- t20
    have k4 := Keep.made c2.wf (.cells [.int .i64 (p.2 : Int)] false)
    have hu4 := hu3.keep ha k4
    obtain ⟨h5, d1, d2⟩ := nums_ok fs (n := 4) (most := 1073741824) (xs := [p.2]) k4.wf hu4.get (by omega) (by omega) (lv := .sl h3.next 0 1 (.ex 1)) ⟨rfl, .inr ⟨h3.next, 0, .ex 1, rfl, .of (get_alloc_self h3 _) rfl⟩⟩
      (fun c o m cp e => by cases e; intro e2; have := hu3.next; rw [e2] at this; omega) (by simp only [List.length_append, encP_length, enc_length, List.length_take, List.length_cons, List.length_nil]; have : min i ps.length ≤ ps.length := Nat.min_le_right _ _; omega) (by simp)
    refine R.call .none (.cons (.t rfl) (.cons .c (.cons .c (.cons (.t rfl) .nil)))) d1 ?_  -- t21
    refine WR.nil ?_
    refine WC.region ?_
    refine R.bin .none (.t rfl) .c (b_add (by omega) (by omega)) ?_  -- t22
    refine R.mv .none (.t rfl) ?_  -- t8 := smMv t22
    refine WR.nil ?_
    refine ⟨ps.length - (i + 1), by omega, i + 1, rfl, by omega, ?_, .cons rfl (.cons rfl (.cons rfl (.cons rfl (.nil _))))⟩
    have hu5 := hu4.trans d2
    have e1 : load ++ encP (ps.take (i + 1)) = ((load ++ encP (ps.take i)) ++ enc 2 [p.1]) ++ enc 4 [p.2] := by rw [take_snoc hp, encP_snoc]; simp [enc]
    have e2 : (b || (ps.take (i + 1)).any badP) = (((b || (ps.take i).any badP) || [p.1].any fun x => decide (65535 < x)) || [p.2].any fun x => decide (1073741824 < x)) := by
      rw [take_snoc hp, List.any_append]; simp [badP, Bool.or_assoc]
    rw [e1, e2]
    exact hu5
  · refine WC.exit ?_ -- 0
    show ∃ l, _
    have hi' : i = ps.length := by omega
    subst hi'
    rw [List.take_length] at hu
    exact ⟨_, .nil, rfl, hu⟩

/-! what was made -/
def blkV (kind gen : Int) (load : List UInt8) : List V := [.int .i64 kind, .int .i64 gen, .str load]
def doneV (kind gen : Int) (load : List UInt8) (b : Bool) : List V := bif b || decide (55 < load.length) then blkV 0 0 [] else blkV kind gen load
theorem done_ok (fs : Fs F) {a : Pa} {kind gen : Int} {load : List UInt8} {b : Bool} {h : Hp} (w : WF h) (hg : h.get a = some (.cells (wr kind gen load b) false)) :
    ∃ h', CallE F 21 [.ptr a 0] h (.agg (doneV kind gen load b)) h' ∧ Keep h.next.toNat h h' := by
  suffices hs : Said F 21 [.ptr a 0] h (fun v h' => v = .agg (doneV kind gen load b) ∧ Keep h.next.toNat h h') (fun _ _ => False) by
    obtain ⟨v, h', h1, rfl, h3⟩ := hs.ret
    exact ⟨h', h1, h3⟩
  have ha := w.lt hg
  refine said_of fs.h21 ?_
  show WC F _ b21 [(0, .ptr a 0)] h _
  refine WC.seq (WC.region ?_)
  refine R.alloc .none ?_  -- t2 := smAlloc [(.int .i64 0), (.int .i64 0), (.str [])]
  refine WR.nil ?_
  have w1 := w.alloc (.cells [.int .i64 0, .int .i64 0, .str []] false)
  have hg1 : (h.alloc (.cells [.int .i64 0, .int .i64 0, .str []] false)).get a = some (.cells (wr kind gen load b) false) := by rw [get_alloc_lt ha]; exact hg
  have hc := Cells.of hg1 rfl
  have hn1 : (h.alloc (.cells [.int .i64 0, .int .i64 0, .str []] false)).get h.next = some (.cells [.int .i64 0, .int .i64 0, .str []] false) := get_alloc_self h _
  have mk : ∀ l : List V, Keep h.next.toNat h ((h.alloc (.cells [.int .i64 0, .int .i64 0, .str []] false)).put h.next (.cells l false)) := fun l => Upd.made w (.put w1 hn1 l)
  refine WC.seq (WC.cut (fun E k => k = h.alloc (.cells [.int .i64 0, .int .i64 0, .str []] false) ∧ Sub [(0, .ptr a 0), (2, .ptr h.next 0), (15, .bool (b || decide (55 < load.length)))] E) ?_ ?_)
  · refine WC.region ?_
    refine R.mv .none (.t rfl) ?_  -- t3 := smMv t0
    refine R.nil? .none (.t rfl) ?_  -- t4 := smNil t3
    refine R.fAddr .none (.t rfl) ?_  -- t5 := smFAddr 3 t4
    refine R.load .none (.t rfl) (hc.one (i := 3) rfl) ?_  -- t6 := smLoad none t5
    refine R.mv .none (.t rfl) ?_  -- t7 := smMv t6
    cases b with
    | true =>
      refine R.no (.no rfl rfl) ?_
      refine R.no (.no rfl rfl) ?_
      refine R.no (.no rfl rfl) ?_
      refine R.no (.no rfl rfl) ?_
      refine R.no (.no rfl rfl) ?_
      refine R.no (.no rfl rfl) ?_
      refine R.no (.no rfl rfl) ?_
      refine R.pick .none (.t rfl) .c (.t rfl) ?_  -- t15 := smPick t7 (.bool true) t14
      refine WR.nil ⟨rfl, .cons rfl (.cons rfl (.cons rfl (.nil _)))⟩
    | false =>
      refine R.mv (.yes rfl) (.t rfl) ?_  -- t8 := smMv t0  IF some (pa 7, false)
      refine R.nil? (.yes rfl) (.t rfl) ?_  -- t9 := smNil t8  IF some (pa 7, false)
      refine R.fAddr (.yes rfl) (.t rfl) ?_  -- t10 := smFAddr 0 t9  IF some (pa 7, false)
      refine R.fAddr (.yes rfl) (.t rfl) ?_  -- t11 := smFAddr 2 t10  IF some (pa 7, false)
      refine R.load (.yes rfl) (.t rfl) (hc.one (i := 2) rfl) ?_  -- t12 := smLoad none t11  IF some (pa 7, false)
      refine R.lenS (.yes rfl) (.t rfl) ?_  -- t13 := smLenStr t12  IF some (pa 7, false)
      refine R.bin (.yes rfl) (.t rfl) .c b_gtr ?_  -- t14 := smBin .gtr (.flat .i) t13 (.int .i64 55)  IF some (pa 7, false)
      refine R.pick .none (.t rfl) .c (.t rfl) ?_  -- t15 := smPick t7 (.bool true) t14
      refine WR.nil ⟨rfl, .cons rfl (.cons rfl (.cons (by simp [lk, Nat.beq]; omega) (.nil _)))⟩
  · rintro E k ⟨rfl, hE⟩
    refine WC.sub hE ?_
    refine WC.condB (.t rfl) (fun hb => ?_) (fun hb => ?_) -- t15
    · refine WC.seq (WC.region ?_)
      refine R.build .none .nil ?_  -- t16 := smBuild [(.int .i64 0), (.int .i64 0), (.str [])] []
      refine R.store .none (.t rfl) (.t rfl) rfl (storeN_of hn1 rfl rfl) ?_
      refine WR.nil ?_
      refine WC.ret ?_
      refine ⟨_, .c rfl ((Cells.of (get_put_self _ _ _) rfl).agg (i := 0) (n := 3) rfl rfl) .nil, ?_, mk _⟩
      simp only [doneV, hb, cond_true]; rfl
    · refine WC.skip ?_
      refine WC.seq (WC.region ?_)
      refine R.mv .none (.t rfl) ?_  -- t17 := smMv t0
      refine R.nil? .none (.t rfl) ?_  -- t18 := smNil t17
      refine R.fAddr .none (.t rfl) ?_  -- t19 := smFAddr 0 t18
      refine R.load .none (.t rfl) (hc.agg (i := 0) (n := 3) rfl rfl) ?_  -- t20 := smLoad (some 3) t19
      refine R.store .none (.t rfl) (.t rfl) rfl (storeN_of hn1 rfl rfl) ?_
      refine WR.nil ?_
      refine WC.ret ?_
      refine ⟨_, .c rfl ((Cells.of (get_put_self _ _ _) rfl).agg (i := 0) (n := 3) rfl rfl) .nil, ?_, mk _⟩
      simp only [doneV, hb, cond_false]; rfl

theorem _root_.Go.Ev.Upd.at {h h' : Hp} {a x : Pa} {cs : List V} {b : Blk} (u : Upd h a cs h') (w : WF h) (hg : h.get x = some b) (hne : x ≠ a) : h'.get x = some b := (u.old x (w.lt hg) hne).trans hg
theorem paNe {a b : Pa} (h : a.toNat ≠ b.toNat) : a ≠ b := fun e => h (by rw [e])
theorem get_alloc_keep {h : Hp} {b c : Blk} {x : Pa} (w : WF h) (hg : h.get x = some c) : (h.alloc b).get x = some c := by rw [get_alloc_lt (w.lt hg)]; exact hg
theorem _root_.Go.Ev.Keep.at {h h' : Hp} {x : Pa} {b : Blk} {n : Nat} (k : Keep n h h') (hn : x.toNat < n) (hg : h.get x = some b) : h'.get x = some b := (k.old x hn).trans hg
theorem enc_cons1 (n x : Nat) : (enc n [x]).length = n := by simp [enc_length]

theorem doneV_is (kind gen : Int) (load : List UInt8) (b : Bool) : ∃ kd gn ld, doneV kind gen load b = blkV kd gn ld := by
  cases hb : b || decide (55 < load.length) with
  | true => exact ⟨0, 0, [], by simp only [doneV, hb, cond_true]⟩
  | false => exact ⟨kind, gen, load, by simp only [doneV, hb, cond_false]⟩

/-! a root -/
def rootLoad (kind : Nat) (ns : List Nat) (ps : List (Nat × Nat)) : List UInt8 := ((([] ++ enc 1 [kind]) ++ enc 4 ns) ++ enc 1 [ps.length]) ++ encP ps
def rootBad (gen : Int) (kind : Nat) (ns : List Nat) (ps : List (Nat × Nat)) : Bool :=
  (((((decide (gen < 0) || decide (1073741824 < gen)) || (decide ((ps.length : Int) < 0) || decide (6 < (ps.length : Int)))) || [kind].any fun x => decide (255 < x)) || ns.any fun x => decide (1073741824 < x)) || [ps.length].any fun x => decide (255 < x)) || ps.any badP
theorem Root_ok (fs : Fs F) {gen : Int} {kind n1 n2 n3 n4 : Nat} {lv : V} {ps : List (Nat × Nat)} {h : Hp} (w : WF h) (hl : Sl h lv 2 ps.length (ptrsV ps)) (hlen : ps.length ≤ 100000) (hlb : ∀ a o n c, lv = .sl a o n c → a.toNat < h.next.toNat) :
    ∃ h', CallE F 7 [.int .i64 gen, .agg [.int .i64 (kind : Int), .int .i64 (n1 : Int), .int .i64 (n2 : Int), .int .i64 (n3 : Int), .int .i64 (n4 : Int)], lv] h (.agg (doneV 3 gen (rootLoad kind [n1, n2, n3, n4] ps) (rootBad gen kind [n1, n2, n3, n4] ps))) h' ∧ Keep h.next.toNat h h' := by
  suffices hs : Said F 7 [.int .i64 gen, .agg [.int .i64 (kind : Int), .int .i64 (n1 : Int), .int .i64 (n2 : Int), .int .i64 (n3 : Int), .int .i64 (n4 : Int)], lv] h (fun v h' => v = .agg (doneV 3 gen (rootLoad kind [n1, n2, n3, n4] ps) (rootBad gen kind [n1, n2, n3, n4] ps)) ∧ Keep h.next.toNat h h') (fun _ _ => False) by
    obtain ⟨v, h', h1, rfl, h3⟩ := hs.ret
    exact ⟨h', h1, h3⟩
  refine said_of fs.h7 ?_
  show WC F _ b7 [(0, .int .i64 gen), (1, .agg [.int .i64 (kind : Int), .int .i64 (n1 : Int), .int .i64 (n2 : Int), .int .i64 (n3 : Int), .int .i64 (n4 : Int)]), (2, lv)] h _
  refine WC.cut (fun E k => ∃ y, WF k ∧ k.get h.next = some (.cells [.int .i64 (kind : Int), .int .i64 (n1 : Int), .int .i64 (n2 : Int), .int .i64 (n3 : Int), .int .i64 (n4 : Int)] false) ∧ k.get y = some (.cells [.int .i64 0, .int .i64 0, .str []] false) ∧ h.next.toNat < y.toNat ∧ Keep h.next.toNat h k ∧
      Sub [(0, .int .i64 gen), (2, lv), (4, .ptr h.next 0), (6, .ptr y 0)] E) ?_ ?_
  · refine WC.region ?_
    refine R.box .none (.t rfl) rfl ?_  -- t4 := smBox t1
    refine R.alloc .none ?_  -- t6 := smAlloc [(.int .i64 0), (.int .i64 0), (.str [])]
    refine WR.nil ?_
    have w1 := w.alloc (.cells [.int .i64 (kind : Int), .int .i64 (n1 : Int), .int .i64 (n2 : Int), .int .i64 (n3 : Int), .int .i64 (n4 : Int)] false)
    have x1 := next_alloc h (.cells [.int .i64 (kind : Int), .int .i64 (n1 : Int), .int .i64 (n2 : Int), .int .i64 (n3 : Int), .int .i64 (n4 : Int)] false)
    refine ⟨_, w1.alloc _, get_alloc_keep w1 (get_alloc_self h _), get_alloc_self _ _, ?_, (Keep.made w _).alloc (Nat.le_trans (Nat.le_succ _) (Nat.le_of_eq x1.symm)) _, .cons rfl (.cons rfl (.cons rfl (.cons rfl (.nil _))))⟩
    exact Nat.lt_of_lt_of_eq (Nat.lt_succ_self _) x1.symm
  rintro E1 h1 ⟨y, w1, gx, gy, xy, k1, hE⟩
  refine WC.sub hE ?_
  obtain ⟨h2, c1, c2⟩ := begun_ok fs (kind := 3) (gen := gen) w1
  obtain ⟨h3, d1, d2⟩ := look_ok fs (n := (ps.length : Int)) (most := 6) c2.wf c2.get
  have u3 := c2.trans d2
  have k3 := Upd.made w1 u3
  have y1 := w1.lt gy
  have gx3 := k3.at (w1.lt gx) gx
  have gy3 := k3.at (w1.lt gy) gy
  have hl3 : Sl h3 lv 2 ps.length (ptrsV ps) := hl.ext (k1.trans (k3.less k1.next)) w (Nat.le_refl _)
  have hl2 : Sl h2 lv 2 ps.length (ptrsV ps) := hl.ext (k1.trans ((Upd.made w1 c2).less k1.next)) w (Nat.le_refl _)
  refine WC.seq (WC.region ?_)
  refine R.mv .none (.t rfl) ?_  -- t8 := smMv t0
  refine R.call .none (.cons .c (.cons (.t rfl) .nil)) c1 ?_  -- t9 := smCallF 107 [(.int .i64 3), t8]
  refine R.mv .none (.t rfl) ?_  -- t10 := smMv t2
  refine R.lenSlv .none (.t rfl) hl2 ?_  -- t11 := smLenSl t10
  refine R.call .none (.cons (.t rfl) (.cons (.t rfl) (.cons .c .nil))) d1 ?_  -- t12 := smCallF 108 [t9, t11, (.int .i64 6)]
  refine R.mv .none (.t rfl) ?_  -- t7 := smMv t12
  refine WR.nil ?_
  -- from here on all is one row turned
  have g3 := d2.get
  obtain ⟨a, ha⟩ : ∃ a, a = h1.next := ⟨_, rfl⟩
  rw [← ha] at g3 ⊢
  have xa : h.next.toNat < a.toNat := by rw [ha]; omega
  have ya : y.toNat < a.toNat := by rw [ha]; exact w1.lt gy
  have hne : ∀ c o m cp, lv = .sl c o m cp → c ≠ a := fun c o m cp e => paNe (by have := hlb c o m cp e; omega)
  have w3 := d2.wf
  have a3 := w3.lt g3
  -- kind
  have k4 := Keep.made w3 (.cells [.int .i64 (kind : Int)] false)
  have u4 := (Upd.refl w3 g3).keep a3 k4
  obtain ⟨h5, e1, e2⟩ := nums_ok fs (n := 1) (most := 255) (xs := [kind]) k4.wf u4.get (by omega) (by omega) (lv := .sl h3.next 0 1 (.ex 1)) ⟨rfl, .inr ⟨h3.next, 0, .ex 1, rfl, .of (get_alloc_self h3 _) rfl⟩⟩
    (fun c o m cp e => by cases e; exact paNe (by omega)) (by simp) (by simp)
  have u5 := u4.trans e2
  refine WC.seq (WC.region ?_)
  refine R.mv .none (.t rfl) ?_  -- t13 := smMv t7
  refine R.fAddr .none (.t rfl) ?_  -- t14 := smFAddr 0 t4
  refine R.load .none (.t rfl) ((Cells.of gx3 rfl).one (i := 0) rfl) ?_
  refine R.buildSl .none (.cons (.t rfl) rfl rfl rfl .nil) rfl ?_  -- t16 := smBuildSl [(.int .i64 0)] 1 [(0, 1, t15)]
  refine R.call .none (.cons (.t rfl) (.cons .c (.cons .c (.cons (.t rfl) .nil)))) e1 ?_
  refine WR.nil ?_
  -- four numbers
  have gx5 := u5.at w3 gx3 (paNe (by omega))
  have x5 := u5.next
  have k6 := Keep.made u5.wf (.cells [.int .i64 (n1 : Int), .int .i64 (n2 : Int), .int .i64 (n3 : Int), .int .i64 (n4 : Int)] false)
  have u6 := u5.keep a3 k6
  obtain ⟨h7, f1, f2⟩ := nums_ok fs (n := 4) (most := 1073741824) (xs := [n1, n2, n3, n4]) k6.wf u6.get (by omega) (by omega) (lv := .sl h5.next 0 4 (.ex 4)) ⟨rfl, .inr ⟨h5.next, 0, .ex 4, rfl, .of (get_alloc_self h5 _) rfl⟩⟩
    (fun c o m cp e => by cases e; exact paNe (by omega)) (by simp [enc_length]) (by simp)
  have u7 := u6.trans f2
  refine WC.seq (WC.region ?_)
  refine R.mv .none (.t rfl) ?_  -- t18 := smMv t7
  refine R.fAddr .none (.t rfl) ?_  -- t19 := smFAddr 1 t4
  refine R.load .none (.t rfl) ((Cells.of gx5 rfl).one (i := 1) rfl) ?_
  refine R.fAddr .none (.t rfl) ?_  -- t21 := smFAddr 2 t4
  refine R.load .none (.t rfl) ((Cells.of gx5 rfl).one (i := 2) rfl) ?_
  refine R.fAddr .none (.t rfl) ?_  -- t23 := smFAddr 3 t4
  refine R.load .none (.t rfl) ((Cells.of gx5 rfl).one (i := 3) rfl) ?_
  refine R.fAddr .none (.t rfl) ?_  -- t25 := smFAddr 4 t4
  refine R.load .none (.t rfl) ((Cells.of gx5 rfl).one (i := 4) rfl) ?_
  refine R.buildSl .none (.cons (.t rfl) rfl rfl rfl (.cons (.t rfl) rfl rfl rfl (.cons (.t rfl) rfl rfl rfl (.cons (.t rfl) rfl rfl rfl .nil)))) rfl ?_
  refine R.call .none (.cons (.t rfl) (.cons .c (.cons .c (.cons (.t rfl) .nil)))) f1 ?_
  refine WR.nil ?_
  -- how many
  have hl7 := hl3.upd w3 u7 hne
  have x7 := u7.next
  have k8 := Keep.made u7.wf (.cells [.int .i64 (ps.length : Int)] false)
  have u8 := u7.keep a3 k8
  obtain ⟨h9, i1, i2⟩ := nums_ok fs (n := 1) (most := 255) (xs := [ps.length]) k8.wf u8.get (by omega) (by omega) (lv := .sl h7.next 0 1 (.ex 1)) ⟨rfl, .inr ⟨h7.next, 0, .ex 1, rfl, .of (get_alloc_self h7 _) rfl⟩⟩
    (fun c o m cp e => by cases e; exact paNe (by omega)) (by simp [enc_length]) (by simp)
  have u9 := u8.trans i2
  refine WC.seq (WC.region ?_)
  refine R.mv .none (.t rfl) ?_  -- t29 := smMv t7
  refine R.mv .none (.t rfl) ?_  -- t30 := smMv t2
  refine R.lenSlv .none (.t rfl) hl7 ?_  -- t31 := smLenSl t30
  refine R.buildSl .none (.cons (.t rfl) rfl rfl rfl .nil) rfl ?_
  refine R.call .none (.cons (.t rfl) (.cons .c (.cons .c (.cons (.t rfl) .nil)))) i1 ?_
  refine WR.nil ?_
  -- pointers
  have hl9 := hl3.upd w3 u9 hne
  obtain ⟨h10, j1, j2⟩ := ptrs_ok fs u9.wf u9.get hl9 hne (by simp [enc_length]; omega)
  have u10 := u9.trans j2
  refine WC.seq (WC.region ?_)
  refine R.mv .none (.t rfl) ?_  -- t34 := smMv t7
  refine R.mv .none (.t rfl) ?_  -- t35 := smMv t2
  refine R.call .none (.cons (.t rfl) (.cons (.t rfl) .nil)) j1 ?_  -- t36 := smCallF 110 [t34, t35]
  refine WR.nil ?_
  -- done
  obtain ⟨h11, l1, l2⟩ := done_ok fs u10.wf u10.get
  have u11 := u10.keep a3 l2
  have gy11 := u11.at w3 gy3 (paNe (by omega))
  have kk := (k1.trans (k3.less k1.next)).trans ((Keep.refl w3).ofUpd (n := h.next.toNat) (by omega) (by have := k1.next; have := k3.next; omega) u11)
  have y11 := u11.wf.lt gy11
  obtain ⟨kd, gn, ld, hd⟩ := doneV_is 3 gen (rootLoad kind [n1, n2, n3, n4] ps) (rootBad gen kind [n1, n2, n3, n4] ps)
  have l1' : CallE F 21 [.ptr a 0] h10 (.agg (blkV kd gn ld)) h11 := hd ▸ l1
  refine WC.seq (WC.region ?_)
  refine R.mv .none (.t rfl) ?_  -- t37 := smMv t7
  refine R.call .none (.cons (.t rfl) .nil) l1' ?_  -- t38 := smCallF 111 [t37]
  refine R.store .none (.t rfl) (.t rfl) rfl (storeN_of gy11 rfl rfl) ?_
  refine WR.nil ?_
  refine WC.ret ?_
  refine ⟨_, .c rfl ((Cells.of (get_put_self _ _ _) rfl).agg (i := 0) (n := 3) rfl rfl) .nil, ?_, kk.put (by omega) y11 _⟩
  rw [hd]; rfl

/-! a sum -/
def sumLoad (ns : List Nat) (ps : List (Nat × Nat)) : List UInt8 := (([] ++ enc 4 ns) ++ enc 1 [ps.length]) ++ encP ps
def sumBad (gen : Int) (ns : List Nat) (ps : List (Nat × Nat)) : Bool :=
  ((((decide (gen < 0) || decide (1073741824 < gen)) || (decide ((ps.length : Int) < 0) || decide (7 < (ps.length : Int)))) || ns.any fun x => decide (1073741824 < x)) || [ps.length].any fun x => decide (255 < x)) || ps.any badP
theorem Sum_ok (fs : Fs F) {gen : Int} {n1 n2 : Nat} {lv : V} {ps : List (Nat × Nat)} {h : Hp} (w : WF h) (hl : Sl h lv 2 ps.length (ptrsV ps)) (hlen : ps.length ≤ 100000) (hlb : ∀ a o n c, lv = .sl a o n c → a.toNat < h.next.toNat) :
    ∃ h', CallE F 8 [.int .i64 gen, .int .i64 (n1 : Int), .int .i64 (n2 : Int), lv] h (.agg (doneV 4 gen (sumLoad [n1, n2] ps) (sumBad gen [n1, n2] ps))) h' ∧ Keep h.next.toNat h h' := by
  suffices hs : Said F 8 [.int .i64 gen, .int .i64 (n1 : Int), .int .i64 (n2 : Int), lv] h (fun v h' => v = .agg (doneV 4 gen (sumLoad [n1, n2] ps) (sumBad gen [n1, n2] ps)) ∧ Keep h.next.toNat h h') (fun _ _ => False) by
    obtain ⟨v, h', h1, rfl, h3⟩ := hs.ret
    exact ⟨h', h1, h3⟩
  refine said_of fs.h8 ?_
  show WC F _ b8 [(0, .int .i64 gen), (1, .int .i64 (n1 : Int)), (2, .int .i64 (n2 : Int)), (3, lv)] h _
  refine WC.cut (fun E k => ∃ y, WF k ∧ k.get y = some (.cells [.int .i64 0, .int .i64 0, .str []] false) ∧ h.next.toNat ≤ y.toNat ∧ Keep h.next.toNat h k ∧
      Sub [(0, .int .i64 gen), (1, .int .i64 (n1 : Int)), (2, .int .i64 (n2 : Int)), (3, lv), (8, .ptr y 0)] E) ?_ ?_
  · refine WC.region ?_
    refine R.alloc .none ?_  -- t8 := smAlloc [(.int .i64 0), (.int .i64 0), (.str [])]
    refine WR.nil ?_
    exact ⟨_, w.alloc _, get_alloc_self _ _, Nat.le_refl _, Keep.made w _, .cons rfl (.cons rfl (.cons rfl (.cons rfl (.cons rfl (.nil _)))))⟩
  rintro E1 h1 ⟨y, w1, gy, xy, k1, hE⟩
  refine WC.sub hE ?_
  obtain ⟨h2, c1, c2⟩ := begun_ok fs (kind := 4) (gen := gen) w1
  obtain ⟨h3, d1, d2⟩ := look_ok fs (n := (ps.length : Int)) (most := 7) c2.wf c2.get
  have u3 := c2.trans d2
  have k3 := Upd.made w1 u3
  have y1 := w1.lt gy
  have gy3 := k3.at (w1.lt gy) gy
  have hl3 : Sl h3 lv 2 ps.length (ptrsV ps) := hl.ext (k1.trans (k3.less k1.next)) w (Nat.le_refl _)
  have hl2 : Sl h2 lv 2 ps.length (ptrsV ps) := hl.ext (k1.trans ((Upd.made w1 c2).less k1.next)) w (Nat.le_refl _)
  refine WC.seq (WC.region ?_)
  refine R.mv .none (.t rfl) ?_  -- t10 := smMv t0
  refine R.call .none (.cons .c (.cons (.t rfl) .nil)) c1 ?_  -- t11 := smCallF 107 [(.int .i64 4), t10]
  refine R.mv .none (.t rfl) ?_  -- t12 := smMv t3
  refine R.lenSlv .none (.t rfl) hl2 ?_  -- t13 := smLenSl t12
  refine R.call .none (.cons (.t rfl) (.cons (.t rfl) (.cons .c .nil))) d1 ?_  -- t14 := smCallF 108 [t11, t13, (.int .i64 7)]
  refine R.mv .none (.t rfl) ?_  -- t9 := smMv t14
  refine WR.nil ?_
  -- from here on all is one row turned
  have g3 := d2.get
  obtain ⟨a, ha⟩ : ∃ a, a = h1.next := ⟨_, rfl⟩
  rw [← ha] at g3 ⊢
  have xa : h.next.toNat ≤ a.toNat := by rw [ha]; omega
  have ya : y.toNat < a.toNat := by rw [ha]; exact w1.lt gy
  have hne : ∀ c o m cp, lv = .sl c o m cp → c ≠ a := fun c o m cp e => paNe (by have := hlb c o m cp e; omega)
  have w3 := d2.wf
  have a3 := w3.lt g3
  -- two numbers
  have k6 := Keep.made w3 (.cells [.int .i64 (n1 : Int), .int .i64 (n2 : Int)] false)
  have u6 := (Upd.refl w3 g3).keep a3 k6
  obtain ⟨h7, f1, f2⟩ := nums_ok fs (n := 4) (most := 1073741824) (xs := [n1, n2]) k6.wf u6.get (by omega) (by omega) (lv := .sl h3.next 0 2 (.ex 2)) ⟨rfl, .inr ⟨h3.next, 0, .ex 2, rfl, .of (get_alloc_self h3 _) rfl⟩⟩
    (fun c o m cp e => by cases e; exact paNe (by omega)) (by simp) (by simp)
  have u7 := u6.trans f2
  refine WC.seq (WC.region ?_)
  refine R.mv .none (.t rfl) ?_  -- t15 := smMv t9
  refine R.mv .none (.t rfl) ?_  -- t16 := smMv t1
  refine R.mv .none (.t rfl) ?_  -- t17 := smMv t2
  refine R.buildSl .none (.cons (.t rfl) rfl rfl rfl (.cons (.t rfl) rfl rfl rfl .nil)) rfl ?_
  refine R.call .none (.cons (.t rfl) (.cons .c (.cons .c (.cons (.t rfl) .nil)))) f1 ?_
  refine WR.nil ?_
  -- how many
  have hl7 := hl3.upd w3 u7 hne
  have x7 := u7.next
  have k8 := Keep.made u7.wf (.cells [.int .i64 (ps.length : Int)] false)
  have u8 := u7.keep a3 k8
  obtain ⟨h9, i1, i2⟩ := nums_ok fs (n := 1) (most := 255) (xs := [ps.length]) k8.wf u8.get (by omega) (by omega) (lv := .sl h7.next 0 1 (.ex 1)) ⟨rfl, .inr ⟨h7.next, 0, .ex 1, rfl, .of (get_alloc_self h7 _) rfl⟩⟩
    (fun c o m cp e => by cases e; exact paNe (by omega)) (by simp [enc_length]) (by simp)
  have u9 := u8.trans i2
  refine WC.seq (WC.region ?_)
  refine R.mv .none (.t rfl) ?_  -- t20
  refine R.mv .none (.t rfl) ?_  -- t21
  refine R.lenSlv .none (.t rfl) hl7 ?_  -- t22
  refine R.buildSl .none (.cons (.t rfl) rfl rfl rfl .nil) rfl ?_
  refine R.call .none (.cons (.t rfl) (.cons .c (.cons .c (.cons (.t rfl) .nil)))) i1 ?_
  refine WR.nil ?_
  -- pointers
  have hl9 := hl3.upd w3 u9 hne
  obtain ⟨h10, j1, j2⟩ := ptrs_ok fs u9.wf u9.get hl9 hne (by simp [enc_length]; omega)
  have u10 := u9.trans j2
  refine WC.seq (WC.region ?_)
  refine R.mv .none (.t rfl) ?_  -- t25
  refine R.mv .none (.t rfl) ?_  -- t26
  refine R.call .none (.cons (.t rfl) (.cons (.t rfl) .nil)) j1 ?_  -- t27
  refine WR.nil ?_
  -- done
  obtain ⟨h11, l1, l2⟩ := done_ok fs u10.wf u10.get
  have u11 := u10.keep a3 l2
  have gy11 := u11.at w3 gy3 (paNe (by omega))
  have kk := (k1.trans (k3.less k1.next)).trans ((Keep.refl w3).ofUpd (n := h.next.toNat) (by omega) (by have := k1.next; have := k3.next; omega) u11)
  have y11 := u11.wf.lt gy11
  obtain ⟨kd, gn, ld, hd⟩ := doneV_is 4 gen (sumLoad [n1, n2] ps) (sumBad gen [n1, n2] ps)
  have l1' : CallE F 21 [.ptr a 0] h10 (.agg (blkV kd gn ld)) h11 := hd ▸ l1
  refine WC.seq (WC.region ?_)
  refine R.mv .none (.t rfl) ?_  -- t28
  refine R.call .none (.cons (.t rfl) .nil) l1' ?_  -- t29
  refine R.store .none (.t rfl) (.t rfl) rfl (storeN_of gy11 rfl rfl) ?_
  refine WR.nil ?_
  refine WC.ret ?_
  refine ⟨_, .c rfl ((Cells.of (get_put_self _ _ _) rfl).agg (i := 0) (n := 3) rfl rfl) .nil, ?_, kk.put (by omega) y11 _⟩
  rw [hd]; rfl
end Go.Ev.Root

namespace Go.Ev.Root
open Go.Ev
variable {F : Nat → Option FnI}
/-! the blocks that point to records -/
abbrev RecT := Nat × Nat × List UInt8
def recV (r : RecT) : List V := [.int .i64 (r.1 : Int), .int .i64 (r.2.1 : Int), .str r.2.2]
def recsV (rs : List RecT) : List V := rs.flatMap recV
def ixItem (x : RecT × (Nat × Nat)) : List UInt8 := enc 1 [x.1.1, x.1.2.1] ++ encP [x.2]
def ixBad (x : RecT × (Nat × Nat)) : Bool := ([x.1.1, x.1.2.1].any fun n => decide (255 < n)) || [x.2].any badP
def genBad (gen : Int) : Bool := decide (gen < 0) || decide (1073741824 < gen)
def chunkV (gen : Int) (its : List (RecT × (Nat × Nat))) : List V := doneV 2 gen (its.flatMap ixItem) (genBad gen || its.any ixBad)
def indexV (gen : Int) (its : List (RecT × (Nat × Nat))) (c : Nat) : List V := (List.range c).flatMap fun j => chunkV gen ((its.drop (6 * j)).take 6)
theorem indexV_succ (gen : Int) (its : List (RecT × (Nat × Nat))) (c : Nat) : indexV gen its (c + 1) = indexV gen its c ++ chunkV gen ((its.drop (6 * c)).take 6) := by
  simp [indexV, List.range_succ, List.flatMap_append]
theorem part_snoc {α : Type} {l : List α} {b j : Nat} {x : α} (h : l[j]? = some x) (hb : b ≤ j) : (l.drop b).take (j + 1 - b) = (l.drop b).take (j - b) ++ [x] := by
  rw [show j + 1 - b = (j - b) + 1 by omega]
  exact take_snoc (by rw [List.getElem?_drop, show b + (j - b) = j by omega]; exact h)
theorem ixItem_len (x : RecT × (Nat × Nat)) : (ixItem x).length = 8 := by simp [ixItem, enc_length, encP_length]
theorem ixItems_len (l : List (RecT × (Nat × Nat))) : (l.flatMap ixItem).length = l.length * 8 := by
  induction l with
  | nil => rfl
  | cons a l ih => rw [List.flatMap_cons, List.length_append, ih, ixItem_len, List.length_cons, Nat.add_mul]; omega

theorem Index_ok (fs : Fs F) {gen : Int} {lv pv : V} {rs : List RecT} {ps : List (Nat × Nat)} {h : Hp} (w : WF h) (hm : rs.length = ps.length) (hl : Sl h lv 3 rs.length (recsV rs)) (hlc : CapOk lv 3) (hp : Sl h pv 2 ps.length (ptrsV ps))
    (hlen : ps.length ≤ 100000) (hlb : InB lv fun a => a.toNat < h.next.toNat) (hpb : InB pv fun a => a.toNat < h.next.toNat) :
    ∃ v h' s, CallE F 9 [.int .i64 gen, lv, pv] h v h' ∧ Own h' v 3 ((ps.length + 5) / 6) (indexV gen (rs.zip ps) ((ps.length + 5) / 6)) s ∧ (∀ a, s = some a → h.next.toNat ≤ a.toNat) ∧ Keep h.next.toNat h h' := by
  suffices hs : Said F 9 [.int .i64 gen, lv, pv] h (fun v h' => ∃ s, Own h' v 3 ((ps.length + 5) / 6) (indexV gen (rs.zip ps) ((ps.length + 5) / 6)) s ∧ (∀ a, s = some a → h.next.toNat ≤ a.toNat) ∧ Keep h.next.toNat h h') (fun _ _ => False) by
    obtain ⟨v, h', h1, s, h2, h3, h4⟩ := hs.ret
    exact ⟨v, h', s, h1, h2, h3, h4⟩
  obtain ⟨m, hmm⟩ : ∃ m, m = ps.length := ⟨_, rfl⟩
  obtain ⟨its, hits⟩ : ∃ its, its = rs.zip ps := ⟨_, rfl⟩
  have hil : its.length = m := by rw [hits, List.length_zip, hm, hmm]; exact Nat.min_self _
  rw [← hits]
  rw [hm] at hl
  rw [← hmm] at hl hp hlen ⊢
  refine said_of fs.h9 ?_
  show WC F _ b9 [(0, .int .i64 gen), (1, lv), (2, pv)] h _
  refine WC.seq (WC.region ?_)
  refine R.mv .none .c ?_  -- t6
  refine WR.nil ?_
  refine WC.seq (WC.region ?_)
  refine R.mv .none .c ?_  -- t7
  refine WR.nil ?_
  obtain ⟨lv1, c1, hl1, _, hb1⟩ := cut_hi hl hlc (Nat.le_refl m)
  have hlb1 := hb1 _ hlb
  rw [show (recsV rs).take (m * 3) = recsV rs by rw [List.take_of_length_le]; rw [hl.1]; exact Nat.le_refl _] at hl1
  refine WC.seq (WC.region ?_)
  refine R.mv .none (.t rfl) ?_  -- t11
  refine R.mv .none (.t rfl) ?_  -- t12
  refine R.lenSlv .none (.t rfl) hl ?_  -- t13
  refine R.mv .none (.t rfl) ?_  -- t14
  refine R.lenSlv .none (.t rfl) hp ?_  -- t15
  refine R.mm2 .none (.t rfl) (.t rfl) (mm_min m m) ?_  -- t16
  refine R.slice .none (.t rfl) .none (.some (.t rfl)) .none (by rw [Nat.min_self]; exact c1) ?_  -- t17
  refine R.mv .none (.t rfl) ?_  -- t1
  refine WR.nil ?_
  refine WC.seq ?_
  refine WC.seq (WC.region ?_)
  refine R.mv .none .c ?_  -- t8
  refine WR.nil ?_
  refine WC.block ?_ -- 0
  refine WC.loop (fun μ E k => ∃ c ov os, μ = m + 6 - 6 * c ∧ 6 * c ≤ m + 5 ∧ Own k ov 3 c (indexV gen its c) os ∧ (∀ a, os = some a → h.next.toNat ≤ a.toNat) ∧ Keep h.next.toNat h k ∧
      Sub [(0, .int .i64 gen), (1, lv1), (2, pv), (7, ov), (8, .int .i64 ((6 * c : Nat) : Int))] E) (m := m + 6)
    ⟨0, .no .sl, none, by omega, by omega, Own.none h 3, (fun _ e => by cases e), .refl w, .cons rfl (.cons rfl (.cons rfl (.cons rfl (.cons rfl (.nil _)))))⟩ ?_
  rintro μ E k ⟨c, ov, os, rfl, hc, ho, hos, kk, hE⟩
  refine WC.sub hE ?_
  have hlk := hl1.ext kk w (Nat.le_refl _)
  have hpk := hp.ext kk w (Nat.le_refl _)
  refine WC.seq ?_
  refine WC.seq (WC.region ?_)
  refine R.mv .none (.t rfl) ?_  -- t18
  refine R.mv .none (.t rfl) ?_  -- t19
  refine R.lenSlv .none (.t rfl) hlk ?_  -- t20
  refine R.bin .none (.t rfl) (.t rfl) b_lss ?_  -- t21
  refine WR.nil ?_
  refine WC.condD (.t rfl) (fun hlt => ?_) (fun hge => ?_) -- t21
  · refine WC.skip ?_
    have hlt' : 6 * c < m := by omega
    obtain ⟨h2, d1, d2⟩ := begun_ok fs (kind := 2) (gen := gen) kk.wf
    have k2 := Upd.made kk.wf d2
    have hlk2 := hlk.ext k2 kk.wf (Nat.le_refl _)
    have hpk2 := hpk.ext k2 kk.wf (Nat.le_refl _)
    have g2 := d2.get
    have w2 := d2.wf
    have a2 := w2.lt g2
    have hnk := kk.next
    have hnel : ∀ b o n cp, lv1 = .sl b o n cp → b ≠ k.next := fun b o n cp e => paNe (by have := hlb1 b o n cp e; omega)
    have hnep : ∀ b o n cp, pv = .sl b o n cp → b ≠ k.next := fun b o n cp e => paNe (by have := hpb b o n cp e; omega)
    refine WC.seq ?_
    refine WC.block ?_ -- 1
    refine WC.seq (WC.region ?_)
    refine R.mv .none (.t rfl) ?_  -- t24
    refine R.call .none (.cons .c (.cons (.t rfl) .nil)) d1 ?_  -- t25
    refine R.mv .none (.t rfl) ?_  -- t9
    refine WR.nil ?_
    refine WC.seq ?_
    refine WC.seq (WC.region ?_)
    refine R.mv .none (.t rfl) ?_  -- t26
    refine R.mv .none (.t rfl) ?_  -- t10
    refine WR.nil ?_
    refine WC.block ?_ -- 2
    refine WC.loop (fun μ E k' => ∃ j, μ = min (6 * c + 6) m - j ∧ 6 * c ≤ j ∧ j ≤ min (6 * c + 6) m ∧ Upd h2 k.next (wr 2 gen (((its.drop (6 * c)).take (j - 6 * c)).flatMap ixItem) (genBad gen || ((its.drop (6 * c)).take (j - 6 * c)).any ixBad)) k' ∧
        Sub [(0, .int .i64 gen), (1, lv1), (2, pv), (7, ov), (8, .int .i64 ((6 * c : Nat) : Int)), (9, .ptr k.next 0), (10, .int .i64 (j : Int))] E) (m := min (6 * c + 6) m - 6 * c)
      ⟨6 * c, rfl, Nat.le_refl _, by omega, by simpa [genBad] using Upd.refl w2 g2, .cons rfl (.cons rfl (.cons rfl (.cons rfl (.cons rfl (.cons rfl (.cons rfl (.nil _)))))))⟩ ?_
    rintro μ E' k' ⟨j, rfl, hj0, hj1, hu, hE'⟩
    refine WC.sub hE' ?_
    have hl3 := hlk2.upd w2 hu hnel
    have hp3 := hpk2.upd w2 hu hnep
    refine WC.seq ?_
    refine WC.seq (WC.region ?_)
    refine R.mv .none (.t rfl) ?_  -- t27
    refine R.mv .none (.t rfl) ?_  -- t28
    refine R.bin .none (.t rfl) .c (b_add (by omega) (by omega)) ?_  -- t29
    refine R.mv .none (.t rfl) ?_  -- t30
    refine R.lenSlv .none (.t rfl) hl3 ?_  -- t31
    refine R.mm2 .none (.t rfl) (.t rfl) (by rw [show ((6 * c : Nat) : Int) + 6 = ((6 * c + 6 : Nat) : Int) by omega]; exact mm_min (6 * c + 6) m) ?_  -- t32
    refine R.bin .none (.t rfl) (.t rfl) b_lss ?_  -- t33
    refine WR.nil ?_
    refine WC.condD (.t rfl) (fun hjl => ?_) (fun hjg => ?_) -- t33
    · refine WC.skip ?_
      have hjm : j < m := by omega
      obtain ⟨r, hr⟩ : ∃ r, rs[j]? = some r := ⟨_, List.getElem?_eq_getElem (by omega)⟩
      obtain ⟨p, hpp⟩ : ∃ p, ps[j]? = some p := ⟨_, List.getElem?_eq_getElem (by omega)⟩
      have hit : its[j]? = some (r, p) := by rw [hits, List.getElem?_zip_eq_some]; exact ⟨hr, hpp⟩
      rcases hl3.2 with ⟨_, h0⟩ | ⟨la, lo, lc, rfl, hc3⟩
      · omega
      rcases hp3.2 with ⟨_, h0⟩ | ⟨qa, qo, qc, rfl, hq3⟩
      · omega
      have w3 := hu.wf
      have x3 := hu.next
      have k4 := Keep.made w3 (.cells [.int .i64 (r.1 : Int), .int .i64 (r.2.1 : Int)] false)
      have u4 := hu.keep a2 k4
      have hln : (((its.drop (6 * c)).take (j - 6 * c)).flatMap ixItem).length ≤ 1000 := by
        rw [ixItems_len]; have := List.length_take_le (j - 6 * c) (its.drop (6 * c)); omega
      obtain ⟨h5, e1, e2⟩ := nums_ok fs (n := 1) (most := 255) (xs := [r.1, r.2.1]) k4.wf u4.get (by omega) (by omega) (lv := .sl k'.next 0 2 (.ex 2)) ⟨rfl, .inr ⟨k'.next, 0, .ex 2, rfl, .of (get_alloc_self k' _) rfl⟩⟩
        (fun c o m cp e => by cases e; exact paNe (by omega)) (by simp only [List.length_cons, List.length_nil]; omega) (by simp)
      have u5 := u4.trans e2
      have hp5 := hpk2.upd w2 u5 hnep
      refine WC.seq ?_
      refine WC.block ?_ -- 3
      refine WC.seq (WC.region ?_)
      refine R.mv .none (.t rfl) ?_  -- t36
      refine R.mv .none (.t rfl) ?_  -- t37
      refine R.mv .none (.t rfl) ?_  -- t38
      refine R.iAddr .none (.t rfl) (.t rfl) hjm ?_  -- t39
      refine R.fAddr .none (.t rfl) ?_  -- t40
      refine R.load .none (.t rfl) (by rw [Nat.add_assoc]; exact hc3.one (i := j * 3 + 0) (v := .int .i64 (r.1 : Int)) ((flat_get recV 3 (fun _ => rfl) rs j r 0 hr (by omega)).trans rfl)) ?_  -- t41
      refine R.mv .none (.t rfl) ?_  -- t42
      refine R.mv .none (.t rfl) ?_  -- t43
      refine R.iAddr .none (.t rfl) (.t rfl) hjm ?_  -- t44
      refine R.fAddr .none (.t rfl) ?_  -- t45
      refine R.load .none (.t rfl) (by rw [Nat.add_assoc]; exact hc3.one (i := j * 3 + 1) (v := .int .i64 (r.2.1 : Int)) ((flat_get recV 3 (fun _ => rfl) rs j r 1 hr (by omega)).trans rfl)) ?_  -- t46
      refine R.buildSl .none (.cons (.t rfl) rfl rfl rfl (.cons (.t rfl) rfl rfl rfl .nil)) rfl ?_  -- t47
      refine R.call .none (.cons (.t rfl) (.cons .c (.cons .c (.cons (.t rfl) .nil)))) e1 ?_  -- t48
      refine WR.nil ?_
      rcases hp5.2 with ⟨hh, _⟩ | ⟨qa', qo', qc', hq', hq5⟩
      · cases hh
      cases hq'
      have x5 := u5.next
      have k6 := Keep.made u5.wf (.cells (ptrV p) false)
      have u6 := u5.keep a2 k6
      obtain ⟨h7, f1, f2⟩ := ptrs_ok fs (ps := [p]) k6.wf u6.get (lv := .sl h5.next 0 1 (.ex 1)) ⟨rfl, .inr ⟨h5.next, 0, .ex 1, rfl, .of (by rw [show ptrsV [p] = ptrV p by simp [ptrsV]]; exact get_alloc_self h5 _) rfl⟩⟩
        (fun c o m cp e => by cases e; exact paNe (by omega)) (by simp only [List.length_append, enc_length, List.length_cons, List.length_nil]; omega)
      have u7 := u6.trans f2
      refine WC.region ?_
      refine R.mv .none (.t rfl) ?_  -- t49
      refine R.mv .none (.t rfl) ?_  -- t50
      refine R.mv .none (.t rfl) ?_  -- t51
      refine R.iAddr .none (.t rfl) (.t rfl) hjm ?_  -- t52
      refine R.load .none (.t rfl) (hq5.agg (flat_agg ptrV 2 (fun _ => rfl) hpp) rfl) ?_  -- t53
      refine R.buildSl .none (.cons (.t rfl) rfl rfl rfl .nil) rfl ?_  -- t54
      refine R.call .none (.cons (.t rfl) (.cons (.t rfl) .nil)) f1 ?_  -- t55
      refine WR.nil ?_
      refine WC.region ?_
      refine R.mv .none (.t rfl) ?_  -- t34
      refine R.bin .none (.t rfl) .c (b_add (by omega) (by omega)) ?_  -- t35
      refine R.mv .none (.t rfl) ?_  -- t10
      refine WR.nil ?_
      refine ⟨min (6 * c + 6) m - (j + 1), by omega, j + 1, rfl, by omega, by omega, ?_, .cons rfl (.cons rfl (.cons rfl (.cons rfl (.cons rfl (.cons rfl (.cons rfl (.nil _)))))))⟩
      rw [part_snoc hit hj0]
      rw [show (((its.drop (6 * c)).take (j - 6 * c)) ++ [(r, p)]).flatMap ixItem = (((its.drop (6 * c)).take (j - 6 * c)).flatMap ixItem ++ enc 1 [r.1, r.2.1]) ++ encP [p] by simp [ixItem]]
      rw [show (genBad gen || (((its.drop (6 * c)).take (j - 6 * c)) ++ [(r, p)]).any ixBad) = (((genBad gen || ((its.drop (6 * c)).take (j - 6 * c)).any ixBad) || [r.1, r.2.1].any fun x => decide (255 < x)) || [p].any badP) by
        rw [List.any_append]; simp [ixBad, Bool.or_assoc]]
      exact u7
    · refine WC.exit ?_ -- 2
      show WC F _ _ _ _ _
      have hj : j = min (6 * c + 6) m := by omega
      have hpart : (its.drop (6 * c)).take (j - 6 * c) = (its.drop (6 * c)).take 6 := by
        rw [hj]
        apply List.ext_getElem?
        intro i
        rw [List.getElem?_take, List.getElem?_take]
        by_cases h1 : i < min (6 * c + 6) m - 6 * c
        · rw [if_pos h1, if_pos (by omega)]
        · rw [if_neg h1]
          by_cases h2 : i < 6
          · rw [if_pos h2, List.getElem?_eq_none (by rw [List.length_drop]; omega)]
          · rw [if_neg h2]
      rw [hpart] at hu
      obtain ⟨h3, e1, e2⟩ := done_ok fs hu.wf hu.get
      have kAll : Keep k.next.toNat k h3 := (Upd.made kk.wf (d2.trans hu)).trans (e2.less (by have := k2.next; have := hu.next; omega))
      obtain ⟨kd, gn, ld, hd⟩ := doneV_is 2 gen (((its.drop (6 * c)).take 6).flatMap ixItem) (genBad gen || ((its.drop (6 * c)).take 6).any ixBad)
      have e1' : CallE F 21 [.ptr k.next 0] k' (.agg (blkV kd gn ld)) h3 := hd ▸ e1
      have k4 := Keep.made e2.wf (.cells (blkV kd gn ld) false)
      have ho4 : Own (h3.alloc (.cells (blkV kd gn ld) false)) ov 3 c (indexV gen its c) os := ho.same fun a ha => by
        subst ha
        have hak := ho.lt kk.wf
        rw [k4.old a (by have := kAll.next; omega), kAll.old a hak]
      have s4 : Sl (h3.alloc (.cells (blkV kd gn ld) false)) (.sl h3.next 0 1 (.ex 1)) 3 1 (blkV kd gn ld) := ⟨rfl, .inr ⟨h3.next, 0, .ex 1, rfl, .of (get_alloc_self h3 _) rfl⟩⟩
      obtain ⟨h5, f1, f2, f3, f4, f5⟩ := ho4.app k4.wf (by omega) (by omega) s4.src.1 s4.src.2 rfl rfl (by omega)
      refine WC.region ?_
      refine R.mv .none (.t rfl) ?_  -- t56
      refine R.mv .none (.t rfl) ?_  -- t57
      refine R.call .none (.cons (.t rfl) .nil) e1' ?_  -- t58
      refine R.buildSl .none (.cons (.t rfl) rfl rfl rfl .nil) rfl ?_  -- t59
      refine R.app .none (.t rfl) (.t rfl) f1 ?_  -- t60
      refine R.mv .none (.t rfl) ?_  -- t7
      refine WR.nil ?_
      refine WC.region ?_
      refine R.mv .none (.t rfl) ?_  -- t22
      refine R.bin .none (.t rfl) .c (b_add (by omega) (by omega)) ?_  -- t23
      refine R.mv .none (.t rfl) ?_  -- t8
      refine WR.nil ?_
      have n4 := k4.next
      have nA := kAll.next
      refine ⟨m + 6 - 6 * (c + 1), by omega, c + 1, _, some (h3.alloc (.cells (blkV kd gn ld) false)).next, rfl, by omega, ?_, ?_, ?_, .cons rfl (.cons rfl (.cons rfl (.cons rfl (.cons ?_ (.nil _)))))⟩
      · rw [indexV_succ]
        show Own h5 _ 3 (c + 1) (indexV gen its c ++ doneV 2 gen _ _) _
        rw [hd]
        exact f2
      · intro a ha; cases ha; omega
      · refine ⟨by rw [f4]; omega, fun a ha => ?_, f3⟩
        rw [f5 a (by omega) (fun e => by have := hos a e.symm; omega), k4.old a (by omega), kAll.old a (by omega), kk.old a ha]
      · show some _ = some _
        congr 2
  · refine WC.exit ?_ -- 0
    show WC F _ _ _ _ _
    have hcc : c = (m + 5) / 6 := by omega
    refine WC.seq (WC.region ?_)
    refine R.mv .none (.t rfl) ?_  -- t61
    refine R.mv .none (.t rfl) ?_  -- t6
    refine WR.nil ?_
    refine WC.ret ?_
    refine ⟨_, .t rfl .nil, os, ?_, hos, kk⟩
    rw [← hcc]
    exact ho
end Go.Ev.Root
