/- RootBack: what the functions do, said for all arguments -/
import Derived.Test.YtilaoinonapokaaWB
namespace Go.Ev.Root
open Go.Ev
variable {F : Nat → Option FnI}
/-! what is read -/
def un : List UInt8 → Nat
  | [] => 0
  | b :: l => b.toNat + 256 * un l
theorem un_snoc : ∀ (l : List UInt8) (b : UInt8), un (l ++ [b]) = un l + b.toNat * 256 ^ l.length
  | [], b => by simp [un]
  | c :: l, b => by
    rw [List.cons_append, un, un_snoc l b, un, List.length_cons, Nat.pow_succ, Nat.mul_add, Nat.add_assoc, Nat.mul_left_comm, Nat.mul_comm (256 ^ l.length) 256]
theorem un_lt : ∀ l : List UInt8, un l < 256 ^ l.length
  | [] => by simp [un]
  | b :: l => by
    have := un_lt l
    have hb : b.toNat < 256 := UInt8.toNat_lt b
    rw [un, List.length_cons, Nat.pow_succ]
    omega
theorem pow_le {k : Nat} (hk : k ≤ 3) : 256 ^ k ≤ 16777216 := by
  have := Nat.pow_le_pow_right (n := 256) (by omega) hk
  simpa using this
theorem b_shl {q : EqK} {b k : Nat} (hb : b < 256) (hk : k ≤ 3) : binV .shl q (.int .i64 (b : Int)) (.int .i64 (8 * (k : Int))) = some (.int .i64 ((b * 256 ^ k : Nat) : Int)) := by
  show shiftInt true .i64 (b : Int) (8 * (k : Int)) = _
  have h0 : iLt (8 * (k : Int)) 0 = false := by rw [iLt_eq]; simp; omega
  simp only [shiftInt, h0, cond_false, cond_true]
  have h1 : (8 * (k : Int)).toNat = 8 * k := by omega
  have h2 : min (8 * k) (IntKind.bits .i64) = 8 * k := by simp [IntKind.bits]; omega
  have e : (2 : Int) ^ (8 * k) = ((256 ^ k : Nat) : Int) := by
    have : (256 : Nat) ^ k = 2 ^ (8 * k) := by rw [Nat.pow_mul]
    rw [this, Int.natCast_pow]; rfl
  have hp := pow_le hk
  have hm : b * 256 ^ k ≤ 255 * 16777216 := Nat.mul_le_mul (by omega) hp
  rw [h1, h2, e, ← Int.natCast_mul, ← wrapF_eq, wrapF_nat .i64 (by show _ ≤ 9223372036854775807; omega)]
theorem b_or {q : EqK} {x b k : Nat} (hb : b < 256) (hk : k ≤ 3) (hx : x < 256 ^ k) : binV .or q (.int .i64 (x : Int)) (.int .i64 ((b * 256 ^ k : Nat) : Int)) = some (.int .i64 ((x + b * 256 ^ k : Nat) : Int)) := by
  show some (V.int .i64 (IntKind.wrap .i64 ((BitVec.ofInt 64 (x : Int) ||| BitVec.ofInt 64 ((b * 256 ^ k : Nat) : Int)).toNat : Int))) = _
  have hp := pow_le hk
  have hm : b * 256 ^ k ≤ 255 * 16777216 := Nat.mul_le_mul (by omega) hp
  have e : (256 : Nat) ^ k = 2 ^ (8 * k) := by rw [Nat.pow_mul]
  have ho : x ||| b * 256 ^ k = x + b * 256 ^ k := by
    rw [e] at hx ⊢
    rw [Nat.or_comm, ← Nat.shiftLeft_eq, ← Nat.shiftLeft_add_eq_or_of_lt hx, Nat.add_comm]
  rw [BitVec.ofInt_natCast, BitVec.ofInt_natCast, BitVec.toNat_or, BitVec.toNat_ofNat, BitVec.toNat_ofNat, Nat.mod_eq_of_lt (by omega), Nat.mod_eq_of_lt (by omega), ho, ← wrapF_eq, wrapF_nat .i64 (by show _ ≤ 9223372036854775807; omega)]

theorem conv_i64 (b : UInt8) : wrapF .i64 (b.toNat : Int) = (b.toNat : Int) := wrapF_nat .i64 (by have := UInt8.toNat_lt b; show _ ≤ 9223372036854775807; omega)
theorem Take_ok (fs : Fs F) {bv : V} {bs : List UInt8} {n : Nat} {h : Hp} (hb : Sl h bv 1 bs.length (bs.map byteV)) (hc : CapOk bv 1) (hn : 1 ≤ n) (hn4 : n ≤ 4) :
    CallE F 30 [bv, .int .i64 (n : Int)] h (.tup [.int .i64 ((if bs.length < n then 0 else un (bs.take n) : Nat) : Int), .bool (!decide (bs.length < n))]) h := by
  refine Said.eq (said_of fs.h30 ?_)
  show WC F _ b30 [(0, bv), (1, .int .i64 (n : Int))] h _
  refine WC.seq (WC.region ?_)
  refine R.mv .none .c ?_  -- t4 := smMv (.int .i64 0)
  refine R.mv .none .c ?_  -- t5 := smMv (.bool false)
  refine WR.nil ?_
  refine WC.seq ?_
  refine WC.seq (WC.region ?_)
  have hd1 : decide ((n : Int) < 1) = false := by simp; omega
  have hd2 : decide ((4 : Int) < (n : Int)) = false := by simp; omega
  refine R.mv .none (.t rfl) ?_  -- t9 := smMv t1
  refine R.bin .none (.t rfl) .c b_lss ?_  -- t10 := smBin .lss (.flat .i) t9 (.int .i64 1)
  rw [hd1]
  refine R.mv .none (.t rfl) ?_  -- t11 := smMv t10
  refine R.mv (.yes rfl) (.t rfl) ?_  -- t12
  refine R.bin (.yes rfl) (.t rfl) .c b_gtr ?_  -- t13
  rw [hd2]
  refine R.pick .none (.t rfl) .c (.t rfl) ?_  -- t14
  refine R.mv .none (.t rfl) ?_  -- t15 := smMv t14
  refine R.mv (.yes rfl) (.t rfl) ?_  -- t16
  refine R.lenSlv (.yes rfl) (.t rfl) hb ?_  -- t17
  refine R.mv (.yes rfl) (.t rfl) ?_  -- t18
  refine R.bin (.yes rfl) (.t rfl) (.t rfl) b_lss ?_  -- t19
  refine R.pick .none (.t (n := 15) (a := .bool false) rfl) .c (.t rfl) ?_  -- t20
  refine WR.nil ?_
  refine WC.condB (.t rfl) (fun hc' => ?_) (fun hc' => ?_) -- t20
  · have hlt : bs.length < n := by have := of_decide_eq_true hc'; omega
    refine WC.seq (WC.region ?_)
    refine R.mv .none .c ?_
    refine R.mv .none .c ?_
    refine WR.nil ?_
    refine WC.ret ?_
    refine ⟨_, .t rfl (.t rfl .nil), ?_, rfl⟩
    rw [if_pos hlt, decide_eq_true hlt]; rfl
  · have hge : ¬ bs.length < n := by have := of_decide_eq_false hc'; omega
    rw [if_neg hge, decide_eq_false hge]
    refine WC.skip ?_
    obtain ⟨v', c1, c2, _, _⟩ := cut_hi hb hc (Nat.le_of_not_lt hge)
    refine WC.seq (WC.region ?_)
    refine R.mv .none .c ?_  -- t6
    refine WR.nil ?_
    refine WC.seq ?_
    refine WC.seq (WC.region ?_)
    refine R.mv .none (.t rfl) ?_  -- t21 := smMv t0
    refine R.mv .none (.t rfl) ?_  -- t22 := smMv t1
    refine R.slice .none (.t rfl) .none (.some (.t rfl)) .none c1 ?_  -- t23
    refine R.lenSlv .none (.t rfl) c2 ?_  -- t24
    refine R.mv .none .c ?_  -- t25
    refine WR.nil ?_
    refine WC.block ?_ -- 0
    refine WC.loop (fun m E k => k = h ∧ ∃ i, m = n - i ∧ i ≤ n ∧ Sub [(23, v'), (24, .int .i64 (n : Int)), (25, .int .i64 (i : Int)), (6, .int .i64 ((un (bs.take i) : Nat) : Int))] E) (m := n)
      ⟨rfl, 0, by omega, by omega, .cons rfl (.cons rfl (.cons rfl (.cons rfl (.nil _))))⟩ ?_
    rintro m E k ⟨rfl, i, rfl, hi, hE⟩
    refine WC.sub hE ?_
    refine WC.seq (WC.region ?_)
    refine R.bin .none (.t rfl) (.t rfl) b_lss ?_  -- t26
    refine WR.nil ?_
    refine WC.seq ?_
    refine WC.condD (.t rfl) (fun hlt => ?_) (fun hgt => ?_) -- t26
    · refine WC.skip ?_
      have hlt' : i < n := by omega
      obtain ⟨b, hbi⟩ : ∃ b, bs[i]? = some b := ⟨_, List.getElem?_eq_getElem (by omega)⟩
      rcases c2.2 with ⟨_, h0⟩ | ⟨la, lo, lc, rfl, hcc⟩
      · omega
      have hb8 : b.toNat < 256 := UInt8.toNat_lt b
      have hun : un (bs.take i) < 256 ^ i := by have := un_lt (bs.take i); rwa [List.length_take, Nat.min_eq_left (by omega)] at this
      refine WC.seq (WC.block (WC.seq (WC.region ?_)))
      refine R.mv .none (.t rfl) ?_  -- t27
      refine R.iAddr .none (.t rfl) (.t rfl) hlt' ?_  -- t28
      refine R.load .none (.t rfl) (by rw [Nat.mul_one]; exact hcc.one (i := i) (v := .int .u8 (b.toNat : Int)) (by rw [Nat.mul_one, List.getElem?_take, if_pos hlt', List.getElem?_map, hbi]; rfl)) ?_  -- t29
      refine R.mv .none (.t rfl) ?_  -- t7
      refine R.mv .none (.t rfl) ?_  -- t8
      refine WR.nil ?_
      refine WC.region ?_
      refine R.mv .none (.t rfl) ?_  -- t30
      refine R.mv .none (.t rfl) ?_  -- t31
      refine R.convI .none (.t rfl) ?_  -- t32
      rw [conv_i64]
      refine R.mv .none (.t rfl) ?_  -- t33
      refine R.bin .none .c (.t rfl) (b_mul (by omega) (by omega)) ?_  -- t34
      refine R.bin .none (.t rfl) (.t rfl) (b_shl hb8 (by omega)) ?_  -- t35
      refine R.bin .none (.t rfl) (.t rfl) (b_or hb8 (by omega) hun) ?_  -- t36
      refine R.mv .none (.t rfl) ?_  -- t6
      refine WR.nil ?_
      refine WC.region ?_
      refine R.bin .none (.t rfl) .c (b_add (by omega) (by omega)) ?_  -- t37
      refine R.mv .none (.t rfl) ?_  -- t25
      refine WR.nil ?_
      refine ⟨n - (i + 1), by omega, rfl, i + 1, rfl, by omega, .cons rfl (.cons rfl (.cons rfl (.cons ?_ (.nil _))))⟩
      show some _ = some _
      rw [take_snoc hbi, un_snoc, List.length_take, Nat.min_eq_left (by omega)]
    · refine WC.exit ?_ -- 0
      show WC F _ _ _ _ _
      have hin : i = n := by omega
      subst hin
      refine WC.seq (WC.region ?_)
      refine R.mv .none (.t rfl) ?_  -- t38
      refine R.mv .none (.t rfl) ?_  -- t4
      refine R.mv .none .c ?_  -- t5
      refine WR.nil ?_
      refine WC.ret ?_
      exact ⟨_, .t rfl (.t rfl .nil), rfl, rfl⟩

/-- one row may be turned, what is new is new -/
structure Frm (a : Pa) (h h' : Hp) : Prop where
  old : ∀ x : Pa, x.toNat < h.next.toNat → x ≠ a → h'.get x = h.get x
  next : h.next.toNat ≤ h'.next.toNat
  wf : WF h'
theorem Frm.refl {a : Pa} {h : Hp} (w : WF h) : Frm a h h := ⟨fun _ _ _ => rfl, Nat.le_refl _, w⟩
theorem Frm.trans {a : Pa} {h h1 h2 : Hp} (f : Frm a h h1) (g : Frm a h1 h2) : Frm a h h2 :=
  ⟨fun x hx hn => (g.old x (Nat.lt_of_lt_of_le hx f.next) hn).trans (f.old x hx hn), Nat.le_trans f.next g.next, g.wf⟩
theorem Frm.keep {a : Pa} {h h1 h2 : Hp} (f : Frm a h h1) (k : Keep h1.next.toNat h1 h2) : Frm a h h2 :=
  f.trans ⟨fun x hx _ => k.old x hx, k.next, k.wf⟩
theorem Frm.upd {a : Pa} {h h1 : Hp} {cs : List V} (u : Upd h a cs h1) : Frm a h h1 := ⟨u.old, u.next, u.wf⟩
theorem Frm.at {a x : Pa} {h h1 : Hp} {b : Blk} (f : Frm a h h1) (w : WF h) (hg : h.get x = some b) (hne : x ≠ a) : h1.get x = some b := (f.old x (w.lt hg) hne).trans hg
theorem Frm.sl {a : Pa} {h h1 : Hp} (f : Frm a h h1) (w : WF h) {v : V} {k n : Nat} {cs : List V} (hs : Sl h v k n cs) (hne : InB v fun b => b ≠ a) : Sl h1 v k n cs := by
  refine ⟨hs.1, ?_⟩
  rcases hs.2 with h2 | ⟨b, o, c, h2, h3⟩
  · exact .inl h2
  · refine .inr ⟨b, o, c, h2, ?_⟩
    obtain ⟨l, h4, h5⟩ := h3
    refine ⟨l, ?_, h5⟩
    rw [cells_get (f.old b (Cells.lt w ⟨l, h4, h5⟩) (hne b o n c h2))]; exact h4
/-- made behind: the old are kept -/
theorem Frm.made {a : Pa} {h h1 h2 : Hp} (k : Keep h.next.toNat h h1) (ha : h.next.toNat ≤ a.toNat) (f : Frm a h1 h2) : Keep h.next.toNat h h2 :=
  ⟨Nat.le_trans k.next f.next, fun x hx => (f.old x (Nat.lt_of_lt_of_le hx k.next) (paNe (by omega))).trans (k.old x hx), f.wf⟩

/-- a reader: what is left, and whether it went wrong -/
abbrev RS' := List UInt8 × Bool
def Rd (m : Pa) (h : Hp) (a : Pa) (s : RS') : Prop := ∃ v, h.get a = some (.cells [v, .bool s.2] false) ∧ Sl h v 1 s.1.length (s.1.map byteV) ∧ CapOk v 1 ∧ InB v fun b => b ≠ a ∧ b = m
theorem Rd.lt {m : Pa} {h : Hp} (w : WF h) {a : Pa} {s : RS'} (r : Rd m h a s) : a.toNat < h.next.toNat := by
  obtain ⟨v, h1, _⟩ := r; exact w.lt h1
theorem Rd.keep {m : Pa} {h h' : Hp} (w : WF h) {a : Pa} {s : RS'} (r : Rd m h a s) (k : Keep h.next.toNat h h') : Rd m h' a s := by
  have hl := r.lt w
  obtain ⟨v, h1, h2, h3, h4⟩ := r
  exact ⟨v, k.at hl h1, h2.ext k w (Nat.le_refl _), h3, h4⟩
def numS (n : Nat) (s : RS') : Nat × RS' := if s.2 || decide (s.1.length < n) then (0, (s.1, true)) else (un (s.1.take n), (s.1.drop n, false))
theorem num_ok (fs : Fs F) {m : Pa} {a : Pa} {s : RS'} {n : Nat} {h : Hp} (w : WF h) (r : Rd m h a s) (hn : 1 ≤ n) (hn4 : n ≤ 4) :
    ∃ h', CallE F 25 [.ptr a 0, .int .i64 (n : Int)] h (.int .i64 ((numS n s).1 : Int)) h' ∧ Rd m h' a (numS n s).2 ∧ Frm a h h' := by
  suffices hs : Said F 25 [.ptr a 0, .int .i64 (n : Int)] h (fun v h' => v = .int .i64 ((numS n s).1 : Int) ∧ Rd m h' a (numS n s).2 ∧ Frm a h h') (fun _ _ => False) by
    obtain ⟨v, h', h1, rfl, h3⟩ := hs.ret
    exact ⟨h', h1, h3⟩
  obtain ⟨v, g, hv, hc, hb⟩ := r
  obtain ⟨bs, bad⟩ := s
  simp only at g hv
  have t1 := Take_ok fs (n := n) hv hc hn hn4
  have hb1 : InB v fun b => b ≠ a := fun b o n c e => (hb b o n c e).1
  refine said_of fs.h25 ?_
  show WC F _ b25 [(0, .ptr a 0), (1, .int .i64 (n : Int))] h _
  refine WC.seq (WC.region ?_)
  refine R.mv .none .c ?_  -- t4
  refine WR.nil ?_
  refine WC.seq (WC.region ?_)
  refine R.mv .none (.t rfl) ?_  -- t8
  refine R.nil? .none (.t rfl) ?_  -- t9
  refine R.fAddr .none (.t rfl) ?_  -- t10
  refine R.load .none (.t rfl) ((Cells.of g rfl).one (i := 0) rfl) ?_  -- t11
  refine R.mv .none (.t rfl) ?_  -- t12
  refine R.call .none (.cons (.t rfl) (.cons (.t rfl) .nil)) t1 ?_  -- t13
  refine R.mv .none (.t rfl) ?_  -- t7
  refine R.ext .none (.t rfl) rfl ?_  -- t14
  refine R.ext .none (.t rfl) rfl ?_  -- t15
  refine R.mv .none (.t rfl) ?_  -- t5
  refine R.mv .none (.t rfl) ?_  -- t6
  refine WR.nil ?_
  refine WC.seq ?_
  obtain ⟨nb, hnb⟩ : ∃ nb, nb = (bad || decide (bs.length < n)) := ⟨_, rfl⟩
  refine WC.seq (WC.then (fun E k => k = h.put a (.cells [v, .bool nb] false) ∧ Sub [(0, .ptr a 0), (1, .int .i64 (n : Int)), (5, .int .i64 ((if bs.length < n then 0 else un (bs.take n) : Nat) : Int))] E) ?_ ?_)
  · refine WC.region ?_
    refine R.mv .none (.t rfl) ?_  -- t16
    refine R.mv .none (.t rfl) ?_  -- t17
    refine R.nil? .none (.t rfl) ?_  -- t18
    refine R.fAddr .none (.t rfl) ?_  -- t19
    refine R.load .none (.t rfl) ((Cells.of g rfl).one (i := 1) rfl) ?_  -- t20
    refine R.mv .none (.t rfl) ?_  -- t21
    cases bad with
    | true =>
      refine R.no (.no rfl rfl) ?_
      refine R.no (.no rfl rfl) ?_
      refine R.pick .none (.t rfl) .c (.t rfl) ?_  -- t24
      refine R.nil? .none (.t rfl) ?_  -- t25
      refine R.fAddr .none (.t rfl) ?_  -- t26
      refine R.store .none (.t rfl) (.t rfl) rfl (storeN_of g rfl rfl) ?_
      refine WR.nil ⟨?_, .cons rfl (.cons rfl (.cons rfl (.nil _)))⟩
      rw [hnb]; rfl
    | false =>
      refine R.mv (.yes rfl) (.t rfl) ?_  -- t22
      refine R.un (.yes rfl) (.t rfl) rfl ?_  -- t23
      refine R.pick .none (.t rfl) .c (.t rfl) ?_  -- t24
      refine R.nil? .none (.t rfl) ?_  -- t25
      refine R.fAddr .none (.t rfl) ?_  -- t26
      refine R.store .none (.t rfl) (.t rfl) rfl (storeN_of g rfl rfl) ?_
      refine WR.nil ⟨?_, .cons rfl (.cons rfl (.cons rfl (.nil _)))⟩
      rw [hnb]
      show h.put a (.cells [v, .bool (!!decide (bs.length < n))] false) = _
      rw [Bool.not_not, Bool.false_or]
  rintro E k ⟨rfl, hE⟩
  refine WC.sub hE ?_
  have u1 : Upd h a [v, .bool nb] (h.put a (.cells [v, .bool nb] false)) := .put w g _
  refine WC.seq (WC.region ?_)
  refine R.mv .none (.t rfl) ?_  -- t27
  refine R.nil? .none (.t rfl) ?_  -- t28
  refine R.fAddr .none (.t rfl) ?_  -- t29
  refine R.load .none (.t rfl) ((Cells.of u1.get rfl).one (i := 1) rfl) ?_  -- t30
  refine WR.nil ?_
  have hv1 := hv.upd w u1 hb1
  refine WC.condB (.t rfl) (fun hc' => ?_) (fun hc' => ?_) -- t30
  · have hS : numS n (bs, bad) = (0, (bs, true)) := by
      unfold numS; rw [if_pos]; rw [← hc', hnb]
    refine WC.seq (WC.region ?_)
    refine R.mv .none .c ?_
    refine WR.nil ?_
    refine WC.ret ?_
    rw [hS]
    exact ⟨_, .t rfl .nil, rfl, ⟨v, hc' ▸ u1.get, hv1, hc, hb⟩, .upd u1⟩
  · have hnb0 : bad = false ∧ ¬ bs.length < n := by
      rw [hnb] at hc'
      cases bad with
      | true => simp at hc'
      | false => exact ⟨rfl, by simpa using hc'⟩
    have hS : numS n (bs, bad) = (un (bs.take n), (bs.drop n, false)) := by
      unfold numS; rw [if_neg]; rw [← hnb, hc']; simp
    obtain ⟨v', s1, s2, s3, s4⟩ := cut_lo hv1 hc (Nat.le_of_not_lt hnb0.2)
    rw [Nat.mul_one] at s2
    refine WC.skip ?_
    refine WC.seq (WC.region ?_)
    refine R.mv .none (.t rfl) ?_  -- t31
    refine R.mv .none (.t rfl) ?_  -- t32
    refine R.nil? .none (.t rfl) ?_  -- t33
    refine R.fAddr .none (.t rfl) ?_  -- t34
    refine R.load .none (.t rfl) ((Cells.of u1.get rfl).one (i := 0) rfl) ?_  -- t35
    refine R.mv .none (.t rfl) ?_  -- t36
    refine R.slice .none (.t rfl) (.some (.t rfl)) .none .none s1 ?_  -- t37
    refine R.nil? .none (.t rfl) ?_  -- t38
    refine R.fAddr .none (.t rfl) ?_  -- t39
    have hsc : ∃ h', (h.put a (.cells [v, .bool nb] false)).storeN a 0 v'.cells = some h' ∧ Nat.beq v'.cells.length 1 = true ∧ Upd h a [v', .bool nb] h' := by
      rcases s2.2 with ⟨rfl, _⟩ | ⟨la, lo, lc, rfl, _⟩
      · exact ⟨_, storeN_of u1.get rfl rfl, rfl, u1.trans (.put u1.wf u1.get _)⟩
      · exact ⟨_, storeN_of u1.get rfl rfl, rfl, u1.trans (.put u1.wf u1.get _)⟩
    obtain ⟨h2, q1, q2, u2⟩ := hsc
    refine R.store .none (.t rfl) (.t rfl) q2 q1 ?_
    refine WR.nil ?_
    refine WC.seq (WC.region ?_)
    refine R.mv .none (.t rfl) ?_  -- t40
    refine R.mv .none (.t rfl) ?_  -- t4
    refine WR.nil ?_
    refine WC.ret ?_
    rw [hS]
    have hb' := s4 _ hb
    have hb2 := s4 _ hb1
    have s2' : Sl h v' 1 (bs.length - n) ((bs.map byteV).drop n) := by
      refine ⟨s2.1, ?_⟩
      rcases s2.2 with q | ⟨la, lo, lc, rfl, l, q3, q4⟩
      · exact .inl q
      · exact .inr ⟨la, lo, lc, rfl, l, by rw [← cells_get (get_put_ne (hb2 la lo _ lc rfl))]; exact q3, q4⟩
    refine ⟨_, .t rfl .nil, ?_, ⟨v', hc' ▸ u2.get, ?_, s3, hb'⟩, .upd u2⟩
    · rw [if_neg hnb0.2]; rfl
    · have := s2'.upd w u2 hb2
      simpa [List.map_drop] using this

def ptrS (s : RS') : (Nat × Nat) × RS' := (((numS 2 s).1, (numS 4 (numS 2 s).2).1), (numS 4 (numS 2 s).2).2)
theorem ptr_ok (fs : Fs F) {m : Pa} {a : Pa} {s : RS'} {h : Hp} (w : WF h) (r : Rd m h a s) (hm : m.toNat < h.next.toNat) :
    ∃ h', CallE F 26 [.ptr a 0] h (.agg (ptrV (ptrS s).1)) h' ∧ Rd m h' a (ptrS s).2 ∧ Frm a h h' := by
  suffices hs : Said F 26 [.ptr a 0] h (fun v h' => v = .agg (ptrV (ptrS s).1) ∧ Rd m h' a (ptrS s).2 ∧ Frm a h h') (fun _ _ => False) by
    obtain ⟨v, h', h1, rfl, h3⟩ := hs.ret
    exact ⟨h', h1, h3⟩
  refine said_of fs.h26 ?_
  show WC F _ b26 [(0, .ptr a 0)] h _
  have ha := r.lt w
  refine WC.cut (fun E k => WF k ∧ k.get h.next = some (.cells [.int .i64 0, .int .i64 0] false) ∧ Keep h.next.toNat h k ∧ Sub [(0, .ptr a 0), (2, .ptr h.next 0)] E) ?_ ?_
  · refine WC.region ?_
    refine R.alloc .none ?_  -- t2
    exact WR.nil ⟨w.alloc _, get_alloc_self _ _, Keep.made w _, .cons rfl (.cons rfl (.nil _))⟩
  rintro E k ⟨w1, g1, k1, hE⟩
  refine WC.sub hE ?_
  have r1 := r.keep w k1
  obtain ⟨h2, c1, c2, c3⟩ := num_ok fs (n := 2) w1 r1 (by omega) (by omega)
  obtain ⟨h3, d1, d2, d3⟩ := num_ok fs (n := 4) c3.wf c2 (by omega) (by omega)
  have g3 := (c3.trans d3).at w1 g1 (paNe (by omega))
  refine WC.seq (WC.region ?_)
  refine R.mv .none (.t rfl) ?_  -- t4
  refine R.call .none (.cons (.t rfl) (.cons .c .nil)) c1 ?_  -- t5
  refine R.mv .none (.t rfl) ?_  -- t3
  refine WR.nil ?_
  refine WC.seq (WC.region ?_)
  refine R.mv .none (.t rfl) ?_  -- t6
  refine R.mv .none (.t rfl) ?_  -- t7
  refine R.call .none (.cons (.t rfl) (.cons .c .nil)) d1 ?_  -- t8
  refine R.build .none (.cons (.t rfl) rfl rfl rfl (.cons (.t rfl) rfl rfl rfl .nil)) ?_  -- t9
  refine R.store .none (.t rfl) (.t rfl) rfl (storeN_of g3 rfl rfl) ?_
  refine WR.nil ?_
  refine WC.ret ?_
  have u4 := Upd.put d3.wf g3 (ptrV (ptrS s).1)
  have f3 := c3.trans d3
  refine ⟨_, .c rfl ((Cells.of (get_put_self _ _ _) rfl).agg (i := 0) (n := 2) rfl rfl) .nil, rfl, ?_, ?_⟩
  · obtain ⟨v, q1, q2, q3, q4⟩ := d2
    have hne : InB v fun b => b ≠ h.next := fun b o n c e => paNe (by rw [(q4 b o n c e).2]; omega)
    exact ⟨v, u4.at d3.wf q1 (paNe (by omega)), q2.upd d3.wf u4 hne, q3, q4⟩
  · refine ⟨fun x hx hn => ?_, Nat.le_trans k1.next (Nat.le_trans f3.next u4.next), u4.wf⟩
    exact (u4.old x (by have := f3.next; have := k1.next; omega) (paNe (by omega))).trans ((f3.old x (by have := k1.next; omega) hn).trans (k1.old x hx))

/-! pointers, behind how many there are -/
def ptrsL : Nat → RS' → List (Nat × Nat) × RS'
  | 0, s => ([], s)
  | n + 1, s => bif s.2 then ([], s) else ((ptrS s).1 :: (ptrsL n (ptrS s).2).1, (ptrsL n (ptrS s).2).2)
def ptrsS (s : RS') : List (Nat × Nat) × RS' := ptrsL (numS 1 s).1 (numS 1 s).2
theorem numS1_lt (s : RS') : (numS 1 s).1 < 256 := by
  unfold numS
  split
  · exact Nat.zero_lt_succ _
  · have := un_lt (s.1.take 1)
    have h2 : (s.1.take 1).length ≤ 1 := List.length_take_le _ _
    have h3 := Nat.pow_le_pow_right (n := 256) (by omega) h2
    omega
/-- a row of one's own, and the others -/
theorem Own.keep {h h' : Hp} (w : WF h) {v : V} {k n : Nat} {cs : List V} {o : Option Pa} (ho : Own h v k n cs o) (kk : Keep h.next.toNat h h') : Own h' v k n cs o := ho.same fun b hb => kk.old b (by subst hb; exact ho.lt w)
theorem Own.frm {h h' : Hp} (w : WF h) {a : Pa} {v : V} {k n : Nat} {cs : List V} {o : Option Pa} (ho : Own h v k n cs o) (f : Frm a h h') (hne : o ≠ some a) : Own h' v k n cs o := ho.same fun b hb => f.old b (by subst hb; exact ho.lt w) (fun e => hne (by rw [hb, e]))
theorem ptrs_rd (fs : Fs F) {m : Pa} {a : Pa} {s : RS'} {h : Hp} (w : WF h) (r : Rd m h a s) (hm : m.toNat < h.next.toNat) :
    ∃ v h' o, CallE F 28 [.ptr a 0] h v h' ∧ Own h' v 2 (ptrsS s).1.length (ptrsV (ptrsS s).1) o ∧ (∀ b, o = some b → h.next.toNat ≤ b.toNat) ∧ Rd m h' a (ptrsS s).2 ∧ Frm a h h' ∧ (ptrsS s).1.length ≤ 255 := by
  suffices hs : Said F 28 [.ptr a 0] h (fun v h' => ∃ o, Own h' v 2 (ptrsS s).1.length (ptrsV (ptrsS s).1) o ∧ (∀ b, o = some b → h.next.toNat ≤ b.toNat) ∧ Rd m h' a (ptrsS s).2 ∧ Frm a h h' ∧ (ptrsS s).1.length ≤ 255) (fun _ _ => False) by
    obtain ⟨v, h', h1, o, h3⟩ := hs.ret
    exact ⟨v, h', o, h1, h3⟩
  refine said_of fs.h28 ?_
  show WC F _ b28 [(0, .ptr a 0)] h _
  have ha := r.lt w
  refine WC.seq (WC.region ?_)
  refine R.mv .none .c ?_  -- t2
  refine WR.nil ?_
  refine WC.seq (WC.region ?_)
  refine R.mv .none .c ?_  -- t3
  refine WR.nil ?_
  refine WC.seq ?_
  obtain ⟨h1, c1, c2, c3⟩ := num_ok fs (n := 1) w r (by omega) (by omega)
  have hn1 := numS1_lt s
  refine WC.seq (WC.region ?_)
  refine R.mv .none (.t rfl) ?_  -- t5
  refine R.call .none (.cons (.t rfl) (.cons .c .nil)) c1 ?_  -- t6
  refine R.mv .none (.t rfl) ?_  -- t4
  refine WR.nil ?_
  refine WC.block ?_ -- 0
  refine WC.loop (fun μ E k => ∃ (acc : List (Nat × Nat)) (s' : RS') (ov : V) (o : Option Pa), acc.length + μ ≤ 255 ∧ ptrsS s = (acc ++ (ptrsL μ s').1, (ptrsL μ s').2) ∧ Own k ov 2 acc.length (ptrsV acc) o ∧ (∀ b, o = some b → h.next.toNat ≤ b.toNat) ∧ Rd m k a s' ∧ Frm a h k ∧
      Sub [(0, .ptr a 0), (3, ov), (4, .int .i64 (μ : Int))] E) (m := (numS 1 s).1)
    ⟨[], (numS 1 s).2, .no .sl, none, by simp; omega, rfl, Own.none _ 2, (fun _ e => by cases e), c2, c3, .cons rfl (.cons rfl (.cons rfl (.nil _)))⟩ ?_
  rintro μ E k ⟨acc, s', ov, o, hlen, hS, ho, hob, hr, hf, hE⟩
  refine WC.sub hE ?_
  have wk := hf.wf
  refine WC.seq ?_
  have hmk : m.toNat < k.next.toNat := Nat.lt_of_lt_of_le hm hf.next
  refine WC.seq (WC.then (fun E k' => k' = k ∧ Sub [(0, .ptr a 0), (3, ov), (4, .int .i64 (μ : Int)), (15, .bool (decide (0 < μ) && !s'.2))] E) ?_ ?_)
  · obtain ⟨rv, g, _⟩ := hr
    refine WC.region ?_
    refine R.mv .none (.t rfl) ?_  -- t7
    refine R.bin .none (.t rfl) .c b_gtr ?_  -- t8
    refine R.mv .none (.t rfl) ?_  -- t9
    by_cases h0 : 0 < μ
    · have hd : decide ((0 : Int) < (μ : Int)) = true := by simp; omega
      have hd' : decide (0 < μ) = true := by simp; omega
      rw [hd, hd']
      refine R.mv (.yes rfl) (.t rfl) ?_  -- t10
      refine R.nil? (.yes rfl) (.t rfl) ?_  -- t11
      refine R.fAddr (.yes rfl) (.t rfl) ?_  -- t12
      refine R.load (.yes rfl) (.t rfl) ((Cells.of g rfl).one (i := 1) rfl) ?_  -- t13
      refine R.un (.yes rfl) (.t rfl) rfl ?_  -- t14
      refine R.pick .none (.t rfl) (.t rfl) .c ?_  -- t15
      exact WR.nil ⟨rfl, .cons rfl (.cons rfl (.cons rfl (.cons rfl (.nil _))))⟩
    · have hd : decide ((0 : Int) < (μ : Int)) = false := by simp; omega
      have hd' : decide (0 < μ) = false := by simp; omega
      rw [hd, hd']
      refine R.no (.no rfl rfl) ?_
      refine R.no (.no rfl rfl) ?_
      refine R.no (.no rfl rfl) ?_
      refine R.no (.no rfl rfl) ?_
      refine R.no (.no rfl rfl) ?_
      refine R.pick .none (.t rfl) (.t rfl) .c ?_  -- t15
      exact WR.nil ⟨rfl, .cons rfl (.cons rfl (.cons rfl (.cons rfl (.nil _))))⟩
  rintro E' k' ⟨rfl, hE'⟩
  refine WC.sub hE' ?_
  refine WC.condB (.t rfl) (fun hc => ?_) (fun hc => ?_) -- t15
  · refine WC.skip ?_
    rw [Bool.and_eq_true] at hc
    have hμ : 0 < μ := of_decide_eq_true hc.1
    have hs2 : s'.2 = false := by simpa using hc.2
    obtain ⟨ν, rfl⟩ : ∃ ν, μ = ν + 1 := ⟨μ - 1, by omega⟩
    obtain ⟨h2, d1, d2, d3⟩ := ptr_ok fs wk hr hmk
    have k4 := Keep.made d3.wf (.cells (ptrV (ptrS s').1) false)
    have hne : o ≠ some a := fun e => by have := hob a e; omega
    have ho2 := Own.keep d3.wf (Own.frm wk ho d3 hne) k4
    have s4 : Sl (h2.alloc (.cells (ptrV (ptrS s').1) false)) (.sl h2.next 0 1 (.ex 1)) 2 1 (ptrV (ptrS s').1) := ⟨rfl, .inr ⟨h2.next, 0, .ex 1, rfl, .of (get_alloc_self h2 _) rfl⟩⟩
    obtain ⟨h5, f1, f2, f3, f4, f5⟩ := ho2.app k4.wf (by omega) (by omega) s4.src.1 s4.src.2 rfl rfl (by omega)
    have n4 := k4.next
    have n3 := d3.next
    have nf := hf.next
    have r4 := d2.keep d3.wf k4
    have a2 := d2.lt d3.wf
    refine WC.seq (WC.block (WC.region ?_))
    refine R.mv .none (.t rfl) ?_  -- t18
    refine R.mv .none (.t rfl) ?_  -- t19
    refine R.call .none (.cons (.t rfl) .nil) d1 ?_  -- t20
    refine R.buildSl .none (.cons (.t rfl) rfl rfl rfl .nil) rfl ?_  -- t21
    refine R.app .none (.t rfl) (.t rfl) f1 ?_  -- t22
    refine R.mv .none (.t rfl) ?_  -- t3
    refine WR.nil ?_
    refine WC.region ?_
    refine R.mv .none (.t rfl) ?_  -- t16
    refine R.bin .none (.t rfl) .c (b_sub (by omega) (by omega)) ?_  -- t17
    refine R.mv .none (.t rfl) ?_  -- t4
    refine WR.nil ?_
    have hold : ∀ x : Pa, x.toNat < k'.next.toNat → some x ≠ o → x ≠ a → h5.get x = k'.get x := fun x hx hxo hxa => by
      rw [f5 x (by omega) hxo, k4.old x (by omega), d3.old x hx hxa]
    refine ⟨ν, by omega, acc ++ [(ptrS s').1], (ptrS s').2, _, some (h2.alloc (.cells (ptrV (ptrS s').1) false)).next, by simp; omega, ?_, ?_, ?_, ?_, ?_, .cons rfl (.cons rfl (.cons ?_ (.nil _)))⟩
    · rw [hS, ptrsL, hs2]; simp
    · have : ptrsV (acc ++ [(ptrS s').1]) = ptrsV acc ++ ptrV (ptrS s').1 := by simp [ptrsV]
      rw [this, List.length_append]
      exact f2
    · intro b hb; cases hb; omega
    · obtain ⟨v, q1, q2, q3, q4⟩ := r4
      have hav : ∀ x : Pa, x = m ∨ x = a → h5.get x = (h2.alloc (.cells (ptrV (ptrS s').1) false)).get x := fun x hx => f5 x (by rcases hx with rfl | rfl <;> omega) (fun e => by have := hob x e.symm; rcases hx with rfl | rfl <;> omega)
      refine ⟨v, by rw [hav a (.inr rfl)]; exact q1, ?_, q3, q4⟩
      refine ⟨q2.1, ?_⟩
      rcases q2.2 with q | ⟨la, lo, lc, rfl, l, q5, q6⟩
      · exact .inl q
      · exact .inr ⟨la, lo, lc, rfl, l, by rw [cells_get (hav la (.inl (q4 la lo _ lc rfl).2))]; exact q5, q6⟩
    · refine ⟨fun x hx hxa => ?_, by omega, f3⟩
      rw [hold x (by omega) (fun e => by have := hob x e.symm; omega) hxa, hf.old x hx hxa]
    · show some _ = some _
      congr 2
      omega
  · refine WC.exit ?_ -- 0
    show WC F _ _ _ _ _
    have hnil : ptrsL μ s' = ([], s') := by
      cases μ with
      | zero => rfl
      | succ ν =>
        have : s'.2 = true := by simpa using hc
        rw [ptrsL, this, cond_true]
    rw [hnil, List.append_nil] at hS
    refine WC.seq (WC.region ?_)
    refine R.mv .none (.t rfl) ?_  -- t23
    refine R.mv .none (.t rfl) ?_  -- t2
    refine WR.nil ?_
    refine WC.ret ?_
    refine ⟨_, .t rfl .nil, o, ?_⟩
    rw [hS]
    exact ⟨ho, hob, hr, hf, by simp only; omega⟩
end Go.Ev.Root

namespace Go.Ev.Root
open Go.Ev
variable {F : Nat → Option FnI}
/-! what a block holds -/
def doneT (kind gen : Int) (load : List UInt8) (b : Bool) : Int × Int × List UInt8 := bif b || decide (55 < load.length) then (0, 0, []) else (kind, gen, load)
theorem doneV_T (kind gen : Int) (load : List UInt8) (b : Bool) : doneV kind gen load b = blkV (doneT kind gen load b).1 (doneT kind gen load b).2.1 (doneT kind gen load b).2.2 := by
  unfold doneV doneT
  cases b || decide (55 < load.length) <;> rfl
theorem tripEq (a b : Int × Int × List UInt8) : decide (a.1 = b.1 ∧ a.2.1 = b.2.1 ∧ a.2.2 = b.2.2) = decide (a = b) := by
  obtain ⟨a1, a2, a3⟩ := a
  obtain ⟨b1, b2, b3⟩ := b
  simp
theorem same_blk (k g : Int) (l : List UInt8) : same (.agg (blkV k g l)) (.agg (blkV k g l)) = true := by
  show sameL (blkV k g l) (blkV k g l) = true
  simp only [blkV, sameL, sameS_int, sameS_str, cond_true]
theorem ptrsV_scalar (l : List (Nat × Nat)) : allScalar (ptrsV l) = true := by
  induction l with
  | nil => rfl
  | cons p l ih => exact allScalar_append (a := ptrV p) (b := ptrsV l) rfl ih

/-- what a sum is read as -/
def sumA (load : List UInt8) : Nat × RS' := numS 4 (load, false)
def sumB (load : List UInt8) : Nat × RS' := numS 4 (sumA load).2
def sumP (load : List UInt8) : List (Nat × Nat) × RS' := ptrsS (sumB load).2
def sumT (gen : Int) (load : List UInt8) : Int × Int × List UInt8 := doneT 4 gen (sumLoad [(sumA load).1, (sumB load).1] (sumP load).1) (sumBad gen [(sumA load).1, (sumB load).1] (sumP load).1)
def sumOk (kind gen : Int) (load : List UInt8) : Bool := !((sumP load).2.2 || !decide (kind = 4) || !decide (sumT gen load = (kind, gen, load)))
theorem TakeSum_ok (fs : Fs F) {kind gen : Int} {load : List UInt8} {h : Hp} (w : WF h) :
    ∃ v h' r1 r2 l, CallE F 17 [.agg (blkV kind gen load)] h (.tup [.int .i64 ((r1 : Nat) : Int), .int .i64 ((r2 : Nat) : Int), v, .bool (sumOk kind gen load)]) h' ∧ Sl h' v 2 l.length (ptrsV l) ∧ InB v (fun a => h.next.toNat ≤ a.toNat) ∧ Keep h.next.toNat h h' ∧
      (sumOk kind gen load = true → r1 = (sumA load).1 ∧ r2 = (sumB load).1 ∧ l = (sumP load).1) := by
  suffices hs : Said F 17 [.agg (blkV kind gen load)] h (fun t h' => ∃ v r1 r2 l, t = .tup [.int .i64 ((r1 : Nat) : Int), .int .i64 ((r2 : Nat) : Int), v, .bool (sumOk kind gen load)] ∧ Sl h' v 2 l.length (ptrsV l) ∧ InB v (fun a => h.next.toNat ≤ a.toNat) ∧ Keep h.next.toNat h h' ∧
      (sumOk kind gen load = true → r1 = (sumA load).1 ∧ r2 = (sumB load).1 ∧ l = (sumP load).1)) (fun _ _ => False) by
    obtain ⟨t, h', h1, v, r1, r2, l, rfl, h3⟩ := hs.ret
    exact ⟨v, h', r1, r2, l, h1, h3⟩
  refine said_of fs.h17 ?_
  show WC F _ b17 [(0, .agg (blkV kind gen load))] h _
  -- the block's own cells
  refine WC.cut (fun E k => WF k ∧ k.get h.next = some (.cells (blkV kind gen load) false) ∧ Keep h.next.toNat h k ∧ k.next.toNat = h.next.toNat + 1 ∧ Sub [(1, .ptr h.next 0)] E) ?_ ?_
  · refine WC.region ?_
    refine R.box .none (.t rfl) rfl ?_  -- t1
    refine R.mv .none .c ?_  -- t2
    refine R.mv .none .c ?_  -- t3
    refine R.mv .none .c ?_  -- t4
    refine R.mv .none .c ?_  -- t5
    exact WR.nil ⟨w.alloc _, get_alloc_self _ _, Keep.made w _, next_alloc _ _, .cons rfl (.nil _)⟩
  rintro E k ⟨w1, g1, k1, x1, hE⟩
  refine WC.sub hE ?_
  -- the reader
  refine WC.cut (fun E k' => ∃ a, Rd k.next k' a (load, false) ∧ a.toNat = k.next.toNat + 1 ∧ Keep k.next.toNat k k' ∧ k.next.toNat + 2 ≤ k'.next.toNat ∧ Sub [(1, .ptr h.next 0), (6, .ptr a 0)] E) ?_ ?_
  · refine WC.region ?_
    refine R.fAddr .none (.t rfl) ?_  -- t7
    refine R.load .none (.t rfl) ((Cells.of g1 rfl).one (i := 2) rfl) ?_  -- t8
    refine R.convBytes .none (.t rfl) ?_  -- t9
    refine R.build .none (.cons (.t rfl) rfl rfl rfl .nil) ?_  -- t10
    refine R.box .none (.t rfl) rfl ?_  -- t11
    refine R.mv .none (.t rfl) ?_  -- t6
    have w2 := w1.alloc (.cells (load.map byteV) false)
    have x2 : (k.alloc (.cells (load.map byteV) false)).next.toNat = k.next.toNat + 1 := next_alloc k (.cells (load.map byteV) false)
    have s2 : Sl (k.alloc (.cells (load.map byteV) false)) (.sl k.next 0 load.length (.un 1)) 1 load.length (load.map byteV) := ⟨by simp, .inr ⟨k.next, 0, .un 1, rfl, .of (get_alloc_self k _) rfl⟩⟩
    have k3 := Keep.made w2 (.cells [.sl k.next 0 load.length (.un 1), .bool false] false)
    exact WR.nil ⟨(k.alloc (.cells (load.map byteV) false)).next, ⟨_, get_alloc_self _ _, s2.ext k3 w2 (Nat.le_refl _), rfl, fun a o n c e => by cases e; exact ⟨paNe (by omega), rfl⟩⟩, x2,
      (Keep.made w1 _).trans (k3.less (by omega)), by show _ ≤ (Heap.alloc _ _).next.toNat; rw [next_alloc, x2]; exact Nat.le_refl _, .cons rfl (.cons rfl (.nil _))⟩
  rintro E' k2 ⟨a, r2, ha, kk2, hn2, hE'⟩
  refine WC.sub hE' ?_
  obtain ⟨h3, c1, c2, c3⟩ := num_ok fs (n := 4) kk2.wf r2 (by omega) (by omega)
  obtain ⟨h4, d1, d2, d3⟩ := num_ok fs (n := 4) c3.wf c2 (by omega) (by omega)
  have n3 := c3.next
  have n4 := d3.next
  obtain ⟨pv, h5, o, e1, e2, e3, e4, e5, e6⟩ := ptrs_rd fs d3.wf d2 (by omega)
  have n5 := e5.next
  have fA := (c3.trans d3).trans e5
  have kA : Keep h.next.toNat h h5 := k1.trans ⟨Nat.le_trans kk2.next fA.next, fun x hx => (fA.old x (by omega) (paNe (by omega))).trans (kk2.old x (by omega)), fA.wf⟩
  have g5 : h5.get h.next = some (.cells (blkV kind gen load) false) := fA.at kk2.wf (kk2.at (by omega) g1) (paNe (by omega))
  refine WC.seq (WC.region ?_)
  refine R.mv .none (.t rfl) ?_  -- t12
  refine R.call .none (.cons (.t rfl) (.cons .c .nil)) c1 ?_  -- t13
  refine R.mv .none (.t rfl) ?_  -- t14
  refine R.call .none (.cons (.t rfl) (.cons .c .nil)) d1 ?_  -- t15
  refine R.mv .none (.t rfl) ?_  -- t2
  refine R.mv .none (.t rfl) ?_  -- t3
  refine WR.nil ?_
  refine WC.seq (WC.region ?_)
  refine R.mv .none (.t rfl) ?_  -- t16
  refine R.call .none (.cons (.t rfl) .nil) e1 ?_  -- t17
  refine R.mv .none (.t rfl) ?_  -- t4
  refine WR.nil ?_
  refine WC.seq ?_
  have hpl := e2.sl
  have hob := e2.inB (P := fun b => h4.next.toNat ≤ b.toNat ∧ b.toNat < h5.next.toNat) (fun b hb => ⟨e3 b hb, by subst hb; exact e2.lt e5.wf⟩)
  refine WC.seq (WC.then (fun E k' => Keep h5.next.toNat h5 k' ∧ Sub [(2, .int .i64 ((sumA load).1 : Int)), (3, .int .i64 ((sumB load).1 : Int)), (4, pv), (36, .bool (!sumOk kind gen load))] E) ?_ ?_)
  · obtain ⟨rv, g, _⟩ := e4
    have hb : (sumP load).2.2 = (ptrsS (numS 4 (numS 4 (load, false)).2).2).2.2 := rfl
    refine WC.region ?_
    refine R.mv .none (.t rfl) ?_  -- t18
    refine R.nil? .none (.t rfl) ?_  -- t19
    refine R.fAddr .none (.t rfl) ?_  -- t20
    refine R.load .none (.t rfl) ((Cells.of g rfl).one (i := 1) rfl) ?_  -- t21
    rw [← hb]
    refine R.mv .none (.t rfl) ?_  -- t22
    cases hbad : (sumP load).2.2 with
    | true =>
      have hno : sumOk kind gen load = false := by unfold sumOk; rw [hbad]; rfl
      refine R.no (.no rfl rfl) ?_
      refine R.no (.no rfl rfl) ?_
      refine R.no (.no rfl rfl) ?_
      refine R.pick .none (.t rfl) .c (.t rfl) ?_  -- t26
      refine R.mv .none (.t rfl) ?_  -- t27
      refine R.no (.no rfl rfl) ?_
      refine R.no (.no rfl rfl) ?_
      refine R.no (.no rfl rfl) ?_
      refine R.no (.no rfl rfl) ?_
      refine R.no (.no rfl rfl) ?_
      refine R.no (.no rfl rfl) ?_
      refine R.no (.no rfl rfl) ?_
      refine R.chkNo (.no rfl rfl) rfl ?_
      refine R.no (.no rfl rfl) ?_
      refine R.pick .none (.t rfl) .c (.t rfl) ?_  -- t36
      rw [hno]
      exact WR.nil ⟨Keep.refl e5.wf, .cons rfl (.cons rfl (.cons rfl (.cons rfl (.nil _))))⟩
    | false =>
      refine R.fAddr (.yes rfl) (.t rfl) ?_  -- t23
      refine R.load (.yes rfl) (.t rfl) ((Cells.of g5 rfl).one (i := 0) rfl) ?_  -- t24
      refine R.bin (.yes rfl) (.t rfl) .c b_neI ?_  -- t25
      refine R.pick .none (.t rfl) .c (.t rfl) ?_  -- t26
      refine R.mv .none (.t rfl) ?_  -- t27
      by_cases hk : kind = 4
      · have hkd : decide (kind = 4) = true := by simp [hk]
        rw [hkd]
        obtain ⟨h6, f1, f2⟩ := Sum_ok fs (gen := gen) (n1 := (sumA load).1) (n2 := (sumB load).1) (ps := (sumP load).1) e5.wf hpl (by have : (sumP load).1.length ≤ 255 := e6; omega) (fun b o n c e => (hob b o n c e).2)
        rw [doneV_T] at f1
        have g6 := f2.at (by omega) g5
        have hok : sumOk kind gen load = decide (sumT gen load = (kind, gen, load)) := by unfold sumOk; rw [hbad, hkd]; simp
        refine R.fAddr (.yes rfl) (.t rfl) ?_  -- t28
        refine R.load (.yes rfl) (.t rfl) ((Cells.of g5 rfl).one (i := 1) rfl) ?_  -- t29
        refine R.mv (.yes rfl) (.t rfl) ?_  -- t30
        refine R.mv (.yes rfl) (.t rfl) ?_  -- t31
        refine R.mv (.yes rfl) (.t rfl) ?_  -- t32
        refine R.load (.yes rfl) (.t rfl) ((Cells.of g5 rfl).agg (i := 0) (n := 3) rfl rfl) ?_  -- t34
        refine R.call (.yes rfl) (.cons (.t rfl) (.cons (.t rfl) (.cons (.t rfl) (.cons (.t rfl) .nil)))) f1 ?_  -- t33
        refine R.chkLoad (.yes rfl) rfl (.t rfl) ((Cells.of g6 rfl).agg (i := 0) (n := 3) rfl rfl) (same_blk _ _ _) ?_
        refine R.bin (.yes rfl) (.t rfl) (.t rfl) (agg_blk _ _ _ _ _ _) ?_  -- t35
        refine R.pick .none (.t rfl) .c (.t rfl) ?_  -- t36
        refine WR.nil ⟨f2, .cons rfl (.cons rfl (.cons rfl (.cons ?_ (.nil _))))⟩
        rw [hok, ← tripEq]
        rfl
      · have hkd : decide (kind = 4) = false := by simp [hk]
        have hno : sumOk kind gen load = false := by unfold sumOk; rw [hkd]; simp
        rw [hkd]
        refine R.no (.no rfl rfl) ?_
        refine R.no (.no rfl rfl) ?_
        refine R.no (.no rfl rfl) ?_
        refine R.no (.no rfl rfl) ?_
        refine R.no (.no rfl rfl) ?_
        refine R.no (.no rfl rfl) ?_
        refine R.no (.no rfl rfl) ?_
        refine R.chkNo (.no rfl rfl) rfl ?_
        refine R.no (.no rfl rfl) ?_
        refine R.pick .none (.t rfl) .c (.t rfl) ?_  -- t36
        rw [hno]
        exact WR.nil ⟨Keep.refl e5.wf, .cons rfl (.cons rfl (.cons rfl (.cons rfl (.nil _))))⟩
  rintro E2 k5 ⟨kB, hE2⟩
  refine WC.sub hE2 ?_
  have kT : Keep h.next.toNat h k5 := kA.trans (kB.less kA.next)
  refine WC.condB (.t rfl) (fun hc => ?_) (fun hc => ?_) -- t36
  · refine WC.seq (WC.region ?_)
    refine R.mv .none .c ?_  -- t2
    refine R.mv .none .c ?_  -- t3
    refine R.mv .none .c ?_  -- t4
    refine R.mv .none .c ?_  -- t5
    refine WR.nil ?_
    refine WC.ret ?_
    have hno : sumOk kind gen load = false := by simpa using hc
    rw [hno]
    exact ⟨_, .t rfl (.t rfl (.t rfl (.t rfl .nil))), .no .sl, 0, 0, [], rfl, ⟨rfl, .inl ⟨rfl, rfl⟩⟩, (fun _ _ _ _ e => by cases e), kT, fun e => by cases e⟩
  · have hyes : sumOk kind gen load = true := by simpa using hc
    refine WC.skip ?_
    refine WC.seq (WC.region ?_)
    refine R.mv .none (.t rfl) ?_  -- t37
    refine R.mv .none (.t rfl) ?_  -- t38
    refine R.mv .none (.t rfl) ?_  -- t39
    refine R.mv .none (.t rfl) ?_  -- t2
    refine R.mv .none (.t rfl) ?_  -- t3
    refine R.mv .none (.t rfl) ?_  -- t4
    refine R.mv .none .c ?_  -- t5
    refine WR.nil ?_
    refine WC.ret ?_
    rw [hyes]
    exact ⟨_, .t rfl (.t rfl (.t rfl (.t rfl .nil))), pv, (sumA load).1, (sumB load).1, (sumP load).1, rfl, hpl.ext kB e5.wf (Nat.le_refl _), (fun b o n c e => by have := (hob b o n c e).1; omega), kT, fun _ => ⟨rfl, rfl, rfl⟩⟩

/-- what a root is read as -/
def rootA (load : List UInt8) : Nat × RS' := numS 1 (load, false)
def rootB (load : List UInt8) : Nat × RS' := numS 4 (rootA load).2
def rootC (load : List UInt8) : Nat × RS' := numS 4 (rootB load).2
def rootD (load : List UInt8) : Nat × RS' := numS 4 (rootC load).2
def rootE (load : List UInt8) : Nat × RS' := numS 4 (rootD load).2
def rootP (load : List UInt8) : List (Nat × Nat) × RS' := ptrsS (rootE load).2
def rootNs (load : List UInt8) : List Nat := [(rootB load).1, (rootC load).1, (rootD load).1, (rootE load).1]
def rootT (gen : Int) (load : List UInt8) : Int × Int × List UInt8 := doneT 3 gen (rootLoad (rootA load).1 (rootNs load) (rootP load).1) (rootBad gen (rootA load).1 (rootNs load) (rootP load).1)
def rootOk (kind gen : Int) (load : List UInt8) : Bool := !((rootP load).2.2 || !decide (kind = 3) || !decide (rootT gen load = (kind, gen, load)))
/-- a root's cells -/
def rcV (k : Nat) (ns : List Nat) : List V := .int .i64 (k : Int) :: ns.map fun (n : Nat) => V.int .i64 (n : Int)
theorem TakeRoot_ok (fs : Fs F) {kind gen : Int} {load : List UInt8} {h : Hp} (w : WF h) :
    ∃ v h' rk rns l, CallE F 16 [.agg (blkV kind gen load)] h (.tup [.agg (rcV rk rns), v, .bool (rootOk kind gen load)]) h' ∧ rns.length = 4 ∧ Sl h' v 2 l.length (ptrsV l) ∧ InB v (fun a => h.next.toNat ≤ a.toNat) ∧ Keep h.next.toNat h h' ∧
      (rootOk kind gen load = true → rk = (rootA load).1 ∧ rns = rootNs load ∧ l = (rootP load).1) := by
  suffices hs : Said F 16 [.agg (blkV kind gen load)] h (fun t h' => ∃ v rk rns l, t = .tup [.agg (rcV rk rns), v, .bool (rootOk kind gen load)] ∧ rns.length = 4 ∧ Sl h' v 2 l.length (ptrsV l) ∧ InB v (fun a => h.next.toNat ≤ a.toNat) ∧ Keep h.next.toNat h h' ∧
      (rootOk kind gen load = true → rk = (rootA load).1 ∧ rns = rootNs load ∧ l = (rootP load).1)) (fun _ _ => False) by
    obtain ⟨t, h', h1, v, r1, r2, l, rfl, h3⟩ := hs.ret
    exact ⟨v, h', r1, r2, l, h1, h3⟩
  refine said_of fs.h16 ?_
  show WC F _ b16 [(0, .agg (blkV kind gen load))] h _
  -- the block's own cells, the answer's
  refine WC.cut (fun E k => ∃ y, WF k ∧ k.get h.next = some (.cells (blkV kind gen load) false) ∧ k.get y = some (.cells (rcV 0 [0, 0, 0, 0]) false) ∧ y.toNat = h.next.toNat + 1 ∧ Keep h.next.toNat h k ∧ k.next.toNat = h.next.toNat + 2 ∧ Sub [(1, .ptr h.next 0), (2, .ptr y 0)] E) ?_ ?_
  · refine WC.region ?_
    refine R.box .none (.t rfl) rfl ?_  -- t1
    refine R.alloc .none ?_  -- t2
    refine R.mv .none .c ?_  -- t3
    refine R.mv .none .c ?_  -- t4
    have w1 := w.alloc (.cells (blkV kind gen load) false)
    have x1 : (h.alloc (.cells (blkV kind gen load) false)).next.toNat = h.next.toNat + 1 := next_alloc h (.cells (blkV kind gen load) false)
    exact WR.nil ⟨(h.alloc (.cells (blkV kind gen load) false)).next, w1.alloc _, get_alloc_keep w1 (get_alloc_self _ _), get_alloc_self _ _, x1, (Keep.made w _).alloc (Nat.le_trans (Nat.le_succ _) (Nat.le_of_eq x1.symm)) _, by rw [next_alloc]; exact congrArg (· + 1) x1, .cons rfl (.cons rfl (.nil _))⟩
  rintro E k ⟨y, w1, g1, gy1, xy, k1, x1, hE⟩
  refine WC.sub hE ?_
  -- the reader
  refine WC.cut (fun E k' => ∃ a, Rd k.next k' a (load, false) ∧ a.toNat = k.next.toNat + 1 ∧ Keep k.next.toNat k k' ∧ k.next.toNat + 2 ≤ k'.next.toNat ∧ Sub [(1, .ptr h.next 0), (2, .ptr y 0), (5, .ptr a 0)] E) ?_ ?_
  · refine WC.region ?_
    refine R.fAddr .none (.t rfl) ?_  -- t11
    refine R.load .none (.t rfl) ((Cells.of g1 rfl).one (i := 2) rfl) ?_  -- t12
    refine R.convBytes .none (.t rfl) ?_  -- t13
    refine R.build .none (.cons (.t rfl) rfl rfl rfl .nil) ?_  -- t14
    refine R.box .none (.t rfl) rfl ?_  -- t15
    refine R.mv .none (.t rfl) ?_  -- t5
    have w2 := w1.alloc (.cells (load.map byteV) false)
    have x2 : (k.alloc (.cells (load.map byteV) false)).next.toNat = k.next.toNat + 1 := next_alloc k (.cells (load.map byteV) false)
    have s2 : Sl (k.alloc (.cells (load.map byteV) false)) (.sl k.next 0 load.length (.un 1)) 1 load.length (load.map byteV) := ⟨by simp, .inr ⟨k.next, 0, .un 1, rfl, .of (get_alloc_self k _) rfl⟩⟩
    have k3 := Keep.made w2 (.cells [.sl k.next 0 load.length (.un 1), .bool false] false)
    exact WR.nil ⟨(k.alloc (.cells (load.map byteV) false)).next, ⟨_, get_alloc_self _ _, s2.ext k3 w2 (Nat.le_refl _), rfl, fun a o n c e => by cases e; exact ⟨paNe (by omega), rfl⟩⟩, x2,
      (Keep.made w1 _).trans (k3.less (by omega)), by show _ ≤ (Heap.alloc _ _).next.toNat; rw [next_alloc, x2]; exact Nat.le_refl _, .cons rfl (.cons rfl (.cons rfl (.nil _)))⟩
  rintro E' k2 ⟨a, r2, ha, kk2, hn2, hE'⟩
  refine WC.sub hE' ?_
  obtain ⟨h3, c1, c2, c3⟩ := num_ok fs (n := 1) kk2.wf r2 (by omega) (by omega)
  obtain ⟨h4, d1, d2, d3⟩ := num_ok fs (n := 4) c3.wf c2 (by omega) (by omega)
  obtain ⟨h5, e1, e2, e3⟩ := num_ok fs (n := 4) d3.wf d2 (by omega) (by omega)
  obtain ⟨h6, i1, i2, i3⟩ := num_ok fs (n := 4) e3.wf e2 (by omega) (by omega)
  obtain ⟨h7, j1, j2, j3⟩ := num_ok fs (n := 4) i3.wf i2 (by omega) (by omega)
  have n3 := c3.next
  have n4 := d3.next
  have n5 := e3.next
  have n6 := i3.next
  have n7 := j3.next
  have fA := (((c3.trans d3).trans e3).trans i3).trans j3
  have gy7 : h7.get y = some (.cells (rcV 0 [0, 0, 0, 0]) false) := fA.at kk2.wf (kk2.at (by omega) gy1) (paNe (by omega))
  have g7 : h7.get h.next = some (.cells (blkV kind gen load) false) := fA.at kk2.wf (kk2.at (by omega) g1) (paNe (by omega))
  refine WC.seq (WC.region ?_)
  refine R.mv .none (.t rfl) ?_  -- t16
  refine R.call .none (.cons (.t rfl) (.cons .c .nil)) c1 ?_  -- t17
  refine R.mv .none (.t rfl) ?_  -- t18
  refine R.call .none (.cons (.t rfl) (.cons .c .nil)) d1 ?_  -- t19
  refine R.mv .none (.t rfl) ?_  -- t20
  refine R.call .none (.cons (.t rfl) (.cons .c .nil)) e1 ?_  -- t21
  refine R.mv .none (.t rfl) ?_  -- t22
  refine R.call .none (.cons (.t rfl) (.cons .c .nil)) i1 ?_  -- t23
  refine R.mv .none (.t rfl) ?_  -- t24
  refine R.call .none (.cons (.t rfl) (.cons .c .nil)) j1 ?_  -- t25
  refine R.mv .none (.t rfl) ?_  -- t6
  refine R.mv .none (.t rfl) ?_  -- t7
  refine R.mv .none (.t rfl) ?_  -- t8
  refine R.mv .none (.t rfl) ?_  -- t9
  refine R.mv .none (.t rfl) ?_  -- t10
  refine WR.nil ?_
  -- the fields
  refine WC.cut (fun E k' => Upd h7 y (rcV (rootA load).1 (rootNs load)) k' ∧ k'.next = h7.next ∧ Sub [(1, .ptr h.next 0), (2, .ptr y 0), (5, .ptr a 0)] E) ?_ ?_
  · refine WC.region ?_
    refine R.mv .none (.t rfl) ?_  -- t26
    refine R.mv .none (.t rfl) ?_  -- t27
    refine R.mv .none (.t rfl) ?_  -- t28
    refine R.mv .none (.t rfl) ?_  -- t29
    refine R.mv .none (.t rfl) ?_  -- t30
    refine R.build .none (.cons (.t rfl) rfl rfl rfl (.cons (.t rfl) rfl rfl rfl (.cons (.t rfl) rfl rfl rfl (.cons (.t rfl) rfl rfl rfl (.cons (.t rfl) rfl rfl rfl .nil))))) ?_  -- t31
    refine R.store .none (.t rfl) (.t rfl) rfl (storeN_of gy7 rfl rfl) ?_
    exact WR.nil ⟨Upd.put fA.wf gy7 _, rfl, .cons rfl (.cons rfl (.cons rfl (.nil _)))⟩
  rintro E3 k7 ⟨u7, x7, hE3⟩
  refine WC.sub hE3 ?_
  have r7 : Rd k.next k7 a (rootE load).2 := by
    obtain ⟨v, q1, q2, q3, q4⟩ := j2
    refine ⟨v, u7.at fA.wf q1 (paNe (by omega)), q2.upd fA.wf u7 (fun b o n c e => paNe (by rw [(q4 b o n c e).2]; omega)), q3, q4⟩
  have n8 : h7.next.toNat = k7.next.toNat := by rw [x7]
  obtain ⟨pv, h8, o, m1, m2, m3, m4, m5, m6⟩ := ptrs_rd fs u7.wf r7 (by omega)
  have n9 := m5.next
  have hob := m2.inB (P := fun b => k7.next.toNat ≤ b.toNat ∧ b.toNat < h8.next.toNat) (fun b hb => ⟨m3 b hb, by subst hb; exact m2.lt m5.wf⟩)
  have hpl := m2.sl
  have g8 : h8.get h.next = some (.cells (blkV kind gen load) false) := m5.at u7.wf (u7.at fA.wf g7 (paNe (by omega))) (paNe (by omega))
  have gy8 : h8.get y = some (.cells (rcV (rootA load).1 (rootNs load)) false) := m5.at u7.wf u7.get (paNe (by omega))
  have kA : Keep h.next.toNat h h8 := k1.trans ⟨by omega, fun x hx => (m5.old x (by omega) (paNe (by omega))).trans ((u7.old x (by omega) (paNe (by omega))).trans ((fA.old x (by omega) (paNe (by omega))).trans (kk2.old x (by omega)))), m5.wf⟩
  refine WC.seq (WC.region ?_)
  refine R.mv .none (.t rfl) ?_  -- t32
  refine R.call .none (.cons (.t rfl) .nil) m1 ?_  -- t33
  refine R.mv .none (.t rfl) ?_  -- t3
  refine WR.nil ?_
  refine WC.seq ?_
  refine WC.seq (WC.then (fun E k' => Keep h8.next.toNat h8 k' ∧ Sub [(2, .ptr y 0), (3, pv), (51, .bool (!rootOk kind gen load))] E) ?_ ?_)
  · obtain ⟨rv, g, _⟩ := m4
    have hb : (rootP load).2.2 = (ptrsS (rootE load).2).2.2 := rfl
    refine WC.region ?_
    refine R.mv .none (.t rfl) ?_  -- t34
    refine R.nil? .none (.t rfl) ?_  -- t35
    refine R.fAddr .none (.t rfl) ?_  -- t36
    refine R.load .none (.t rfl) ((Cells.of g rfl).one (i := 1) rfl) ?_  -- t37
    rw [← hb]
    refine R.mv .none (.t rfl) ?_  -- t38
    cases hbad : (rootP load).2.2 with
    | true =>
      have hno : rootOk kind gen load = false := by unfold rootOk; rw [hbad]; rfl
      refine R.no (.no rfl rfl) ?_
      refine R.no (.no rfl rfl) ?_
      refine R.no (.no rfl rfl) ?_
      refine R.pick .none (.t rfl) .c (.t rfl) ?_  -- t42
      refine R.mv .none (.t rfl) ?_  -- t43
      refine R.no (.no rfl rfl) ?_
      refine R.no (.no rfl rfl) ?_
      refine R.no (.no rfl rfl) ?_
      refine R.no (.no rfl rfl) ?_
      refine R.no (.no rfl rfl) ?_
      refine R.no (.no rfl rfl) ?_
      refine R.chkNo (.no rfl rfl) rfl ?_
      refine R.no (.no rfl rfl) ?_
      refine R.pick .none (.t rfl) .c (.t rfl) ?_  -- t51
      rw [hno]
      exact WR.nil ⟨Keep.refl m5.wf, .cons rfl (.cons rfl (.cons rfl (.nil _)))⟩
    | false =>
      refine R.fAddr (.yes rfl) (.t rfl) ?_  -- t39
      refine R.load (.yes rfl) (.t rfl) ((Cells.of g8 rfl).one (i := 0) rfl) ?_  -- t40
      refine R.bin (.yes rfl) (.t rfl) .c b_neI ?_  -- t41
      refine R.pick .none (.t rfl) .c (.t rfl) ?_  -- t42
      refine R.mv .none (.t rfl) ?_  -- t43
      by_cases hk : kind = 3
      · have hkd : decide (kind = 3) = true := by simp [hk]
        rw [hkd]
        obtain ⟨h9, f1, f2⟩ := Root_ok fs (gen := gen) (kind := (rootA load).1) (n1 := (rootB load).1) (n2 := (rootC load).1) (n3 := (rootD load).1) (n4 := (rootE load).1) (ps := (rootP load).1) m5.wf hpl (by have : (rootP load).1.length ≤ 255 := m6; omega) (fun b o n c e => (hob b o n c e).2)
        rw [doneV_T] at f1
        have g9 := f2.at (by omega) g8
        have hok : rootOk kind gen load = decide (rootT gen load = (kind, gen, load)) := by unfold rootOk; rw [hbad, hkd]; simp
        refine R.fAddr (.yes rfl) (.t rfl) ?_  -- t44
        refine R.load (.yes rfl) (.t rfl) ((Cells.of g8 rfl).one (i := 1) rfl) ?_  -- t45
        refine R.load (.yes rfl) (.t rfl) ((Cells.of gy8 rfl).agg (i := 0) (n := 5) rfl rfl) ?_  -- t46
        refine R.mv (.yes rfl) (.t rfl) ?_  -- t47
        refine R.load (.yes rfl) (.t rfl) ((Cells.of g8 rfl).agg (i := 0) (n := 3) rfl rfl) ?_  -- t49
        refine R.call (.yes rfl) (.cons (.t rfl) (.cons (.t rfl) (.cons (.t rfl) .nil))) f1 ?_  -- t48
        refine R.chkLoad (.yes rfl) rfl (.t rfl) ((Cells.of g9 rfl).agg (i := 0) (n := 3) rfl rfl) (same_blk _ _ _) ?_
        refine R.bin (.yes rfl) (.t rfl) (.t rfl) (agg_blk _ _ _ _ _ _) ?_  -- t50
        refine R.pick .none (.t rfl) .c (.t rfl) ?_  -- t51
        refine WR.nil ⟨f2, .cons rfl (.cons rfl (.cons ?_ (.nil _)))⟩
        rw [hok, ← tripEq]
        rfl
      · have hkd : decide (kind = 3) = false := by simp [hk]
        have hno : rootOk kind gen load = false := by unfold rootOk; rw [hkd]; simp
        rw [hkd]
        refine R.no (.no rfl rfl) ?_
        refine R.no (.no rfl rfl) ?_
        refine R.no (.no rfl rfl) ?_
        refine R.no (.no rfl rfl) ?_
        refine R.no (.no rfl rfl) ?_
        refine R.no (.no rfl rfl) ?_
        refine R.chkNo (.no rfl rfl) rfl ?_
        refine R.no (.no rfl rfl) ?_
        refine R.pick .none (.t rfl) .c (.t rfl) ?_  -- t51
        rw [hno]
        exact WR.nil ⟨Keep.refl m5.wf, .cons rfl (.cons rfl (.cons rfl (.nil _)))⟩
  rintro E2 k9 ⟨kB, hE2⟩
  refine WC.sub hE2 ?_
  have kT : Keep h.next.toNat h k9 := kA.trans (kB.less kA.next)
  have gy9 : k9.get y = some (.cells (rcV (rootA load).1 (rootNs load)) false) := kB.at (by omega) gy8
  have y9 : y.toNat < k9.next.toNat := kB.wf.lt gy9
  refine WC.condB (.t rfl) (fun hc => ?_) (fun hc => ?_) -- t51
  · refine WC.seq (WC.region ?_)
    refine R.build .none .nil ?_  -- t52
    refine R.store .none (.t rfl) (.t rfl) rfl (storeN_of gy9 rfl rfl) ?_
    refine R.mv .none .c ?_  -- t3
    refine R.mv .none .c ?_  -- t4
    refine WR.nil ?_
    refine WC.ret ?_
    have hno : rootOk kind gen load = false := by simpa using hc
    rw [hno]
    exact ⟨_, .c rfl ((Cells.of (get_put_self _ _ _) rfl).agg (i := 0) (n := 5) rfl rfl) (.t rfl (.t rfl .nil)), .no .sl, 0, [0, 0, 0, 0], [], rfl, rfl, ⟨rfl, .inl ⟨rfl, rfl⟩⟩, (fun _ _ _ _ e => by cases e), kT.put (by omega) y9 _, fun e => by cases e⟩
  · have hyes : rootOk kind gen load = true := by simpa using hc
    have u9 := Upd.put kB.wf gy9 (rcV (rootA load).1 (rootNs load))
    refine WC.skip ?_
    refine WC.seq (WC.region ?_)
    refine R.load .none (.t rfl) ((Cells.of gy9 rfl).agg (i := 0) (n := 5) rfl rfl) ?_  -- t53
    refine R.mv .none (.t rfl) ?_  -- t54
    refine R.store .none (.t rfl) (.t rfl) rfl (storeN_of gy9 rfl rfl) ?_
    refine R.mv .none (.t rfl) ?_  -- t3
    refine R.mv .none .c ?_  -- t4
    refine WR.nil ?_
    refine WC.ret ?_
    rw [hyes]
    exact ⟨_, .c rfl ((Cells.of (get_put_self _ _ _) rfl).agg (i := 0) (n := 5) rfl rfl) (.t rfl (.t rfl .nil)), pv, (rootA load).1, rootNs load, (rootP load).1, rfl, rfl, (hpl.ext kB m5.wf (Nat.le_refl _)).upd kB.wf u9 (fun b o n c e => paNe (by have := (hob b o n c e).1; omega)),
      (fun b o n c e => by have := (hob b o n c e).1; omega), kT.put (by omega) y9 _, fun _ => ⟨rfl, rfl, rfl⟩⟩
end Go.Ev.Root

namespace Go.Ev.Root
open Go.Ev
variable {F : Nat → Option FnI}
/-! a record is not read of what is none; blocks that are alike; the index's blocks read -/
theorem TakeRec_no (fs : Fs F) {kind gen : Int} {load : List UInt8} {h : Hp} (w : WF h) (hk : kind ≠ 1) :
    ∃ h', CallE F 15 [.agg (blkV kind gen load)] h (.tup [.agg (recV (0, 0, [])), .bool false]) h' ∧ Keep h.next.toNat h h' := by
  suffices hs : Said F 15 [.agg (blkV kind gen load)] h (fun t h' => t = .tup [.agg (recV (0, 0, [])), .bool false] ∧ Keep h.next.toNat h h') (fun _ _ => False) by
    obtain ⟨t, h', h1, rfl, h3⟩ := hs.ret
    exact ⟨h', h1, h3⟩
  refine said_of fs.h15 ?_
  show WC F _ b15 [(0, .agg (blkV kind gen load))] h _
  refine WC.cut (fun E k => ∃ y, WF k ∧ k.get h.next = some (.cells (blkV kind gen load) false) ∧ k.get y = some (.cells [.int .i64 0, .int .i64 0, .str []] false) ∧ y.toNat = h.next.toNat + 1 ∧ Keep h.next.toNat h k ∧ k.next.toNat = h.next.toNat + 2 ∧ Sub [(1, .ptr h.next 0), (2, .ptr y 0)] E) ?_ ?_
  · refine WC.region ?_
    refine R.box .none (.t rfl) rfl ?_  -- t1
    refine R.alloc .none ?_  -- t2
    refine R.mv .none .c ?_  -- t3
    have w1 := w.alloc (.cells (blkV kind gen load) false)
    have x1 : (h.alloc (.cells (blkV kind gen load) false)).next.toNat = h.next.toNat + 1 := next_alloc h (.cells (blkV kind gen load) false)
    exact WR.nil ⟨(h.alloc (.cells (blkV kind gen load) false)).next, w1.alloc _, get_alloc_keep w1 (get_alloc_self _ _), get_alloc_self _ _, x1, (Keep.made w _).alloc (Nat.le_trans (Nat.le_succ _) (Nat.le_of_eq x1.symm)) _, by rw [next_alloc]; exact congrArg (· + 1) x1, .cons rfl (.cons rfl (.nil _))⟩
  rintro E k ⟨y, w1, g1, gy1, xy, k1, x1, hE⟩
  refine WC.sub hE ?_
  refine WC.cut (fun E k' => ∃ a, Rd k.next k' a (load, false) ∧ a.toNat = k.next.toNat + 1 ∧ Keep k.next.toNat k k' ∧ k.next.toNat + 2 ≤ k'.next.toNat ∧ Sub [(1, .ptr h.next 0), (2, .ptr y 0), (4, .ptr a 0)] E) ?_ ?_
  · refine WC.region ?_
    refine R.fAddr .none (.t rfl) ?_
    refine R.load .none (.t rfl) ((Cells.of g1 rfl).one (i := 2) rfl) ?_
    refine R.convBytes .none (.t rfl) ?_
    refine R.build .none (.cons (.t rfl) rfl rfl rfl .nil) ?_
    refine R.box .none (.t rfl) rfl ?_
    refine R.mv .none (.t rfl) ?_
    have w2 := w1.alloc (.cells (load.map byteV) false)
    have x2 : (k.alloc (.cells (load.map byteV) false)).next.toNat = k.next.toNat + 1 := next_alloc k (.cells (load.map byteV) false)
    have s2 : Sl (k.alloc (.cells (load.map byteV) false)) (.sl k.next 0 load.length (.un 1)) 1 load.length (load.map byteV) := ⟨by simp, .inr ⟨k.next, 0, .un 1, rfl, .of (get_alloc_self k _) rfl⟩⟩
    have k3 := Keep.made w2 (.cells [.sl k.next 0 load.length (.un 1), .bool false] false)
    exact WR.nil ⟨(k.alloc (.cells (load.map byteV) false)).next, ⟨_, get_alloc_self _ _, s2.ext k3 w2 (Nat.le_refl _), rfl, fun a o n c e => by cases e; exact ⟨paNe (by omega), rfl⟩⟩, x2,
      (Keep.made w1 _).trans (k3.less (by omega)), by show _ ≤ (Heap.alloc _ _).next.toNat; rw [next_alloc, x2]; exact Nat.le_refl _, .cons rfl (.cons rfl (.cons rfl (.nil _)))⟩
  rintro E' k2 ⟨a, r2, ha, kk2, hn2, hE'⟩
  refine WC.sub hE' ?_
  obtain ⟨h3, c1, c2, c3⟩ := num_ok fs (n := 1) kk2.wf r2 (by omega) (by omega)
  obtain ⟨h4, d1, d2, d3⟩ := num_ok fs (n := 1) c3.wf c2 (by omega) (by omega)
  have n3 := c3.next
  have n4 := d3.next
  have fA := c3.trans d3
  have gy4 : h4.get y = some (.cells [.int .i64 0, .int .i64 0, .str []] false) := fA.at kk2.wf (kk2.at (by omega) gy1) (paNe (by omega))
  have g4 : h4.get h.next = some (.cells (blkV kind gen load) false) := fA.at kk2.wf (kk2.at (by omega) g1) (paNe (by omega))
  have kA : Keep h.next.toNat h h4 := k1.trans ⟨Nat.le_trans kk2.next fA.next, fun x hx => (fA.old x (by omega) (paNe (by omega))).trans (kk2.old x (by omega)), fA.wf⟩
  obtain ⟨rv, g, rs, _⟩ := d2
  refine WC.seq (WC.region ?_)
  refine R.mv .none (.t rfl) ?_  -- t13
  refine R.call .none (.cons (.t rfl) (.cons .c .nil)) c1 ?_  -- t14
  refine R.mv .none (.t rfl) ?_  -- t15
  refine R.call .none (.cons (.t rfl) (.cons .c .nil)) d1 ?_  -- t16
  refine R.mv .none (.t rfl) ?_  -- t5
  refine R.mv .none (.t rfl) ?_  -- t6
  refine WR.nil ?_
  refine WC.cut (fun E k' => Keep h4.next.toNat h4 k' ∧ Sub [(1, .ptr h.next 0), (2, .ptr y 0), (4, .ptr a 0)] E) ?_ ?_
  · refine WC.region ?_
    refine R.mv .none (.t rfl) ?_  -- t17
    refine R.mv .none (.t rfl) ?_  -- t18
    refine R.mv .none (.t rfl) ?_  -- t19
    refine R.nil? .none (.t rfl) ?_  -- t20
    refine R.fAddr .none (.t rfl) ?_  -- t21
    refine R.load .none (.t rfl) ((Cells.of g rfl).one (i := 0) rfl) ?_  -- t22
    refine R.convStrSl .none (.t rfl) rs ?_  -- t23
    refine R.build .none (.cons (.t rfl) rfl rfl rfl (.cons (.t rfl) rfl rfl rfl (.cons (.t rfl) rfl rfl rfl .nil))) ?_  -- t24
    refine R.alloc .none ?_  -- t7
    refine R.store .none (.t rfl) (.t rfl) rfl (storeN_of (get_alloc_self h4 _) rfl rfl) ?_
    exact WR.nil ⟨Upd.made fA.wf (.put (fA.wf.alloc _) (get_alloc_self h4 _) _), .cons rfl (.cons rfl (.cons rfl (.nil _)))⟩
  rintro E5 k5 ⟨k5k, hE5⟩
  refine WC.sub hE5 ?_
  have n5 := k5k.next
  have g5 : k5.get a = some (.cells [rv, .bool (numS 1 (numS 1 (load, false)).2).2.2] false) := k5k.at (by omega) g
  have gx5 := k5k.at (by omega) g4
  have gy5 := k5k.at (by omega) gy4
  have k6 : Keep h.next.toNat h k5 := kA.trans (k5k.less kA.next)
  have hkd : decide (kind = 1) = false := by simp [hk]
  refine WC.seq ?_
  refine WC.seq (WC.then (fun E k' => k' = k5 ∧ Sub [(2, .ptr y 0), (41, .bool true)] E) ?_ ?_)
  · refine WC.region ?_
    refine R.mv .none (.t rfl) ?_  -- t25
    refine R.nil? .none (.t rfl) ?_  -- t26
    refine R.fAddr .none (.t rfl) ?_  -- t27
    refine R.load .none (.t rfl) ((Cells.of g5 rfl).one (i := 1) rfl) ?_  -- t28
    refine R.mv .none (.t rfl) ?_  -- t29
    cases (numS 1 (numS 1 (load, false)).2).2.2 with
    | true =>
      refine R.no (.no rfl rfl) ?_
      refine R.no (.no rfl rfl) ?_
      refine R.no (.no rfl rfl) ?_
      refine R.pick .none (.t rfl) .c (.t rfl) ?_  -- t33
      refine R.mv .none (.t rfl) ?_  -- t34
      refine R.no (.no rfl rfl) ?_
      refine R.no (.no rfl rfl) ?_
      refine R.no (.no rfl rfl) ?_
      refine R.no (.no rfl rfl) ?_
      refine R.no (.no rfl rfl) ?_
      refine R.chkNo (.no rfl rfl) rfl ?_
      refine R.no (.no rfl rfl) ?_
      refine R.pick .none (.t rfl) .c (.t rfl) ?_  -- t41
      exact WR.nil ⟨rfl, .cons rfl (.cons rfl (.nil _))⟩
    | false =>
      refine R.fAddr (.yes rfl) (.t rfl) ?_  -- t30
      refine R.load (.yes rfl) (.t rfl) ((Cells.of gx5 rfl).one (i := 0) rfl) ?_  -- t31
      refine R.bin (.yes rfl) (.t rfl) .c b_neI ?_  -- t32
      refine R.pick .none (.t rfl) .c (.t rfl) ?_  -- t33
      refine R.mv .none (.t rfl) ?_  -- t34
      rw [hkd]
      refine R.no (.no rfl rfl) ?_
      refine R.no (.no rfl rfl) ?_
      refine R.no (.no rfl rfl) ?_
      refine R.no (.no rfl rfl) ?_
      refine R.no (.no rfl rfl) ?_
      refine R.chkNo (.no rfl rfl) rfl ?_
      refine R.no (.no rfl rfl) ?_
      refine R.pick .none (.t rfl) .c (.t rfl) ?_  -- t41
      exact WR.nil ⟨rfl, .cons rfl (.cons rfl (.nil _))⟩
  rintro E6 k7 ⟨rfl, hE6⟩
  refine WC.sub hE6 ?_
  refine WC.condB (.t rfl) (fun _ => ?_) (fun hc => by cases hc) -- t41
  refine WC.seq (WC.region ?_)
  refine R.build .none .nil ?_  -- t42
  refine R.store .none (.t rfl) (.t rfl) rfl (storeN_of gy5 rfl rfl) ?_
  refine R.mv .none .c ?_  -- t3
  refine WR.nil ?_
  refine WC.ret ?_
  exact ⟨_, .c rfl ((Cells.of (get_put_self _ _ _) rfl).agg (i := 0) (n := 3) rfl rfl) (.t rfl .nil), rfl, k6.put (by omega) (k5k.wf.lt gy5) _⟩

/-- blocks -/
abbrev BlkT := Int × Int × List UInt8
def bV (b : BlkT) : List V := blkV b.1 b.2.1 b.2.2
def bsV (l : List BlkT) : List V := l.flatMap bV
theorem Equal_ok (fs : Fs F) {v1 v2 : V} {l : List BlkT} {b : BlkT} {h : Hp} (hl : Sl h v1 3 l.length (bsV l)) (hb : Sl h v2 3 1 (bV b)) (hlen : l.length ≤ 1000000) :
    CallE F 27 [v1, v2] h (.bool (decide (l = [b]))) h := by
  refine Said.eq (said_of fs.h27 ?_)
  show WC F _ b27 [(0, v1), (1, v2)] h _
  refine WC.seq (WC.region ?_)
  refine R.mv .none .c ?_  -- t4
  refine WR.nil ?_
  refine WC.seq ?_
  refine WC.seq (WC.region ?_)
  refine R.mv .none (.t rfl) ?_  -- t6
  refine R.lenSlv .none (.t rfl) hl ?_  -- t7
  refine R.mv .none (.t rfl) ?_  -- t8
  refine R.lenSlv .none (.t rfl) hb ?_  -- t9
  refine R.bin .none (.t rfl) (.t rfl) b_neI ?_  -- t10
  refine WR.nil ?_
  refine WC.condB (.t rfl) (fun hc => ?_) (fun hc => ?_) -- t10
  · refine WC.seq (WC.region ?_)
    refine R.mv .none .c ?_
    refine WR.nil ?_
    refine WC.ret ?_
    refine ⟨_, .t rfl .nil, ?_, rfl⟩
    have hne : l ≠ [b] := fun e => by rw [e] at hc; simp at hc
    rw [decide_eq_false hne]; rfl
  · have h1 : l.length = 1 := by
      have : decide (((l.length : Nat) : Int) = ((1 : Nat) : Int)) = true := by simpa using hc
      have := of_decide_eq_true this
      omega
    obtain ⟨c, rfl⟩ : ∃ c, l = [c] := by
      cases l with
      | nil => simp at h1
      | cons c l => cases l with
        | nil => exact ⟨c, rfl⟩
        | cons d l => simp at h1
    have hbs : bsV [c] = bV c := by simp [bsV]
    rw [hbs] at hl
    rcases hl.2 with ⟨_, h0⟩ | ⟨a1, o1, c1, rfl, q1⟩
    · simp at h0
    rcases hb.2 with ⟨_, h0⟩ | ⟨a2, o2, c2, rfl, q2⟩
    · simp at h0
    refine WC.skip ?_
    refine WC.seq ?_
    refine WC.seq (WC.region ?_)
    refine R.mv .none (.t rfl) ?_  -- t11
    refine R.lenSlv .none (.t rfl) hl ?_  -- t12
    refine R.mv .none .c ?_  -- t13
    refine WR.nil ?_
    refine WC.block ?_ -- 0
    refine WC.loop (fun μ E k => k = h ∧ ∃ i, μ = 1 - i ∧ i ≤ 1 ∧ (i = 1 → c = b) ∧ Sub [(0, .sl a1 o1 1 c1), (1, .sl a2 o2 1 c2), (12, .int .i64 ((1 : Nat) : Int)), (13, .int .i64 (i : Int))] E) (m := 1)
      ⟨rfl, 0, rfl, by omega, (fun e => by omega), .cons rfl (.cons rfl (.cons rfl (.cons rfl (.nil _))))⟩ ?_
    rintro μ E k ⟨rfl, i, rfl, hi, hcb, hE⟩
    refine WC.sub hE ?_
    refine WC.seq (WC.region ?_)
    refine R.bin .none (.t rfl) (.t rfl) b_lss ?_  -- t14
    refine WR.nil ?_
    refine WC.seq ?_
    refine WC.condD (.t rfl) (fun hlt => ?_) (fun hge => ?_) -- t14
    · refine WC.skip ?_
      obtain rfl : i = 0 := by omega
      refine WC.seq ?_
      refine WC.block ?_ -- 1
      refine WC.seq (WC.region ?_)
      refine R.mv .none (.t rfl) ?_  -- t15
      refine R.mv .none (.t rfl) ?_  -- t5
      refine WR.nil ?_
      refine WC.seq (WC.region ?_)
      refine R.mv .none (.t rfl) ?_  -- t16
      refine R.mv .none (.t rfl) ?_  -- t17
      refine R.iAddr (j := 0) .none (.t rfl) (.t rfl) (by omega) ?_  -- t18
      refine R.load .none (.t rfl) (q1.agg (i := 0 * 3) (n := 3) rfl rfl) ?_  -- t19
      refine R.mv .none (.t rfl) ?_  -- t20
      refine R.mv .none (.t rfl) ?_  -- t21
      refine R.iAddr (j := 0) .none (.t rfl) (.t rfl) (by omega) ?_  -- t22
      refine R.load .none (.t rfl) (q2.agg (i := 0 * 3) (n := 3) rfl rfl) ?_  -- t23
      refine R.bin .none (.t rfl) (.t rfl) (agg_blk _ _ _ _ _ _) ?_  -- t24
      rw [tripEq]
      refine WR.nil ?_
      refine WC.condB (.t rfl) (fun hd => ?_) (fun hd => ?_) -- t24
      · refine WC.seq (WC.region ?_)
        refine R.mv .none .c ?_
        refine WR.nil ?_
        refine WC.ret ?_
        refine ⟨_, .t rfl .nil, ?_, rfl⟩
        have hne : [c] ≠ [b] := fun e => by cases e; simp at hd
        rw [decide_eq_false hne]; rfl
      · refine WC.skip ?_
        refine WC.region ?_
        refine R.bin .none (.t rfl) .c (b_add (by omega) (by omega)) ?_  -- t25
        refine R.mv .none (.t rfl) ?_  -- t13
        refine WR.nil ?_
        exact ⟨0, by omega, rfl, 1, rfl, by omega, (fun _ => by simpa using hd), .cons rfl (.cons rfl (.cons rfl (.cons rfl (.nil _))))⟩
    · refine WC.exit ?_ -- 0
      show WC F _ _ _ _ _
      obtain rfl := hcb (by omega)
      refine WC.seq (WC.region ?_)
      refine R.mv .none .c ?_  -- t4
      refine WR.nil ?_
      refine WC.ret ?_
      refine ⟨_, .t rfl .nil, ?_, rfl⟩
      rw [decide_eq_true rfl]; rfl
end Go.Ev.Root
