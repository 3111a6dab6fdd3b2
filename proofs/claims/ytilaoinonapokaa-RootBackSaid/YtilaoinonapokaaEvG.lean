/- A program of this law is run by an evaluator that is proved right: regions whose order is drawn; the end. It holds for every program of the model. -/
import Derived.Test.YtilaoinonapokaaEvF
import Derived.Orders
namespace Go.Ev
variable {P : Program} {nt : Nat} {ops : Array Oper}

/-! ## sets of numbers as numbers -/
theorem bit_put (s i j : Nat) : (Nat.lor s (2 ^ i)).testBit j = true ↔ s.testBit j = true ∨ j = i := by
  show (s ||| 2 ^ i).testBit j = true ↔ _
  rw [Nat.testBit_or, Nat.testBit_two_pow]
  simp only [Bool.or_eq_true, decide_eq_true_eq]
  constructor
  · rintro (h | h)
    · exact .inl h
    · exact .inr h.symm
  · rintro (h | h)
    · exact .inl h
    · exact .inr h.symm

theorem readyD_iff (done : Nat) (d : DOp) : readyD done d = true ↔ ∀ j, d.pred.testBit j = true → done.testBit j = true := by
  unfold readyD
  rw [Nat.beq_eq]
  show (d.pred &&& done) = d.pred ↔ _
  constructor
  · intro h j hj
    have : (d.pred &&& done).testBit j = true := by rw [h]; exact hj
    rw [Nat.testBit_and, Bool.and_eq_true] at this
    exact this.2
  · intro h
    apply Nat.eq_of_testBit_eq
    intro j
    rw [Nat.testBit_and]
    cases hp : d.pred.testBit j with
    | false => rfl
    | true => rw [h j hp]; rfl

theorem pred_bit (o : Oper) (j : Nat) : (predMask o).testBit j = true ↔ ∃ e ∈ o.after.toList, Region.binds .any e = true ∧ e.on = j := by
  unfold predMask
  have : ∀ (es : List Edge) (s : Nat), (es.foldl predStep s).testBit j = true ↔ s.testBit j = true ∨ ∃ e ∈ es, Region.binds .any e = true ∧ e.on = j := by
    intro es
    induction es with
    | nil => intro s; simp
    | cons e es ih =>
      intro s
      simp only [List.foldl_cons, ih, List.mem_cons, exists_eq_or_imp]
      unfold predStep
      cases hb : Region.binds .any e with
      | false => simp
      | true =>
        simp only [cond_true, bit_put, true_and]
        constructor
        · rintro ((h | h) | h)
          · exact .inl h
          · exact .inr (.inl h.symm)
          · exact .inr (.inr h)
        · rintro (h | h | h)
          · exact .inl (.inl h)
          · exact .inl (.inr h.symm)
          · exact .inr h
  rw [this]
  simp

theorem anc_bit (ancs : List Nat) (o : Oper) (j : Nat) (h : (ancMask ancs o).testBit j = true) : ∃ e ∈ o.after.toList, Region.binds .any e = true ∧ (e.on = j ∨ (ancs.getD e.on 0).testBit j = true) := by
  unfold ancMask at h
  have : ∀ (es : List Edge) (s : Nat), (es.foldl (ancStep ancs) s).testBit j = true → s.testBit j = true ∨ ∃ e ∈ es, Region.binds .any e = true ∧ (e.on = j ∨ (ancs.getD e.on 0).testBit j = true) := by
    intro es
    induction es with
    | nil => intro s hs; exact .inl hs
    | cons e es ih =>
      intro s hs
      simp only [List.foldl_cons] at hs
      rcases ih _ hs with h1 | ⟨e', h1, h2⟩
      · unfold ancStep at h1
        cases hb : Region.binds .any e with
        | false => rw [hb] at h1; exact .inl h1
        | true =>
          rw [hb] at h1
          simp only [cond_true] at h1
          change (s ||| (2 ^ e.on ||| ancs.getD e.on 0)).testBit j = true at h1
          rw [Nat.testBit_or, Nat.testBit_or, Nat.testBit_two_pow] at h1
          simp only [Bool.or_eq_true, decide_eq_true_eq] at h1
          rcases h1 with h1 | h1 | h1
          · exact .inl h1
          · exact .inr ⟨e, by simp, hb, .inl h1⟩
          · exact .inr ⟨e, by simp, hb, .inr h1⟩
      · exact .inr ⟨e', by simp [h1], h2⟩
  rcases this _ 0 h with h1 | h1
  · simp at h1
  · exact h1

/-! ## the list of operations -/
theorem dOps_get : ∀ (r : List Oper) (i : Nat) (ancs : List Nat) (k : Nat), (dOps P nt ops r i ancs)[k]? = (r[k]?).map fun o =>
    ⟨i + k, o, predMask o, ancMask (ancs ++ ((dOps P nt ops r i ancs).take k).map (·.anc)) o, !(isN P nt ops o)⟩
  | [], i, ancs, k => by simp [dOps]
  | o :: r, i, ancs, 0 => by simp [dOps]
  | o :: r, i, ancs, k + 1 => by
    simp only [dOps, List.getElem?_cons_succ, List.take_succ_cons, List.map_cons]
    rw [dOps_get r (i + 1) (ancs ++ [ancMask ancs o]) k]
    cases r[k]? with
    | none => rfl
    | some o' => simp; omega

structure ListOk (P : Program) (nt : Nat) (ops : Array Oper) (l : List DOp) : Prop where
  get : ∀ d ∈ l, ops[d.i]? = some d.o ∧ d.pred = predMask d.o ∧ d.eff = !(isN P nt ops d.o) ∧ l[d.i]? = some d
  all : ∀ (i : Nat) o, ops[i]? = some o → ∃ d ∈ l, d.i = i ∧ d.o = o
  anc : ∀ d ∈ l, ∀ j, d.anc.testBit j = true → ∃ e ∈ d.o.after.toList, Region.binds .any e = true ∧ (e.on = j ∨ ∃ d' ∈ l, d'.i = e.on ∧ d'.i < d.i ∧ d'.anc.testBit j = true)

theorem dOps_ok : ListOk P nt ops (dOps P nt ops ops.toList 0 []) := by
  have hg := dOps_get (P := P) (nt := nt) (ops := ops) ops.toList 0 []
  simp only [Nat.zero_add, List.nil_append, Array.getElem?_toList] at hg
  generalize dOps P nt ops ops.toList 0 [] = l at hg
  have key : ∀ d ∈ l, ∃ o, ops[d.i]? = some o ∧ l[d.i]? = some d ∧ d = ⟨d.i, o, predMask o, ancMask ((l.take d.i).map (·.anc)) o, !(isN P nt ops o)⟩ := by
    intro d hd
    obtain ⟨k, hk⟩ := List.mem_iff_getElem?.1 hd
    have := hg k
    rw [hk] at this
    cases ho : ops[k]? with
    | none => rw [ho] at this; simp at this
    | some o =>
      rw [ho] at this
      simp only [Option.map_some, Option.some.injEq] at this
      have hi : d.i = k := by rw [this]
      exact ⟨o, by rw [hi]; exact ho, by rw [hi]; exact hk, by rw [hi]; exact this⟩
  refine ⟨fun d hd => ?_, fun i o ho => ?_, fun d hd j hj => ?_⟩
  · obtain ⟨o, h1, h2, h3⟩ := key d hd
    rw [h3]
    rw [h3] at h2
    exact ⟨h1, rfl, rfl, h2⟩
  · have := hg i
    rw [ho] at this
    simp only [Option.map_some] at this
    exact ⟨_, List.mem_of_getElem? this, rfl, rfl⟩
  · obtain ⟨o, h1, h2, h3⟩ := key d hd
    have ha : d.anc = ancMask ((l.take d.i).map (·.anc)) o := by rw [h3]
    have hdo : d.o = o := by rw [h3]
    rw [ha] at hj
    obtain ⟨e, q1, q2, q3⟩ := anc_bit _ _ _ hj
    refine ⟨e, by rw [hdo]; exact q1, q2, q3.imp id fun q3 => ?_⟩
    rw [List.getD_eq_getElem?_getD, List.getElem?_map, List.getElem?_take] at q3
    split at q3
    · rename_i hlt
      cases hl : l[e.on]? with
      | none => rw [hl] at q3; simp at q3
      | some d' =>
        rw [hl] at q3
        simp only [Option.map_some, Option.getD_some] at q3
        have hm := List.mem_of_getElem? hl
        obtain ⟨o', k1, k2, k3⟩ := key d' hm
        have hg' := hg e.on
        rw [hl] at hg'
        have hi : d'.i = e.on := by
          cases ho : ops[e.on]? with
          | none => rw [ho] at hg'; simp at hg'
          | some o'' => rw [ho] at hg'; simp only [Option.map_some, Option.some.injEq] at hg'; rw [hg']
        exact ⟨d', hm, hi, by omega, q3⟩
    · simp at q3

/-- whoever is closed holds the forebears -/
theorem anc_closed {l : List DOp} (hl : ListOk P nt ops l) {X : Nat → Prop} (hX : ∀ d ∈ l, X d.i → ∀ j, d.pred.testBit j = true → X j) : ∀ (n : Nat) (d : DOp), d.i < n → d ∈ l → (∀ j, d.pred.testBit j = true → X j) →
    ∀ j, d.anc.testBit j = true → X j
  | 0, d, hn, _, _, _, _ => absurd hn (Nat.not_lt_zero _)
  | n + 1, d, hn, hd, hp, j, hj => by
    obtain ⟨e, h1, h2, h3⟩ := hl.anc d hd j hj
    have hon : X e.on := hp e.on (by rw [(hl.get d hd).2.1]; exact (pred_bit _ _).2 ⟨e, h1, h2, rfl⟩)
    rcases h3 with rfl | ⟨d', k1, k2, k3, k4⟩
    · exact hon
    · exact anc_closed hl hX n d' (by omega) k1 (hX d' k1 (by rw [k2]; exact hon)) j k4

/-! ## the order in which the world goes -/
inductive Lin (ops : Array Oper) : Array Bool → List Nat → Prop
  | nil {listed : Array Bool} (h : Region.ready .any ops listed = []) : Lin ops listed []
  | cons {listed : Array Bool} {i : Nat} {L : List Nat} (h : i ∈ Region.ready .any ops listed) (t : Lin ops (listed.setIfInBounds i true) L) : Lin ops listed (i :: L)

theorem count_set : ∀ (l : List Bool) (i : Nat), l[i]? = some false → (l.set i true).count false + 1 = l.count false
  | [], i, hv => by simp at hv
  | b :: l, 0, hv => by simp at hv; subst hv; simp
  | b :: l, i + 1, hv => by
    simp at hv
    have := count_set l i hv
    simp only [List.set_cons_succ, List.count_cons]
    omega

theorem count_put {listed : Array Bool} {i : Nat} (h : listed.getD i true = false) : (listed.setIfInBounds i true).toList.count false + 1 = listed.toList.count false := by
  have hlt : i < listed.size := by
    rcases Nat.lt_or_ge i listed.size with h1 | h1
    · exact h1
    · simp [h1] at h
  have hv : listed.toList[i]? = some false := by
    simp [hlt] at h ⊢; exact h
  rw [Array.toList_setIfInBounds]
  exact count_set _ _ hv

theorem go_lin : ∀ (fuel t : Nat) (listed : Array Bool), listed.toList.count false ≤ fuel → Lin ops listed (Region.linearise.go .any ops fuel t listed [])
  | 0, t, listed, hf => by
    have h0 : Region.ready .any ops listed = [] := by
      cases hr : Region.ready .any ops listed with
      | nil => rfl
      | cons i r =>
        have hm : i ∈ Region.ready .any ops listed := by rw [hr]; simp
        have := count_put (mem_ready.1 hm).1
        omega
    simpa [Region.linearise.go] using Lin.nil h0
  | fuel + 1, t, listed, hf => by
    simp only [Region.linearise.go]
    change Lin ops listed (match (Region.ready .any ops listed)[t % (Region.ready .any ops listed).length]? with
      | some i => Region.linearise.go .any ops fuel (t / (Region.ready .any ops listed).length) (listed.setIfInBounds i true) [i]
      | none => [].reverse)
    cases hi : (Region.ready .any ops listed)[t % (Region.ready .any ops listed).length]? with
    | none =>
      have hnil : Region.ready .any ops listed = [] := by
        cases hr : Region.ready .any ops listed with
        | nil => rfl
        | cons x xs =>
          rw [hr] at hi
          have hlt : t % (x :: xs).length < (x :: xs).length := Nat.mod_lt _ (by simp)
          simp at hi
          simp at hlt
          omega
      exact .nil hnil
    | some i =>
      simp only []
      rw [linearise_go_acc, List.reverse_singleton, List.singleton_append]
      have hm := List.mem_of_getElem? hi
      have := count_put (mem_ready.1 hm).1
      exact .cons hm (go_lin fuel _ _ (by omega))

/-! ## the first that fits -/
theorem tf_none {p : DOp → Bool} : ∀ {l : List DOp}, takeFirst p l = none → ∀ x ∈ l, p x = false
  | [], _, x, hx => by cases hx
  | d :: l, h, x, hx => by
    simp only [takeFirst] at h
    cases hd : p d with
    | true => simp [hd] at h
    | false =>
      simp only [hd, cond_false] at h
      cases ht : takeFirst p l with
      | some q => obtain ⟨y, r⟩ := q; simp [ht] at h
      | none =>
        cases hx with
        | head => exact hd
        | tail _ hx => exact tf_none ht x hx

theorem tf_some {p : DOp → Bool} : ∀ {l : List DOp} {d : DOp} {r : List DOp}, takeFirst p l = some (d, r) → p d = true ∧ (∀ x, x ∈ l ↔ x = d ∨ x ∈ r) ∧ r.length + 1 = l.length ∧
    ((l.map (·.i)).Nodup → d.i ∉ r.map (·.i) ∧ (r.map (·.i)).Nodup)
  | [], d, r, h => by simp [takeFirst] at h
  | y :: l, d, r, h => by
    simp only [takeFirst] at h
    cases hy : p y with
    | true =>
      simp only [hy, cond_true, Option.some.injEq, Prod.mk.injEq] at h
      obtain ⟨rfl, rfl⟩ := h
      exact ⟨hy, fun x => by simp, rfl, fun hn => by simpa using hn⟩
    | false =>
      simp only [hy, cond_false] at h
      cases ht : takeFirst p l with
      | none => simp [ht] at h
      | some q =>
        obtain ⟨z, r'⟩ := q
        simp only [ht, Option.some.injEq, Prod.mk.injEq] at h
        obtain ⟨rfl, rfl⟩ := h
        obtain ⟨h1, h2, h3, h4⟩ := tf_some ht
        refine ⟨h1, fun x => ?_, by simp [h3], fun hn => ?_⟩
        · simp only [List.mem_cons, h2 x]
          constructor
          · rintro (h | h | h)
            · exact .inr (.inl h)
            · exact .inl h
            · exact .inr (.inr h)
          · rintro (h | h | h)
            · exact .inr (.inl h)
            · exact .inl h
            · exact .inr (.inr h)
        · simp only [List.map_cons, List.nodup_cons] at hn ⊢
          obtain ⟨k1, k2⟩ := h4 hn.2
          refine ⟨?_, ?_, k2⟩
          · simp only [List.mem_cons, not_or]
            refine ⟨fun e => hn.1 (List.mem_map.2 ⟨z, (h2 z).2 (.inl rfl), e⟩), k1⟩
          · intro hm
            obtain ⟨x, hx, hxi⟩ := List.mem_map.1 hm
            exact hn.1 (List.mem_map.2 ⟨x, (h2 x).2 (.inr hx), hxi⟩)

/-! ## the plan -/
def Listed (listed : Array Bool) (i : Nat) : Prop := listed.getD i true = true

structure Inv (P : Program) (nt : Nat) (ops : Array Oper) (l : List DOp) (done : Nat) (past rem : List DOp) (listed : Array Bool) : Prop where
  size : listed.size = ops.size
  part : ∀ d ∈ l, (d ∈ past ∧ done.testBit d.i = true) ∨ (d ∈ rem ∧ done.testBit d.i = false)
  pl : ∀ d ∈ past, d ∈ l
  rl : ∀ d ∈ rem, d ∈ l
  nd : (rem.map (·.i)).Nodup
  rb : ∀ d ∈ rem, done.testBit d.i = false
  sd : ∀ i, i < ops.size → Listed listed i → done.testBit i = true
  eff : ∀ d ∈ past, d.eff = true → Listed listed d.i
  sc : ∀ d ∈ l, Listed listed d.i → ∀ j, d.pred.testBit j = true → Listed listed j
  dc : ∀ d ∈ past, ∀ j, d.pred.testBit j = true → done.testBit j = true

structure StatOk (P : Program) (nt : Nat) (ops : Array Oper) (l : List DOp) : Prop where
  ok : ListOk P nt ops l
  edge : ∀ d ∈ l, ∀ j, d.pred.testBit j = true → j < d.i
  self : ∀ d ∈ l, d.eff = false → ∀ t, d.o.dst = some t → t ∉ namesOf ops d.o
  pair : ∀ x ∈ l, ∀ y ∈ l, x.i ≠ y.i → ∀ t, x.o.dst = some t → y.o.dst ≠ some t ∧ (x.eff = false → t ∈ namesOf ops y.o → y.anc.testBit x.i = true)

def pend (done : Nat) (listed : Array Bool) (j : Nat) : Prop := done.testBit j = true ∧ listed.getD j true = false

theorem hasN_iff {l : List Nat} {t : Nat} : hasN l t = true ↔ t ∈ l := by
  unfold hasN
  rw [List.any_eq_true]
  constructor
  · rintro ⟨u, h1, h2⟩; have := Nat.eq_of_beq_eq_true h2; subst this; exact h1
  · intro h; exact ⟨t, h, Nat.beq_refl t⟩

theorem stat_ok {l : List DOp} (hl : ListOk P nt ops l) (h : regionOk ops l = true) : StatOk P nt ops l := by
  unfold regionOk at h
  rw [List.all_eq_true] at h
  refine ⟨hl, fun d hd j hj => ?_, fun d hd he t ht hn => ?_, fun x hx y hy hne t ht => ?_⟩
  · have := h d hd
    simp only [Bool.and_eq_true] at this
    have h1 := this.1
    unfold edgesOk at h1
    rw [List.all_eq_true] at h1
    rw [(hl.get d hd).2.1, pred_bit] at hj
    obtain ⟨e, k1, k2, rfl⟩ := hj
    have := h1 e k1
    rw [k2] at this
    simp only [Bool.not_true, Bool.false_or] at this
    exact Nat.lt_of_lt_of_le (Nat.lt_succ_self _) (Nat.le_of_ble_eq_true this)
  · have := h d hd
    simp only [Bool.and_eq_true] at this
    have h1 := this.2.1
    unfold selfOk at h1
    rw [ht] at h1
    simp only [he, Bool.false_or, Bool.not_eq_true'] at h1
    have := hasN_iff.2 hn
    rw [h1] at this; cases this
  · have := h x hx
    simp only [Bool.and_eq_true] at this
    have h1 := this.2.2
    rw [List.all_eq_true] at h1
    have h2 := h1 y hy
    have hb : Nat.beq x.i y.i = false := by
      cases hb : Nat.beq x.i y.i with
      | false => rfl
      | true => exact absurd (Nat.eq_of_beq_eq_true hb) hne
    rw [hb] at h2
    simp only [Bool.false_or] at h2
    unfold pairOk at h2
    rw [ht] at h2
    simp only [Bool.and_eq_true, Bool.not_eq_true'] at h2
    obtain ⟨h3, h4⟩ := h2
    refine ⟨fun e => ?_, fun he hn => ?_⟩
    · unfold dstIs at h3
      rw [e] at h3
      simp at h3
    · rw [he, hasN_iff.2 hn] at h4
      simpa using h4

theorem listed_lt {listed : Array Bool} {i : Nat} (h : listed.getD i true = false) : i < listed.size := by
  rcases Nat.lt_or_ge i listed.size with h1 | h1
  · exact h1
  · simp [h1] at h

theorem listed_put {listed : Array Bool} {i j : Nat} : Listed (listed.setIfInBounds i true) j ↔ Listed listed j ∨ j = i := by
  unfold Listed
  by_cases hij : i = j
  · subst hij
    constructor
    · intro _; exact .inr rfl
    · intro _
      rcases Nat.lt_or_ge i listed.size with h1 | h1
      · simp [h1]
      · simp [h1]
  · rw [getD_set_ne true hij]
    exact ⟨.inl, fun h => h.resolve_right (fun e => hij e.symm)⟩

theorem listed_false {listed : Array Bool} {i : Nat} : listed.getD i true = false ↔ ¬ Listed listed i := by
  unfold Listed
  cases listed.getD i true <;> simp

/-- if nothing is ready, all is listed -/
theorem all_listed {l : List DOp} (hs : StatOk P nt ops l) {listed : Array Bool} (hsz : listed.size = ops.size) (h : Region.ready .any ops listed = []) : ∀ (n i : Nat), i < n → i < ops.size → Listed listed i
  | 0, i, hn, _ => absurd hn (Nat.not_lt_zero _)
  | n + 1, i, hn, hi => by
    by_cases hL : Listed listed i
    · exact hL
    · exfalso
      have hm : i ∈ Region.ready .any ops listed := by
        rw [mem_ready]
        refine ⟨listed_false.2 hL, ops[i], by simp [hi], fun e he hb => ?_⟩
        obtain ⟨d, hd, rfl, hdo⟩ := hs.ok.all i ops[i] (by simp [hi])
        have hbit : d.pred.testBit e.on = true := by
          rw [(hs.ok.get d hd).2.1, pred_bit, hdo]
          exact ⟨e, by simpa using he, hb, rfl⟩
        have hlt := hs.edge d hd _ hbit
        have := all_listed hs hsz h n e.on (by omega) (by omega)
        unfold Listed at this
        have h2 : e.on < listed.size := by omega
        simp [h2] at this ⊢
        exact this
      rw [h] at hm; cases hm

/-- what is ready in the world is ready here -/
theorem ready_preds {l : List DOp} (hs : StatOk P nt ops l) {listed : Array Bool} (hsz : listed.size = ops.size) {i : Nat} (h : i ∈ Region.ready .any ops listed) :
    ∃ d ∈ l, d.i = i ∧ ops[i]? = some d.o ∧ ¬ Listed listed i ∧ ∀ j, d.pred.testBit j = true → Listed listed j ∧ j < ops.size := by
  obtain ⟨h1, o, h2, h3⟩ := mem_ready.1 h
  obtain ⟨d, hd, hi, hdo⟩ := hs.ok.all i o h2
  refine ⟨d, hd, hi, by rw [hdo]; exact h2, listed_false.1 h1, fun j hj => ?_⟩
  have hlt := hs.edge d hd j hj
  have hi2 := (Array.getElem?_eq_some_iff.1 h2).1
  rw [(hs.ok.get d hd).2.1, pred_bit, hdo] at hj
  obtain ⟨e, k1, k2, rfl⟩ := hj
  have := h3 e (by simpa using k1) k2
  have hjl : e.on < listed.size := by omega
  refine ⟨?_, by omega⟩
  unfold Listed
  simp [hjl] at this ⊢
  exact this
end Go.Ev

namespace Go.Ev
variable {P : Program} {nt : Nat} {ops : Array Oper} {l : List DOp}

theorem ListOk.uniq (hl : ListOk P nt ops l) {x y : DOp} (hx : x ∈ l) (hy : y ∈ l) (h : x.i = y.i) : x = y := by
  have h1 := (hl.get x hx).2.2.2
  have h2 := (hl.get y hy).2.2.2
  rw [h, h2] at h1
  exact (Option.some.inj h1).symm

theorem pend_is {done : Nat} {past rem : List DOp} {listed : Array Bool} (hs : StatOk P nt ops l) (hi : Inv P nt ops l done past rem listed) {j : Nat} {oj : Oper} (hp : pend done listed j) (hj : ops[j]? = some oj) :
    ∃ x ∈ past, x ∈ l ∧ x.i = j ∧ x.o = oj ∧ x.eff = false := by
  obtain ⟨x, h1, h2, h3⟩ := hs.ok.all j oj hj
  rcases hi.part x h1 with ⟨k1, k2⟩ | ⟨k1, k2⟩
  · refine ⟨x, k1, h1, h2, h3, ?_⟩
    cases he : x.eff with
    | false => rfl
    | true =>
      have := hi.eff x k1 he
      rw [h2] at this
      exact absurd this (listed_false.1 hp.2)
  · rw [h2, hp.1] at k2; cases k2

theorem names_S {done : Nat} {past rem : List DOp} {listed : Array Bool} (hs : StatOk P nt ops l) (hi : Inv P nt ops l done past rem listed) {d : DOp} (hd : d ∈ l) (hpr : ∀ j, d.pred.testBit j = true → Listed listed j)
    {j : Nat} {oj : Oper} {t : Nat} (hp : pend done listed j) (hj : ops[j]? = some oj) (ht : oj.dst = some t) (hne : j ≠ d.i) : t ∉ namesOf ops d.o ∧ d.o.dst ≠ some t ∧ d.anc.testBit j = false := by
  obtain ⟨x, h1, h2, h3, h4, h5⟩ := pend_is hs hi hp hj
  have hanc : d.anc.testBit j = false := by
    cases ha : d.anc.testBit j with
    | false => rfl
    | true => exact absurd (anc_closed hs.ok (X := Listed listed) hi.sc (d.i + 1) d (Nat.lt_succ_self _) hd hpr j ha) (listed_false.1 hp.2)
  obtain ⟨p1, p2⟩ := hs.pair x h2 d hd (by rw [h3]; exact hne) t (by rw [h4]; exact ht)
  refine ⟨fun hn => ?_, p1, hanc⟩
  have := p2 h5 hn
  rw [h3, hanc] at this; cases this

theorem Inv.fill {done : Nat} {past rem : List DOp} {listed : Array Bool} (hs : StatOk P nt ops l) (hi : Inv P nt ops l done past rem listed) {i : Nat} (hr : i ∈ Region.ready .any ops listed) (hd : done.testBit i = true) :
    Inv P nt ops l done past rem (listed.setIfInBounds i true) := by
  obtain ⟨d, h1, h2, h3, h4, h5⟩ := ready_preds hs hi.size hr
  refine ⟨by simp [hi.size], hi.part, hi.pl, hi.rl, hi.nd, hi.rb, fun j hj hL => ?_, fun x hx he => listed_put.2 (.inl (hi.eff x hx he)), fun x hx hL j hj => ?_, hi.dc⟩
  · rcases listed_put.1 hL with h | rfl
    · exact hi.sd j hj h
    · exact hd
  · rcases listed_put.1 hL with h | h
    · exact listed_put.2 (.inl (hi.sc x hx h j hj))
    · have := hs.ok.uniq hx h1 (by rw [h, h2]); subst this
      exact listed_put.2 (.inl (h5 j hj).1)

theorem chks_is (x : DOp) : ∀ (past : List DOp), ∃ ros : List (RO Blk), chksOf P nt ops x past = ros.map .chk ∧
    ∀ y ∈ past, y.eff = false → x.anc.testBit y.i = false → cRO P nt ops y.o ∈ ros ∨ (isLook y.o.op = false ∧ ∀ d, x.o.dst = some d → d ∉ namesOf ops y.o)
  | [] => ⟨[], rfl, fun y hy => by cases hy⟩
  | z :: r => by
    obtain ⟨ros, h1, h2⟩ := chks_is x r
    simp only [chksOf]
    cases he : z.eff with
    | true =>
      refine ⟨ros, h1, fun y hy hye hya => ?_⟩
      cases hy with
      | head => rw [he] at hye; cases hye
      | tail _ hy => exact h2 y hy hye hya
    | false =>
      simp only [cond_false]
      cases ha : x.anc.testBit z.i with
      | true =>
        refine ⟨ros, h1, fun y hy hye hya => ?_⟩
        cases hy with
        | head => rw [ha] at hya; cases hya
        | tail _ hy => exact h2 y hy hye hya
      | false =>
        simp only [cond_false]
        cases hb : (isLook z.o.op || (match x.o.dst with | some d => hasN (namesOf ops z.o) d | none => false)) with
        | true =>
          refine ⟨cRO P nt ops z.o :: ros, by simp [h1], fun y hy hye hya => ?_⟩
          cases hy with
          | head => exact .inl (by simp)
          | tail _ hy => exact (h2 y hy hye hya).imp (fun h => by simp [h]) id
        | false =>
          refine ⟨ros, h1, fun y hy hye hya => ?_⟩
          cases hy with
          | head =>
            simp only [Bool.or_eq_false_iff] at hb
            refine .inr ⟨hb.1, fun d hd hn => ?_⟩
            have := hb.2
            rw [hd] at this
            simp only at this
            rw [hasN_iff.2 hn] at this; cases this
          | tail _ hy => exact h2 y hy hye hya

theorem isN_dst {o : Oper} (h : isN P nt ops o = true) : ∃ d, o.dst = some d := by
  unfold isN at h
  split at h
  · cases h
  · split at h
    · split at h
      · exact ⟨_, by assumption⟩
      · cases h
    · split at h
      · exact ⟨_, by assumption⟩
      · cases h
    · cases h
    · cases h

/-- the next operation of the plan is carried out -/
theorem Inv.next {done : Nat} {past rem rem' : List DOp} {listed : Array Bool} (hi : Inv P nt ops l done past rem listed) {d : DOp} (hdl : d ∈ l) (hrd : readyD done d = true) (hmem : ∀ x, x ∈ rem ↔ x = d ∨ x ∈ rem')
    (hnd : d.i ∉ rem'.map (·.i) ∧ (rem'.map (·.i)).Nodup) {listed' : Array Bool} (hsz : listed'.size = ops.size) (h1 : ∀ j, Listed listed j → Listed listed' j) (h2 : ∀ j, j < ops.size → Listed listed' j → Listed listed j ∨ j = d.i)
    (h3 : d.eff = true → Listed listed' d.i) (h4 : ∀ x ∈ l, Listed listed' x.i → ∀ j, x.pred.testBit j = true → Listed listed' j) : Inv P nt ops l (Nat.lor done (2 ^ d.i)) (d :: past) rem' listed' := by
  refine ⟨hsz, fun x hx => ?_, fun x hx => ?_, fun x hx => hi.rl x ((hmem x).2 (.inr hx)), hnd.2, fun x hx => ?_, fun i hlt hL => ?_, fun x hx he => ?_, h4, fun x hx j hj => ?_⟩
  · rcases hi.part x hx with ⟨k1, k2⟩ | ⟨k1, k2⟩
    · exact .inl ⟨by simp [k1], (bit_put _ _ _).2 (.inl k2)⟩
    · rcases (hmem x).1 k1 with rfl | k3
      · exact .inl ⟨by simp, (bit_put _ _ _).2 (.inr rfl)⟩
      · refine .inr ⟨k3, ?_⟩
        rw [Bool.eq_false_iff]
        intro hb
        rcases (bit_put _ _ _).1 hb with h | h
        · rw [k2] at h; cases h
        · exact hnd.1 (List.mem_map.2 ⟨x, k3, h⟩)
  · cases hx with
    | head => exact hdl
    | tail _ hx => exact hi.pl x hx
  · rw [Bool.eq_false_iff]
    intro hb
    rcases (bit_put _ _ _).1 hb with h | h
    · rw [hi.rb x ((hmem x).2 (.inr hx))] at h; cases h
    · exact hnd.1 (List.mem_map.2 ⟨x, hx, h⟩)
  · rcases h2 i hlt hL with h | rfl
    · exact (bit_put _ _ _).2 (.inl (hi.sd i hlt h))
    · exact (bit_put _ _ _).2 (.inr rfl)
  · cases hx with
    | head => exact h3 he
    | tail _ hx => exact h1 _ (hi.eff x hx he)
  · cases hx with
    | head => exact (bit_put _ _ _).2 (.inl ((readyD_iff _ _).1 hrd j hj))
    | tail _ hx => exact (bit_put _ _ _).2 (.inl (hi.dc x hx j hj))

theorem weave_go {A : Nat → Prop} (hs : StatOk P nt ops l) (hA : ∀ d ∈ l, d.eff = false → ∀ t, d.o.dst = some t → A t) : ∀ (N f done : Nat) (past rem : List DOp) (listed : Array Bool) (L : List Nat), rem.length + L.length ≤ N → rem.length ≤ f → Inv P nt ops l done past rem listed → Lin ops listed L →
    Weave P nt ops A (plan P nt ops f done past rem) L (pend done listed) := by
  intro N
  induction N with
  | zero =>
    intro f done past rem listed L hN hf hi hL
    have hr : rem = [] := List.eq_nil_of_length_eq_zero (by omega)
    have hl : L = [] := List.eq_nil_of_length_eq_zero (by omega)
    subst hr; subst hl
    cases hL with
    | nil h =>
      have : plan P nt ops f done past [] = [] := by cases f <;> simp [plan, takeFirst]
      rw [this]
      refine .done fun j hp => ?_
      have hlt := listed_lt hp.2
      rw [hi.size] at hlt
      exact listed_false.1 hp.2 (all_listed hs hi.size h (j + 1) j (Nat.lt_succ_self _) hlt)
  | succ N ih =>
    intro f done past rem listed L hN hf hi hL
    -- a step of the world that was taken here before
    have fill : ∀ i L', L = i :: L' → i ∈ Region.ready .any ops listed → Lin ops (listed.setIfInBounds i true) L' → done.testBit i = true → Weave P nt ops A (plan P nt ops f done past rem) (i :: L') (pend done listed) := by
      intro i L' hLL hr hL' hd
      subst hLL
      obtain ⟨d, h1, h2, h3, h4, h5⟩ := ready_preds hs hi.size hr
      have hp : pend done listed i := ⟨hd, listed_false.2 h4⟩
      obtain ⟨x, x1, x2, x3, x4, x5⟩ := pend_is hs hi hp h3
      have hxd : x = d := hs.ok.uniq x2 h1 (by rw [x3, h2])
      subst hxd
      refine .fill (q := pend done (listed.setIfInBounds i true)) i x.o h3 hp (fun j oj t hj hoj ht => ?_) (fun j => ?_) (ih f done past rem _ L' (by simp at hN; omega) hf (hi.fill hs hr hd) hL')
      · by_cases hji : j = i
        · subst hji
          rw [h3] at hoj; cases hoj
          exact hs.self x h1 x5 t ht
        · exact (names_S hs hi h1 (fun j hj => (h5 j hj).1) hj hoj ht (by rw [h2]; exact hji)).1
      · unfold pend
        rw [listed_false, listed_false, listed_put]
        constructor
        · rintro ⟨q1, q2⟩
          exact ⟨fun e => q2 (.inr e), q1, fun h => q2 (.inl h)⟩
        · rintro ⟨q1, q2, q3⟩
          exact ⟨q2, fun h => h.elim q3 q1⟩
    cases rem with
    | nil =>
      have hall : ∀ i o, ops[i]? = some o → done.testBit i = true := fun i o ho => by
        obtain ⟨d, h1, h2, h3⟩ := hs.ok.all i o ho
        rcases hi.part d h1 with ⟨_, k⟩ | ⟨k, _⟩
        · rw [← h2]; exact k
        · cases k
      cases hL with
      | nil h =>
        have : plan P nt ops f done past [] = [] := by cases f <;> simp [plan, takeFirst]
        rw [this]
        refine .done fun j hp => ?_
        have hlt := listed_lt hp.2
        rw [hi.size] at hlt
        exact listed_false.1 hp.2 (all_listed hs hi.size h (j + 1) j (Nat.lt_succ_self _) hlt)
      | @cons _ i L' hr hL' =>
        obtain ⟨d, h1, h2, h3, h4, h5⟩ := ready_preds hs hi.size hr
        exact fill i L' rfl hr hL' (hall i d.o h3)
    | cons r0 rest =>
      generalize hrem : r0 :: rest = rem at hi hN hf fill
      have hne : rem ≠ [] := by rw [← hrem]; simp
      cases f with
      | zero => exact absurd (List.eq_nil_of_length_eq_zero (by omega)) hne
      | succ f =>
        simp only [plan] at fill ⊢
        cases ht1 : takeFirst (fun d => !d.eff && readyD done d) rem with
        | some q =>
          obtain ⟨d, rem'⟩ := q
          simp only
          obtain ⟨t1, t2, t3, t4⟩ := tf_some ht1
          simp only [Bool.and_eq_true, Bool.not_eq_true'] at t1
          have hdr : d ∈ rem := (t2 d).2 (.inl rfl)
          have hdl := hi.rl d hdr
          obtain ⟨o1, o2, o3, o4⟩ := hs.ok.get d hdl
          have hN' : isN P nt ops d.o = true := by rw [t1.1] at o3; simpa using o3.symm
          obtain ⟨t, ht⟩ := isN_dst hN'
          have hbit : done.testBit d.i = false := hi.rb d hdr
          have hlt : d.i < ops.size := (Array.getElem?_eq_some_iff.1 o1).1
          have hnl : ¬ Listed listed d.i := fun h => by have := hi.sd d.i hlt h; rw [hbit] at this; cases this
          refine .ghost (q := pend (Nat.lor done (2 ^ d.i)) listed) d.i t d.o o1 hN' ht (hs.self d hdl t1.1 t ht) (hA d hdl t1.1 t ht) (fun h => by rw [h.1] at hbit; cases hbit) (fun j oj hj hoj => ?_) (fun j => ?_)
            (ih f _ _ rem' listed L (by omega) (by omega) (hi.next hdl t1.2 t2 (t4 hi.nd) hi.size (fun _ h => h) (fun _ _ h => .inl h) (fun h => by rw [t1.1] at h; cases h) hi.sc) hL)
          · obtain ⟨x, x1, x2, x3, x4, x5⟩ := pend_is hs hi hj hoj
            have hjd : d.i ≠ x.i := fun e => by rw [x3] at e; have h1 := hj.1; rw [← e, hbit] at h1; cases h1
            obtain ⟨p1, p2⟩ := hs.pair d hdl x x2 hjd t ht
            rw [x4] at p1 p2
            refine ⟨p1, fun hn => ?_⟩
            have ha := p2 t1.1 hn
            have := anc_closed hs.ok (X := fun i => done.testBit i = true) (fun y hy hb j hj => by
              rcases hi.part y hy with ⟨k1, _⟩ | ⟨_, k2⟩
              · exact hi.dc y k1 j hj
              · rw [hb] at k2; cases k2) (x.i + 1) x (Nat.lt_succ_self _) x2 (hi.dc x x1) d.i ha
            rw [hbit] at this; cases this
          · unfold pend
            rw [bit_put]
            constructor
            · rintro ⟨h1 | h1, h2⟩
              · exact .inr ⟨h1, h2⟩
              · exact .inl h1
            · rintro (rfl | ⟨h1, h2⟩)
              · exact ⟨.inr rfl, listed_false.2 hnl⟩
              · exact ⟨.inl h1, h2⟩
        | none =>
          simp only [ht1] at fill
          simp only
          have hnN := tf_none ht1
          cases ht2 : takeFirst (readyD done) rem with
          | none =>
            exfalso
            have hnR := tf_none ht2
            have none : ∀ (n : Nat) (d : DOp), d.i < n → d ∈ rem → False := by
              intro n
              induction n with
              | zero => intro d hn; exact absurd hn (Nat.not_lt_zero _)
              | succ n ihn =>
                intro d hn hd
                have hdl := hi.rl d hd
                have hrd : readyD done d = true := (readyD_iff _ _).2 fun j hj => by
                  have hlt := hs.edge d hdl j hj
                  have hdi := (Array.getElem?_eq_some_iff.1 (hs.ok.get d hdl).1).1
                  have hjo : j < ops.size := by omega
                  obtain ⟨y, y1, y2, y3⟩ := hs.ok.all j ops[j] (by simp [hjo])
                  rcases hi.part y y1 with ⟨_, k⟩ | ⟨k, _⟩
                  · rw [← y2]; exact k
                  · exact (ihn y (by omega) k).elim
                rw [hnR d hd] at hrd; cases hrd
            exact none (r0.i + 1) r0 (Nat.lt_succ_self _) (by rw [← hrem]; simp)
          | some q =>
            obtain ⟨d, rem'⟩ := q
            simp only [ht2] at fill
            simp only
            obtain ⟨t1, t2, t3, t4⟩ := tf_some ht2
            cases hany : rem'.any (readyD done) with
            | true => simp only [cond_true]; exact .stop 26 none
            | false =>
              simp only [hany, cond_false] at fill
              simp only [cond_false]
              have hdr : d ∈ rem := (t2 d).2 (.inl rfl)
              have hdl := hi.rl d hdr
              obtain ⟨o1, o2, o3, o4⟩ := hs.ok.get d hdl
              have hlt : d.i < ops.size := (Array.getElem?_eq_some_iff.1 o1).1
              have hbit : done.testBit d.i = false := hi.rb d hdr
              have hnl : ¬ Listed listed d.i := fun h => by have := hi.sd d.i hlt h; rw [hbit] at this; cases this
              cases hL with
              | nil h => exact absurd (all_listed hs hi.size h (d.i + 1) d.i (Nat.lt_succ_self _) hlt) hnl
              | @cons _ i L' hr hL' =>
                cases hbi : done.testBit i with
                | true => exact fill i L' rfl hr hL' hbi
                | false =>
                  obtain ⟨x, h1, h2, h3, h4, h5⟩ := ready_preds hs hi.size hr
                  have hxr : x ∈ rem := by
                    rcases hi.part x h1 with ⟨_, k⟩ | ⟨k, _⟩
                    · rw [h2, hbi] at k; cases k
                    · exact k
                  have hxd : x = d := by
                    rcases (t2 x).1 hxr with h | h
                    · exact h
                    · rw [List.any_eq_false] at hany
                      exact absurd ((readyD_iff _ _).2 fun j hj => hi.sd j (h5 j hj).2 (h5 j hj).1) (hany x h)
                  subst hxd
                  subst h2
                  obtain ⟨ros, c1, c2⟩ := chks_is (P := P) (nt := nt) (ops := ops) x past
                  rw [c1]
                  have hp : pend (Nat.lor done (2 ^ x.i)) (listed.setIfInBounds x.i true) = pend done listed := by
                    funext j
                    apply propext
                    unfold pend
                    rw [bit_put, listed_false, listed_false, listed_put]
                    constructor
                    · rintro ⟨q1, q2⟩
                      have hne : j ≠ x.i := fun e => q2 (.inr e)
                      exact ⟨q1.resolve_right hne, fun h => q2 (.inl h)⟩
                    · rintro ⟨q1, q2⟩
                      refine ⟨.inl q1, fun h => h.elim q2 fun e => ?_⟩
                      rw [e, hbit] at q1; cases q1
                  have hpr : ∀ j, x.pred.testBit j = true → Listed listed j := fun j hj => (h5 j hj).1
                  have hne : ∀ j, pend done listed j → j ≠ x.i := fun j hj e => by have h1 := hj.1; rw [e, hbit] at h1; cases h1
                  refine .eff x.i x.o h3 (fun j oj t hj hoj ht => ?_) (fun j oj hj hoj => ?_) ?_
                  · obtain ⟨n1, n2, _⟩ := names_S hs hi h1 hpr hj hoj ht (hne j hj)
                    exact ⟨n1, n2⟩
                  · obtain ⟨y, y1, y2, y3, y4, y5⟩ := pend_is hs hi hj hoj
                    have hanc : x.anc.testBit y.i = false := by
                      cases ha : x.anc.testBit y.i with
                      | false => rfl
                      | true =>
                        rw [y3] at ha
                        exact absurd (anc_closed hs.ok (X := Listed listed) hi.sc (x.i + 1) x (Nat.lt_succ_self _) h1 hpr j ha) (listed_false.1 hj.2)
                    rw [← y4]
                    exact c2 y y1 y5 hanc
                  · rw [← hp]
                    refine ih f _ _ rem' _ L' (by simp at hN; omega) (by omega) (hi.next hdl t1 t2 (t4 hi.nd) (by simp [hi.size]) (fun _ h => listed_put.2 (.inl h)) (fun _ _ h => listed_put.1 h) (fun _ => listed_put.2 (.inr rfl)) ?_) hL'
                    intro y hy hLy j hj
                    rcases listed_put.1 hLy with h | h
                    · exact listed_put.2 (.inl (hi.sc y hy h j hj))
                    · have := hs.ok.uniq hy h1 h; subst this
                      exact listed_put.2 (.inl (hpr j hj))

theorem plan_ok (P : Program) : PlanOk P := by
  intro nt av ops rs t hd
  unfold drawn at hd
  cases hb : (P.follows .mixedOrders && (regionOk ops (dOps P nt ops ops.toList 0 []) && avoids av (dOps P nt ops ops.toList 0 []))) with
  | false => rw [hb] at hd; cases hd
  | true =>
    rw [hb] at hd
    simp only [cond_true] at hd
    cases hd
    simp only [Bool.and_eq_true] at hb
    have hav : ∀ d ∈ dOps P nt ops ops.toList 0 [], d.eff = false → ∀ t, d.o.dst = some t → t ∉ av := fun d hd he t ht hm => by
      have h1 := hb.2.2
      unfold avoids at h1
      rw [List.all_eq_true] at h1
      have h2 := h1 d hd
      rw [he, ht] at h2
      simp only [Bool.false_or] at h2
      rw [hasN_iff.2 hm] at h2
      cases h2
    have hok := dOps_ok (P := P) (nt := nt) (ops := ops)
    have hs := stat_ok hok hb.2.1
    have hlen : (dOps P nt ops ops.toList 0 []).length = ops.size := by
      have : ∀ (r : List Oper) (i : Nat) (a : List Nat), (dOps P nt ops r i a).length = r.length := by
        intro r
        induction r with
        | nil => intro i a; rfl
        | cons o r ih => intro i a; simp [dOps, ih]
      rw [this]; simp
    have hmap : (dOps P nt ops ops.toList 0 []).map (·.i) = List.range ops.size := by
      apply List.ext_getElem?
      intro k
      rw [List.getElem?_map, dOps_get, Array.getElem?_toList]
      rcases Nat.lt_or_ge k ops.size with h | h
      · simp [h]
      · simp [h]
    have hnot : ∀ j, ¬ Listed (Array.replicate ops.size false) j ∨ ops.size ≤ j := fun j => by
      rcases Nat.lt_or_ge j ops.size with h | h
      · left; unfold Listed; simp [h]
      · exact .inr h
    generalize dOps P nt ops ops.toList 0 [] = l at hok hs hlen hmap hav
    have hlt : ∀ d ∈ l, d.i < ops.size := fun d hd => (Array.getElem?_eq_some_iff.1 (hok.get d hd).1).1
    have hinv : Inv P nt ops l 0 [] l (Array.replicate ops.size false) := by
      exact { size := by simp, part := fun d hd => .inr ⟨hd, by simp⟩, pl := fun d hd => (by cases hd), rl := fun d hd => hd, nd := by rw [hmap]; exact List.nodup_range, rb := fun d _ => by simp,
              sd := fun i hi hL => absurd hL ((hnot i).resolve_right (by omega)), eff := fun d hd => (by cases hd),
              sc := fun d hd hL => absurd hL ((hnot d.i).resolve_right (by have := hlt d hd; omega)), dc := fun d hd => (by cases hd) }
    have hw := weave_go (A := fun t => t ∉ av) hs hav (l.length + (Region.linearise .any ops t).length) ops.size 0 [] l (Array.replicate ops.size false) (Region.linearise .any ops t) (Nat.le_refl _) (by omega) hinv
      (go_lin ops.size t _ (by simp))
    have hp : pend 0 (Array.replicate ops.size false) = fun _ => False := by
      funext j
      apply propext
      unfold pend
      simp
    rw [hp] at hw
    unfold Region.schedule
    rw [hb.1]
    simpa using hw
end Go.Ev

namespace Go.Ev

def namesOk (P : Program) : Bool := P.funcs.toList.all fun fn => fn.body.isNone || !(fn.name == "runtime.NumGoroutine")

theorem namesOk_ok {P : Program} (h : namesOk P = true) : NamesOk P := by
  intro f fn c hf hb
  unfold namesOk at h
  rw [List.all_eq_true] at h
  have := h fn (by simpa using Array.mem_of_getElem? hf)
  rw [hb] at this
  simpa using this

/-- the law of a closed function: it has been run, and said true -/
theorem says_true {P : Program} (hN : namesOk P = true) {n f : Nat} (hrun : isTrue (runFn P n f []) = true) (w : World) :
    Calls P f #[] w fun
      | .returned v, w' => v = .bool true ∧ Kept w w'
      | _, _ => False :=
  calls_true (plan_ok P) (namesOk_ok hN) hrun w
end Go.Ev
