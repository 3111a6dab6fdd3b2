/- A program of this law is run by an evaluator that is proved right: functions of the library told by contracts. It holds for every program of the model. -/
import Derived.Test.YtilaoinonapokaaEvH
import Derived.Laws.IdiomCopy
import Derived.Lib.Bytealg
import Derived.Lib.Join
namespace Go.Ev
variable {C : Cx} {ls : List LE} {α : AM} {Λ : Pa → Prop} {h : Hp} {w : World}
/-- so many cells from a place on, one by one -/
theorem Sim.cellsN (s : Sim C α Λ h ls w) {a : Pa} {L : Loc} (ha : α a = some L) {o n : Nat} {l : List V} (hl : h.loadN a o n = some l) :
    ∃ cs : List Value, cs.length = n ∧ VRs α l cs ∧ ∀ (j : Nat) (c : Value), cs[j]? = some c → w.cell? ⟨L.blk, L.base + o + j, none⟩ = some c := by
  unfold Heap.loadN at hl
  cases hc : h.cells a with
  | none => simp [hc] at hl
  | some m =>
    simp only [hc, dropN_eq] at hl
    obtain ⟨h1, h2⟩ := takeN_eq hl
    have hcells := s.cells ha hc
    have hlen : l.length = n := by rw [h2]; simp at h1 ⊢; omega
    have hget : ∀ (i : Nat) (v : V), l[i]? = some v → ∃ c, w.cell? ⟨L.blk, L.base + o + i, none⟩ = some c ∧ VR α v c := by
      intro i v hv
      rw [h2, List.getElem?_take] at hv
      split at hv
      · rw [List.getElem?_drop] at hv
        obtain ⟨c, k1, k2⟩ := hcells _ _ hv
        exact ⟨c, by rw [Nat.add_assoc]; exact k1, k2⟩
      · cases hv
    have : ∀ (m : List V) (o' : Nat), (∀ (i : Nat) (v : V), m[i]? = some v → ∃ c, w.cell? ⟨L.blk, o' + i, none⟩ = some c ∧ VR α v c) →
        ∃ cs : List Value, cs.length = m.length ∧ VRs α m cs ∧ ∀ (j : Nat) (c : Value), cs[j]? = some c → w.cell? ⟨L.blk, o' + j, none⟩ = some c := by
      intro m
      induction m with
      | nil => intro o' _; exact ⟨[], rfl, .nil, fun j c hj => by simp at hj⟩
      | cons v m ih =>
        intro o' hm
        obtain ⟨c, k1, k2⟩ := hm 0 v (by simp)
        obtain ⟨cs, k3, k4, k5⟩ := ih (o' + 1) (fun i u hu => by
          obtain ⟨d, e1, e2⟩ := hm (i + 1) u (by simpa using hu)
          exact ⟨d, by rw [show o' + 1 + i = o' + (i + 1) from by omega]; exact e1, e2⟩)
        refine ⟨c :: cs, by simp [k3], .cons _ _ _ _ k2 k4, fun j d hd => ?_⟩
        cases j with
        | zero => simp at hd; subst hd; simpa using k1
        | succ j => simp at hd; rw [show o' + (j + 1) = o' + 1 + j from by omega]; exact k5 j d hd
    obtain ⟨cs, k1, k2, k3⟩ := this l (L.base + o) hget
    exact ⟨cs, by rw [k1, hlen], k2, k3⟩

/-- two blocks that are apart in the memory are so in the world -/
theorem Sim.apartBlk (s : Sim C α Λ h ls w) {a a' : Pa} {L L' : Loc} (ha : α a = some L) (ha' : α a' = some L') {l l' : List V} (hg : h.get a = some (.cells l false)) (hg' : h.get a' = some (.cells l' false)) (hne : a ≠ a') : L.blk ≠ L'.blk := by
  intro he
  have q : ∀ {x : Pa} {M : Loc} {m : List V}, α x = some M → h.get x = some (.cells m false) → Λ x := fun {x M m} hx hgx => by
    rcases s.live x M _ hx hgx with h1 | ⟨n, h1⟩
    · exact h1
    · cases h1
  exact hne (s.inj a a' L L' ha ha' (q ha hg) (q ha' hg') he (s.wr a L _ ha (q ha hg) hg rfl))

theorem setCells_append (b : Nat) : ∀ (xs ys : List Value) (o : Nat) (w : World), w.setCells b o (xs ++ ys) = (w.setCells b o xs).setCells b (o + xs.length) ys
  | [], ys, o, w => rfl
  | x :: xs, ys, o, w => by
    show (w.setCell ⟨b, o, none⟩ x).setCells b (o + 1) (xs ++ ys) = ((w.setCell ⟨b, o, none⟩ x).setCells b (o + 1) xs).setCells b (o + (xs.length + 1)) ys
    rw [setCells_append b xs ys (o + 1), show o + 1 + xs.length = o + (xs.length + 1) by omega]
theorem setCell_comm (w : World) (b o p : Nat) (x y : Value) (h : o ≠ p) : (w.setCell ⟨b, o, none⟩ x).setCell ⟨b, p, none⟩ y = (w.setCell ⟨b, p, none⟩ y).setCell ⟨b, o, none⟩ x := by
  unfold World.setCell
  congr 1
  apply Array.ext
  · simp
  · intro k h1 h2
    simp only [Array.getElem_modify, Option.isSome_none, Bool.false_eq_true, if_false]
    by_cases hk : b = k
    · simp only [hk, if_true]
      cases w.heap[k]'(by simpa using h1) <;> simp only
      rw [Array.setIfInBounds_comm _ _ h]
    · simp only [hk, if_false]
theorem setCells_setCell (b p : Nat) (y : Value) : ∀ (xs : List Value) (o : Nat) (w : World), (p < o ∨ o + xs.length ≤ p) → (w.setCell ⟨b, p, none⟩ y).setCells b o xs = (w.setCells b o xs).setCell ⟨b, p, none⟩ y
  | [], o, w, _ => rfl
  | x :: xs, o, w, h => by
    simp only [List.length_cons] at h
    show ((w.setCell ⟨b, p, none⟩ y).setCell ⟨b, o, none⟩ x).setCells b (o + 1) xs = _
    rw [setCell_comm w b p o y x (by omega), setCells_setCell b p y xs (o + 1) _ (by omega)]
    rfl
theorem setCells_comm (b : Nat) : ∀ (ys : List Value) (p : Nat) (xs : List Value) (o : Nat) (w : World), (p + ys.length ≤ o ∨ o + xs.length ≤ p) → (w.setCells b p ys).setCells b o xs = (w.setCells b o xs).setCells b p ys
  | [], _, xs, o, w, _ => rfl
  | y :: ys, p, xs, o, w, h => by
    simp only [List.length_cons] at h
    show ((w.setCell ⟨b, p, none⟩ y).setCells b (p + 1) ys).setCells b o xs = ((w.setCells b o xs).setCell ⟨b, p, none⟩ y).setCells b (p + 1) ys
    rw [setCells_comm b ys (p + 1) xs o _ (by omega), setCells_setCell b p y xs o w (by omega)]
end Go.Ev

namespace Go.Ev
variable {C : Cx} {ls : List LE} {α : AM} {Λ : Pa → Prop} {h : Hp} {w : World}
/-- what slices.Insert of elements of k cells does, as walked -/
structure InsC (P : Program) (f k : Nat) (ts el : TypeId) : Prop where
  und : P.underlying ts = some (.slice el)
  row : ∃ i zv, P.info? el = some i ∧ i.size = k ∧ i.zero = some zv ∧ zv.cells.size = i.size ∧ i.bytes ≤ 65536
  pos : 0 < k
  shift : ∀ (b off n c i vb voff m vc : Nat) (cs vs : List Value) (w : World), i < n → 0 < m → n + m ≤ c → n + m ≤ 1000000000 → vb ≠ b → cs.length = n * k → vs.length = m * k →
    (∀ j v, cs[j]? = some v → w.cell? ⟨b, off + j, none⟩ = some v) → (∀ j, j < (n + m) * k → (w.cell? ⟨b, off + j, none⟩).isSome = true) → (∀ j, j < (n + m) * k → w.frozen? ⟨b, off + j, none⟩ = false) →
    (∀ j v, vs[j]? = some v → w.cell? ⟨vb, voff + j, none⟩ = some v) → (∀ v ∈ cs.drop (i * k), v.oneCell' = true) → (∀ v ∈ vs, v.oneCell' = true) →
    ∀ (tA tB : TypeId) (kA kB : Nat), w.shape? vb = some (tA, kA) → w.shape? b = some (tB, kB) → kA ≠ 0 → kB ≠ 0 → w.frozen? ⟨b, kB, none⟩ = false →
    Calls P f #[.slice (some ⟨b, off, none⟩) n c, .int .i64 i, .slice (some ⟨vb, voff, none⟩) m vc] w fun e w' =>
      e = .returned (.slice (some ⟨b, off, none⟩) (n + m) c) ∧ w' = (w.drew.setCells b (off + (i + m) * k) (cs.drop (i * k))).setCells b (off + i * k) vs
  fin : ∀ (sv : Value) (base : Option Addr) (n c vb voff m vc : Nat) (w w1 : World) (r : Value), 0 < m → n ≤ c → sv = .slice base n c →
    (∀ ty, (Builtin.append_ #[ts, ts] ty #[.slice base n c, .slice (some ⟨vb, voff, none⟩) m vc]).run P w = .ok r w1) →
    Calls P f #[sv, .int .i64 n, .slice (some ⟨vb, voff, none⟩) m vc] w fun e w' => e = .returned r ∧ w' = w1
  grow : ∀ (b off n c i vb voff m vc : Nat) (cs vs : List Value) (w : World), i < n → 0 < m → n ≤ c → c < n + m → n + m ≤ 1000000000 → cs.length = n * k → vs.length = m * k →
    (∀ j v, cs[j]? = some v → w.cell? ⟨b, off + j, none⟩ = some v) → (∀ j v, vs[j]? = some v → w.cell? ⟨vb, voff + j, none⟩ = some v) → (∀ v ∈ cs.drop (i * k), v.oneCell' = true) → (∀ v ∈ vs, v.oneCell' = true) →
    Calls P f #[.slice (some ⟨b, off, none⟩) n c, .int .i64 i, .slice (some ⟨vb, voff, none⟩) m vc] w fun e w' =>
      ∃ G, n + m ≤ G ∧ ∃ rest : Array Value, rest.size = (G - (n + m)) * k ∧ ∃ mid : Array Value, mid.size = (n + m - i) * k ∧ e = .returned (.slice (some ⟨w.heap.size, 0, none⟩) (n + m) G) ∧
      w' = (((w.alloc (.cells ((cs.take (i * k)).toArray ++ mid ++ rest) el)).drew.setCells w.heap.size (i * k) vs).drew).setCells w.heap.size ((i + m) * k) (cs.drop (i * k))

theorem one_of_all {l : List V} {cs : List Value} (hl : VRs α l cs) (hs : allScalar l = true) : ∀ v ∈ cs, v.oneCell' = true := by
  induction l generalizing cs with
  | nil => cases hl; intro v hv; cases hv
  | cons a l ih =>
    cases hl with
    | cons _ c _ cs ha hr =>
      simp only [allScalar] at hs
      cases hv : isScalar a with
      | false => simp [hv] at hs
      | true =>
        simp only [hv, cond_true] at hs
        intro v hm
        rcases List.mem_cons.1 hm with rfl | hm
        · exact one_of ha hv
        · exact ih hr hs v hm

theorem allScalar_split {a b : List V} (h : allScalar (a ++ b) = true) : allScalar a = true ∧ allScalar b = true := by
  induction a with
  | nil => exact ⟨rfl, h⟩
  | cons v a ih =>
    simp only [List.cons_append, allScalar] at h ⊢
    cases hv : isScalar v with
    | false => simp [hv] at h
    | true => simp only [hv, cond_true] at h ⊢; exact ih h

/-- a block of cells that lives, in the world -/
theorem Sim.blkCells (s : Sim C α Λ h ls w) {a : Pa} {L : Loc} {l : List V} (ha : α a = some L) (hg : h.get a = some (.cells l false)) :
    Λ a ∧ ∃ cs el fr, w.heap[L.blk]? = some (.cells cs el fr) ∧ cs.size = L.top ∧ quietAt cs.size fr ∧ CellsR α l cs L.base ∧ marksAt L.bm fr := by
  have hΛ : Λ a := by
    rcases s.live a L _ ha hg with h1 | ⟨m, h1⟩
    · exact h1
    · cases h1
  obtain ⟨b', h1, h2⟩ := s.blk a L ha hΛ
  rw [hg] at h1; cases h1
  exact ⟨hΛ, h2⟩

theorem unmarked {w : World} {b off : Nat} {cs : Array Value} {el : TypeId} {fr : Nat × Nat} (hb : w.heap[b]? = some (.cells cs el fr)) (hq : fr.2 ≤ fr.1) : w.frozen? ⟨b, off, none⟩ = false := by
  obtain ⟨lo, hi⟩ := fr
  simp only [World.frozen?, hb]
  rw [Bool.and_eq_false_iff]
  simp only at hq
  by_cases h2 : lo ≤ off
  · exact .inr (decide_eq_false (by omega))
  · exact .inl (decide_eq_false h2)

theorem setCells_heap_congr (b : Nat) : ∀ (xs : List Value) (o : Nat) (w w' : World), w.heap = w'.heap → (w.setCells b o xs).heap = (w'.setCells b o xs).heap
  | [], _, _, _, h => h
  | x :: xs, o, w, w', h => by
    show ((w.setCell ⟨b, o, none⟩ x).setCells b (o + 1) xs).heap = ((w'.setCell ⟨b, o, none⟩ x).setCells b (o + 1) xs).heap
    exact setCells_heap_congr b xs (o + 1) _ _ (by unfold World.setCell; rw [h])
theorem setCells_still (b : Nat) : ∀ (xs : List Value) (o : Nat) (w : World), (w.setCells b o xs).os = w.os ∧ (w.setCells b o xs).output = w.output
  | [], _, _ => ⟨rfl, rfl⟩
  | x :: xs, o, w => setCells_still b xs (o + 1) (w.setCell ⟨b, o, none⟩ x)

/-- cells put over the last block's -/
theorem setCells_push (H : Array Obj) (el : TypeId) : ∀ (xs : List Value) (o : Nat) (w : World) (pre mid post : List Value), o = pre.length → mid.length = xs.length → w.heap = H.push (.cells (pre ++ mid ++ post).toArray el) →
    (w.setCells H.size o xs).heap = H.push (.cells (pre ++ xs ++ post).toArray el)
  | [], o, w, pre, mid, post, _, hm, hw => by
    have : mid = [] := List.eq_nil_of_length_eq_zero (by simpa using hm)
    subst this; exact hw
  | x :: xs, o, w, pre, mid, post, ho, hm, hw => by
    cases mid with
    | nil => simp at hm
    | cons y mid =>
      have h1 : (w.setCell ⟨H.size, o, none⟩ x).heap = H.push (.cells ((pre ++ [x]) ++ mid ++ post).toArray el) := by
        unfold World.setCell
        simp only [hw]
        apply Array.ext
        · simp
        · intro k h1 h2
          simp only [Array.getElem_modify, Option.isSome_none, Bool.false_eq_true, if_false]
          by_cases hk : H.size = k
          · subst hk
            simp only [if_true, Array.getElem_push_eq]
            congr 1
            apply Array.ext'
            subst ho
            simp
          · simp only [hk, if_false]
            have : k < H.size := by simp at h2; omega
            rw [Array.getElem_push_lt this, Array.getElem_push_lt this]
      have := setCells_push H el xs (o + 1) (w.setCell ⟨H.size, o, none⟩ x) (pre ++ [x]) mid post (by simp [ho]) (by simpa using hm) h1
      show ((w.setCell ⟨H.size, o, none⟩ x).setCells H.size (o + 1) xs).heap = _
      rw [this]; simp
/-- what a source's cells are, in the world -/
theorem Sim.srcBlk (s : Sim C α Λ h ls w) {a : Pa} {L : Loc} {l : List V} (ha : α a = some L) (hg : h.cells a = some l) : Λ a ∧ ∃ t k, w.shape? L.blk = some (t, k) ∧ l.length ≤ k := by
  unfold Heap.cells at hg
  cases hb : h.get a with
  | none => simp [hb] at hg
  | some b =>
    have hΛ : Λ a := by
      rcases s.live a L _ ha hb with h1 | ⟨m, h1⟩
      · exact h1
      · subst h1; simp [hb] at hg
    obtain ⟨b', h1, h2⟩ := s.blk a L ha hΛ
    rw [hb] at h1; cases h1
    refine ⟨hΛ, ?_⟩
    cases b with
    | cells l' d =>
      obtain ⟨cs, el, fr, k1, _, _, ⟨k4, _⟩, _⟩ := h2
      cases d with
      | true => simp [hb] at hg
      | false =>
        simp [hb] at hg; subst hg
        exact ⟨el, cs.size, by simp [World.shape?, k1], by omega⟩
    | ro l' =>
      obtain ⟨cs, el, fr, k1, _, ⟨k4, _⟩⟩ := h2
      simp [hb] at hg; subst hg
      exact ⟨el, cs.size, by simp [World.shape?, k1], by omega⟩
    | map es c => simp [hb] at hg
    | loop r => simp [hb] at hg
    | dfr l => simp [hb] at hg

theorem takeN_of {α : Type} {n : Nat} {l : List α} (h : n ≤ l.length) : takeN n l = some (l.take n) := by
  induction n generalizing l with
  | zero => cases l <;> simp [takeN]
  | succ n ih => cases l with
    | nil => simp at h
    | cons a l => simp only [takeN]; rw [ih (by simpa using h)]; simp
theorem loadN_pos {a : Pa} {o n : Nat} {l : List V} (hl : h.loadN a o n = some l) (hn : 0 < n) : ∃ m, h.cells a = some m ∧ o + n ≤ m.length ∧ l = (m.drop o).take n := by
  unfold Heap.loadN at hl
  cases hc : h.cells a with
  | none => simp [hc] at hl
  | some m =>
    simp only [hc, dropN_eq] at hl
    obtain ⟨h1, h2⟩ := takeN_eq hl
    rw [List.length_drop] at h1
    exact ⟨m, rfl, by omega, h2⟩
theorem loadN_zero {a : Pa} {o : Nat} {l : List V} (hl : h.loadN a o 0 = some l) : l = [] := by
  unfold Heap.loadN at hl
  cases hc : h.cells a with
  | none => simp [hc] at hl
  | some m =>
    simp only [hc] at hl
    obtain ⟨_, h2⟩ := takeN_eq hl
    simpa using h2
theorem loadN_of {a : Pa} {o n : Nat} {m : List V} (hc : h.cells a = some m) (hn : o + n ≤ m.length) : h.loadN a o n = some ((m.drop o).take n) := by
  unfold Heap.loadN
  simp only [hc, dropN_eq]
  exact takeN_of (by rw [List.length_drop]; omega)

set_option maxHeartbeats 2000000 in
/-- slices.Insert, told by insI -/
theorem ins_ok {P : Program} {f k : Nat} {ts el : TypeId} (hc : InsC P f k ts el) : IntrOk P f (insI k) := by
  intro C α Λ h ls w args cargs r h' hP s ha hg
  obtain ⟨i0, zv, hie, hsz, hzv, hzl, hby⟩ := hc.row
  have hk := hc.pos
  cases ha with
  | nil => cases hg
  | cons sv sc a1 c1 hs ha =>
  cases ha with
  | nil => cases hg
  | cons iv ic a2 c2 hi ha =>
  cases ha with
  | nil => cases hg
  | cons v vc a3 c3 hv ha =>
  cases ha with
  | cons => cases hg
  | nil =>
  simp only [insI] at hg
  cases hap : apart sv v with
  | false => simp [hap] at hg
  | true =>
  simp only [hap, cond_true] at hg
  cases v <;> simp only [apart] at hap <;> (try (cases hap; done))
  rename_i va vo m vcap
  simp only [srcLen] at hg
  cases hm0 : Nat.beq m 0 with
  | true => simp [hm0] at hg
  | false =>
  have hm : 0 < m := by
    rcases Nat.eq_zero_or_pos m with h1 | h1
    · subst h1; cases hm0
    · exact h1
  simp only [hm0, cond_false] at hg
  cases hsrc : srcN h k m (.sl va vo m vcap) with
  | none => simp [hsrc] at hg
  | some xs =>
  simp only [hsrc] at hg
  cases iv <;> simp only [nat64] at hg <;> (try (cases hg; done))
  rename_i ki zi
  cases ki <;> simp only at hg <;> (try (cases hg; done))
  cases zi <;> simp only at hg <;> (try (cases hg; done))
  rename_i i
  cases hi
  obtain ⟨q, hxq, hql, hqf⟩ := srcN_sounds (P := P) s hv hsrc (fun a' o' m' cp' e1 => by cases e1; exact Nat.le_refl _)
  generalize hvc : vc = vc0 at hv hqf ⊢
  cases hv with
  | sl0 _ _ _ ad _ => exact absurd hm (Nat.lt_irrefl 0)
  | sl _ _ _ _ Lv capV hva hvn hvcap =>
  -- at the end: what append does
  have fin : ∀ (sv' : V) (base : Option Addr) (n c : Nat), n ≤ c → VR α sv' (.slice base n c) → appTo h k m xs sv' = some (r, h') →
      Calls P f #[.slice base n c, .int .i64 (Int.ofNat n), .slice (some ⟨Lv.blk, Lv.base + vo, none⟩) m capV] w fun en w' => ∃ c α' Λ', en = .returned c ∧ α.le α' ∧ Sim C α' Λ' h' ls w' ∧ VR α' r c ∧ (∀ a, α a = none → α' a ≠ none → h.next.toNat ≤ a.toNat) ∧ h.next.toNat ≤ h'.next.toNat := by
    intro sv' base n c hnc hs' happ
    have hgr := app_grow (P := P) (w := w) (c := ⟨default, #[], #[ts, ts]⟩) (sc := .slice base n c) (xv := .slice (some ⟨Lv.blk, Lv.base + vo, none⟩) m capV) (n := m) (newc := q.toArray) (t := ts) (t2 := ts) (d2 := .slice el) rfl rfl hc.und (fun _ => by simp) hc.und hie hzv hzl hby (by omega)
      (fun w1 _ => by simp [Builtin.lenOf]) (fun w1 hw1 => by rw [hsz]; exact hqf w1 hw1) ts
    rw [hsz] at hgr
    obtain ⟨c', w', α', Λ', r1, r2, r3, r4, r5, r6⟩ := appTo_sound (P := P) s hxq hql hk hs' happ hgr
    exact (hc.fin _ base n c _ _ m _ w w' c' hm hnc rfl (fun _ => r1)).mono fun e w'' hh => ⟨c', α', Λ', hh.1, r2, hh.2 ▸ r3, r4, r5, r6⟩
  cases sv <;> simp only at hg <;> (try (cases hg; done))
  case no kk =>
    cases kk <;> simp only at hg <;> (try (cases hg; done))
    cases hs
    cases hi0 : Nat.beq i 0 with
    | false => simp [hi0] at hg
    | true =>
    have := Nat.eq_of_beq_eq_true hi0; subst this
    simp only [hi0, cond_true] at hg
    cases hsx : allScalar xs with
    | false => simp [hsx] at hg
    | true =>
    simp only [hsx, cond_true] at hg
    exact fin _ none 0 0 (Nat.le_refl 0) .noSl hg
  case sl a o n c =>
    cases hb1 : Nat.ble i n with
    | false => simp [hb1] at hg
    | true =>
    cases hb2 : Nat.ble (n + m) 1000000000 with
    | false => simp [hb1, hb2] at hg
    | true =>
    cases hb3 : insCap i n m c with
    | false => simp [hb1, hb2, hb3] at hg
    | true =>
    simp only [hb1, hb2, hb3, cond_true] at hg
    have hin := Nat.le_of_ble_eq_true hb1
    have hbig := Nat.le_of_ble_eq_true hb2
    cases hold : h.loadN a (o + i * k) ((n - i) * k) with
    | none => simp [hold] at hg
    | some old =>
    simp only [hold] at hg
    cases hsx : allScalar (xs ++ old) with
    | false => simp [hsx] at hg
    | true =>
    simp only [hsx, cond_true] at hg
    obtain ⟨hsxs, hsold⟩ := allScalar_split hsx
    by_cases hie' : i = n
    · subst hie'
      rw [Nat.sub_self, Nat.zero_mul] at hold
      have := loadN_zero hold; subst this
      rw [Nat.sub_self, Nat.add_zero, List.append_nil] at hg
      cases hs with
      | sl _ _ _ _ L capC hα hn hcap => exact fin _ _ _ _ hn (.sl a o i c L capC hα hn hcap) hg
      | sl0 _ _ _ ad hcap => exact fin _ _ _ _ (Nat.le_refl 0) (.sl0 a o c ad hcap) hg
    have hlt : i < n := by omega
    cases hs with
    | sl0 _ _ _ ad hcap => omega
    | sl _ _ _ _ L capC hα hn hcap =>
    have hpos : 0 < (n - i) * k := Nat.mul_pos (by omega) hk
    obtain ⟨mem, hmem, hlen, hold'⟩ := loadN_pos hold hpos
    have hik : i * k + (n - i) * k = n * k := by rw [← Nat.add_mul]; congr 1; omega
    have hall := loadN_of (h := h) (o := o) (n := n * k) hmem (by omega)
    obtain ⟨cs, c1, c2, c3⟩ := s.cellsN hα hall
    have holdc : VRs α old (cs.drop (i * k)) := by
      have h1 := c2.drop (i * k)
      rw [List.drop_take, List.drop_drop] at h1
      rw [hold', show (n - i) * k = n * k - i * k by omega]
      exact h1
    obtain ⟨vs, v1, v2, v3⟩ := s.cellsN hva (show h.loadN va vo (m * k) = some xs from hsrc)
    have hone1 := one_of_all holdc hsold
    have hone2 := one_of_all v2 hsxs
    have hN : i + (m + (n - i)) = n + m := by omega
    have hdl : (cs.drop (i * k)).length = (n - i) * k := by rw [List.length_drop, c1]; omega
    have hlv : (vs ++ cs.drop (i * k)).length = (m + (n - i)) * k := by rw [List.length_append, v1, hdl, Nat.add_mul]
    have hN0 : Nat.beq (m + (n - i)) 0 = false := by
      cases hq : Nat.beq (m + (n - i)) 0 with
      | false => rfl
      | true => have := Nat.eq_of_beq_eq_true hq; omega
    by_cases hroom : n + m ≤ capC
    · -- in place
      have hbi : Nat.beq i n = false := by
        cases hq : Nat.beq i n with
        | false => rfl
        | true => exact absurd (Nat.eq_of_beq_eq_true hq) hie'
      obtain ⟨hmk, hmul, hga⟩ : L.bm = false ∧ L.base + o + capC * k = L.top ∧ h.get a = some (.cells mem false) := by
        cases c with
        | ex c' =>
          simp only [CapR] at hcap; subst hcap
          simp [insCap, hbi, Nat.ble_eq_true_of_le hroom] at hb3
        | un s' =>
          obtain ⟨hc1, hc2⟩ := hcap
          have hs1 : s' ≠ 1 := by
            intro e; subst e
            simp [insCap, hbi] at hb3
          have hsk : s' = k := by
            cases hq : Nat.beq s' k with
            | true => exact Nat.eq_of_beq_eq_true hq
            | false => simp [appTo, hN0, hq] at hg
          subst hsk
          refine ⟨hc2.resolve_left hs1, hc1, ?_⟩
          unfold Heap.cells at hmem
          cases hga : h.get a with
          | none => simp [hga] at hmem
          | some b =>
            cases b with
            | cells l d =>
              cases d with
              | true => simp [hga] at hmem
              | false => simp [hga] at hmem; rw [hmem]
            | ro l => simp [appTo, hN0, hga] at hg
            | map es c => simp [hga] at hmem
            | loop r => simp [hga] at hmem
            | dfr l => simp [hga] at hmem
      obtain ⟨hΛ, csb, elb, fr, b1, b2, b3, ⟨b4, b5⟩, b6⟩ := s.blkCells hα hga
      obtain ⟨memv, hmemv, hmvl, _⟩ := loadN_pos (show h.loadN va vo (m * k) = some xs from hsrc) (Nat.mul_pos hm hk)
      obtain ⟨hΛv, tA, kA, hshv, hkAl⟩ := s.srcBlk hva hmemv
      have hmk0 : 0 < m * k := Nat.mul_pos hm hk
      have hbne : Lv.blk ≠ L.blk := by
        intro e
        have := s.inj a va L Lv hα hva hΛ hΛv e.symm (s.wr a L _ hα hΛ hga rfl)
        subst this
        have hap2 : (!(Pa.beq _ _)) = true := hap
        rw [(Pa.beq_iff _ _).2 rfl] at hap2
        cases hap2
      have hmulle : (n + m) * k ≤ capC * k := Nat.mul_le_mul_right k hroom
      have hcell : ∀ j, j < (n + m) * k → (w.cell? ⟨L.blk, L.base + o + j, none⟩).isSome = true := fun j hj => by
        have : L.base + o + j < csb.size := by omega
        rw [cell_at b1 (Array.getElem?_eq_getElem this)]; rfl
      have hfz : ∀ j, w.frozen? ⟨L.blk, j, none⟩ = false := fun j => unmarked b1 (b6 hmk)
      have hnm : 0 < (n + m) * k := Nat.mul_pos (by omega) hk
      have hsh : w.shape? L.blk = some (elb, csb.size) := by simp [World.shape?, b1]
      have hsp : i * k + (m + (n - i)) * k = (n + m) * k := by rw [← Nat.add_mul, hN]
      have hst : (storeCells (⟨L.blk, L.base + o + i * k, none⟩ : Addr) (vs ++ cs.drop (i * k))).run P w = .ok () (w.setCells L.blk (L.base + o + i * k) (vs ++ cs.drop (i * k))) :=
        run_storeCells_cells (P := P) L.blk (L.base + o + i * k) (vs ++ cs.drop (i * k)) 0 w
          (fun j hj => by rw [Nat.add_zero, Nat.add_assoc]; exact hcell _ (by omega)) (fun j _ => hfz _)
          (fun v hv => (List.mem_append.1 hv).elim (hone2 v) (hone1 v))
      obtain ⟨run, hrun⟩ : ∃ run : Result Value, run = .ok (.slice (some ⟨L.blk, L.base + o, none⟩) (i + (m + (n - i))) capC) (w.setCells L.blk (L.base + o + i * k) (vs ++ cs.drop (i * k))) := ⟨_, rfl⟩
      have hr : AppRun P w k (m + (n - i)) el (vs ++ cs.drop (i * k)).toArray (.slice (some ⟨L.blk, L.base + o, none⟩) i capC) run := by
        constructor
        · intro base sLen sCap e hle
          cases e
          simp only [add_at]
          rw [hst, hrun]; rfl
        · intro base sLen sCap oldA e hlt' _ _
          cases e
          omega
      obtain ⟨c', w1, α', Λ', r1, r2, r3, r4, r5, r6⟩ := appTo_sound (P := P) s (v2.append holdc) hlv hk (VR.sl a o i c L capC hα (by omega) hcap) hg hr
      rw [hrun] at r1
      cases r1
      rw [hN] at r4
      refine (hc.shift L.blk (L.base + o) n capC i Lv.blk (Lv.base + vo) m capV cs vs w hlt hm hroom hbig hbne c1 v1 c3 hcell (fun j _ => hfz _) v3 hone1 hone2 tA elb kA csb.size hshv hsh (by omega) (by omega) (hfz _)).mono fun e w' hh => ?_
      obtain ⟨rfl, rfl⟩ := hh
      refine ⟨_, α', Λ', rfl, r2, r3.same ?_ ?_, r4, r5, r6⟩
      · rw [setCells_append, ← setCells_comm L.blk (cs.drop (i * k)) (L.base + o + i * k + vs.length) vs (L.base + o + i * k) w (.inr (Nat.le_refl _)), v1]
        rw [show L.base + o + i * k + m * k = L.base + o + (i + m) * k by rw [Nat.add_mul]; omega]
        exact setCells_heap_congr _ _ _ _ _ (setCells_heap_congr _ _ _ _ _ rfl)
      · exact ⟨by simp only [(setCells_still _ _ _ _).1]; rfl, by simp only [(setCells_still _ _ _ _).2]; rfl⟩
    · -- a new row
      refine (hc.grow L.blk (L.base + o) n capC i Lv.blk (Lv.base + vo) m capV cs vs w hlt hm hn (by omega) hbig c1 v1 c3 v3 hone1 hone2).mono fun e w' hh => ?_
      obtain ⟨G, hG, rest, hrest, mid, hmid, rfl, rfl⟩ := hh
      obtain ⟨run, hrun⟩ : ∃ run : Result Value, run = .ok (.slice (some ⟨w.heap.size, 0, none⟩) (i + (m + (n - i))) G) { w with drawn := w.drawn + 1, heap := w.heap.push (.cells ((cs.take (i * k)).toArray ++ (vs ++ cs.drop (i * k)).toArray ++ rest) el) } := ⟨_, rfl⟩
      have hr : AppRun P w k (m + (n - i)) el (vs ++ cs.drop (i * k)).toArray (.slice (some ⟨L.blk, L.base + o, none⟩) i capC) run := by
        constructor
        · intro base sLen sCap e hle
          cases e
          omega
        · intro base sLen sCap oldA e hlt' _ hfc
          cases e
          have hfc2 : (Builtin.firstCells k i (.slice (some ⟨L.blk, L.base + o, none⟩) i capC)).run P { w with drawn := w.drawn + 1 } = .ok (cs.take (i * k)).toArray { w with drawn := w.drawn + 1 } :=
            Go.run_firstCells_some _ k i ⟨L.blk, L.base + o, none⟩ i capC (cs.take (i * k)) (by rw [List.length_take, c1]; omega) (fun j v hj => by
              rw [add_at]
              rw [List.getElem?_take] at hj
              split at hj
              · exact c3 j v hj
              · cases hj)
          rw [hfc2] at hfc
          cases hfc
          exact ⟨G, rest, by omega, by rw [hrest, hN], hrun⟩
      obtain ⟨c', w1, α', Λ', r1, r2, r3, r4, r5, r6⟩ := appTo_sound (P := P) s (v2.append holdc) hlv hk (VR.sl a o i c L capC hα (by omega) hcap) hg hr
      rw [hrun] at r1
      cases r1
      rw [hN] at r4
      refine ⟨_, α', Λ', rfl, r2, r3.same ?_ ?_, r4, r5, r6⟩
      · have hml : mid.toList.length = m * k + (n - i) * k := by rw [Array.length_toList, hmid, ← Nat.add_mul]; congr 1; omega
        have hw0 : ((w.alloc (.cells ((cs.take (i * k)).toArray ++ mid ++ rest) el)).drew).heap = w.heap.push (.cells (cs.take (i * k) ++ mid.toList.take (m * k) ++ (mid.toList.drop (m * k) ++ rest.toList)).toArray el) := by
          show w.heap.push _ = _
          congr 2
          apply Array.ext'
          simp only [Array.toList_append, List.append_assoc]
          rw [← List.append_assoc (mid.toList.take (m * k)), List.take_append_drop]
        have hw1 := setCells_push w.heap el vs (i * k) _ (cs.take (i * k)) (mid.toList.take (m * k)) (mid.toList.drop (m * k) ++ rest.toList) (by rw [List.length_take, c1]; omega) (by rw [List.length_take, hml, v1]; omega) hw0
        have hw2 := setCells_push w.heap el (cs.drop (i * k)) ((i + m) * k) ((((w.alloc (.cells ((cs.take (i * k)).toArray ++ mid ++ rest) el)).drew.setCells w.heap.size (i * k) vs)).drew) (cs.take (i * k) ++ vs) (mid.toList.drop (m * k)) rest.toList
          (by rw [List.length_append, List.length_take, c1, v1, Nat.add_mul]; omega) (by rw [List.length_drop, hml, hdl]; omega)
          (by show ((w.alloc (.cells ((cs.take (i * k)).toArray ++ mid ++ rest) el)).drew.setCells w.heap.size (i * k) vs).heap = _; rw [hw1]; simp only [List.append_assoc])
        rw [hw2]
        show _ = w.heap.push _
        congr 2
        apply Array.ext'
        simp
      · refine ⟨?_, ?_⟩
        · rw [(setCells_still _ _ _ _).1]; show ((w.alloc _).drew.setCells _ _ _).os = _; rw [(setCells_still _ _ _ _).1]; rfl
        · rw [(setCells_still _ _ _ _).2]; show ((w.alloc _).drew.setCells _ _ _).output = _; rw [(setCells_still _ _ _ _).2]; rfl
end Go.Ev

namespace Go.Ev
open Go.RowKit (Below)
variable {C : Cx} {ls : List LE} {α : AM} {Λ : Pa → Prop} {h : Hp} {w : World}

/-- a block that has come behind all that was there, beside others that are forgotten, is given a name -/
theorem Sim.adopt {w' : World} (s : Sim C α Λ h ls w) (hsz : w.heap.size ≤ w'.heap.size) (hlow : ∀ i, i < w.heap.size → w'.heap[i]? = w.heap[i]?) (hst : Still w w') {b : Blk} {L : Loc} (hL : w.heap.size ≤ L.blk)
    (hb : BR C.P (α.put h.next L) ls h.next b L w') : Sim C (α.put h.next L) (fun x => Λ x ∨ x = h.next) (h.alloc b) ls w' := by
  have hnone := s.next_none
  have hle := AM.le_put (α := α) (a := h.next) (L := L) hnone
  have hget : ∀ x, (h.alloc b).get x = if h.next = x then some b else h.get x := fun x => by simp [Heap.alloc, Heap.get, T.get_set]
  have hnx : (h.alloc b).next.toNat = h.next.toNat + 1 := Pa.toNat_succ _
  have old : ∀ x M, (α.put h.next L) x = some M → x ≠ h.next → α x = some M := fun x M hx hxa => by simpa [AM.put, hxa] using hx
  have new : ∀ M, (α.put h.next L) h.next = some M → M = L := fun M hM => by simp [AM.put] at hM; exact hM.symm
  refine ⟨fun x M hx => ?_, fun x M hx hΛx => ?_, fun x y M K hx hy hΛx hΛy e hN' => ?_, fun x M c hx hgx => ?_, fun x M c hx hΛx hgx hr => ?_, fun i hi => ?_, Nat.le_trans s.size hsz, s.still.trans hst, fun x hx => ?_, fun x y hx => ?_⟩
  · rw [hnx]
    by_cases hxn : x = h.next
    · subst hxn; omega
    · exact Nat.lt_succ_of_lt (s.dom x M (old x M hx hxn))
  · by_cases hxn : x = h.next
    · subst hxn; rw [new M hx]; exact ⟨_, by rw [hget]; simp, hb⟩
    · have h1 := hΛx.resolve_right hxn
      obtain ⟨c, h3, h4⟩ := s.blk x M (old x M hx hxn) h1
      exact ⟨c, by rw [hget, if_neg (Ne.symm hxn)]; exact h3, h4.mono hle (fun _ _ h => h) (hlow _ (s.lt (old x M hx hxn) h1))⟩
  · by_cases hxn : x = h.next
    · by_cases hyn : y = h.next
      · rw [hxn, hyn]
      · exfalso
        subst hxn
        rw [new M hx] at e
        have := s.lt (old y K hy hyn) (hΛy.resolve_right hyn)
        omega
    · by_cases hyn : y = h.next
      · exfalso
        subst hyn
        rw [new K hy] at e
        have := s.lt (old x M hx hxn) (hΛx.resolve_right hxn)
        omega
      · exact s.inj x y M K (old x M hx hxn) (old y K hy hyn) (hΛx.resolve_right hxn) (hΛy.resolve_right hyn) e hN'
  · by_cases hxn : x = h.next
    · exact .inl (.inr hxn)
    · rw [hget, if_neg (Ne.symm hxn)] at hgx
      rcases s.live x M c (old x M hx hxn) hgx with h1 | h1
      · exact .inl (.inl h1)
      · exact .inr h1
  · by_cases hxn : x = h.next
    · subst hxn; rw [new M hx]; exact Nat.le_trans s.size hL
    · have h1 := hΛx.resolve_right hxn
      rw [hget, if_neg (Ne.symm hxn)] at hgx
      exact s.wr x M c (old x M hx hxn) h1 hgx hr
  · rw [hlow i (Nat.lt_of_lt_of_le hi s.size)]; exact s.low i hi
  · rw [hnx] at hx
    have e1 : h.next ≠ x := fun e => by subst e; omega
    rw [hget, if_neg e1]
    exact s.fresh x (by omega)
  · rw [hnx]; exact Nat.lt_succ_of_lt (s.lsdom x y hx)

/-- whole numbers alone -/
def isInts : List V → Bool
  | [] => true
  | v :: r => match v with
    | .int _ _ => isInts r
    | _ => false
/-- one row of whole numbers, and where it begins -/
noncomputable def rowIs (l : List V) : Nx → Bool
  | .done v h => match v with
    | .ptr a o => Nat.beq o 0 && (match h.get a with
      | some b => match b with
        | .cells m d => !d && (vEqs m l && isInts l)
        | _ => false
      | none => false)
    | _ => false
  | _ => false

theorem ints_R {α α' : AM} : ∀ {l : List V}, isInts l = true → ∀ (i : Nat) (v : V) (c : Value), l[i]? = some v → VR α v c → VR α' v c
  | [], _, i, v, c, hv, _ => by simp at hv
  | u :: r, hi, i, v, c, hv, hc => by
    cases u <;> simp only [isInts] at hi <;> (try (cases hi; done))
    cases i with
    | zero =>
      simp at hv; subst hv
      cases hc; exact .int _ _
    | succ i => exact ints_R hi i v c (by simpa using hv) hc

/-- a function without arguments that makes one row of numbers, as it has been run -/
theorem row_ok {P : Program} (hN : namesOk P = true) {n f : Nat} {l : List V} (hrun : rowIs l (runFn P n f []) = true) : IntrOk P f (rowI l) := by
  intro C α Λ h ls w args cargs v h' hC s ha hg
  cases ha with
  | cons => cases hg
  | nil =>
  simp only [rowI, Option.some.injEq, Prod.mk.injEq] at hg
  obtain ⟨rfl, rfl⟩ := hg
  intro cs0
  cases hc : cFn P f with
  | none => simp [runFn, hc, rowIs] at hrun
  | some fn =>
    let C0 : Cx := ⟨P, w, w.heap.size⟩
    have s0 : Sim C0 (fun _ => none) (fun _ => False) startH [] w := by
      have no : ∀ (a : Pa) (L : Loc), (fun _ => none : AM) a = some L → False := fun a L h => by cases h
      exact { dom := fun a L h => (no a L h).elim, blk := fun a L h => (no a L h).elim, inj := fun a _ L _ h => (no a L h).elim, live := fun a L _ h => (no a L h).elim, wr := fun a L _ h => (no a L h).elim,
              low := fun i _ => rfl, size := Nat.le_refl _, still := Still.refl w, fresh := fun a _ => by (show T.E.get a = none); cases a <;> rfl, lsdom := fun a x h => by (simp [findLE] at h) }
    have hen := enter_R (C := C0) (α := fun _ => none) (h := startH) (m := 0) (f := f) hc (args := []) (cargs := []) .nil false
    have hrel : Rel C0 cs0 f (enter fn f [] false) [] startH [] (lone (Frame.enter P f #[] .normal) cs0 w) :=
      ⟨_, _, w, 0, _, _, rfl, s0, Nat.zero_le _, hen.1, by rw [hen.2.1, hen.2.2]; exact .nil 0⟩
    have hres := run_R (C := C0) (cs0 := cs0) (f0 := f) (fun i => (cFn P i).map .code) (plan_ok P) (fOk_code P) (namesOk_ok hN) n hrel
    have e0 : runFn P n f [] = run (fun i => (cFn P i).map .code) n (enter fn f [] false) [] startH [] := by unfold runFn; rw [hc]
    rw [e0] at hrun
    generalize run (fun i => (cFn P i).map .code) n (enter fn f [] false) [] startH [] = r at hrun hres
    cases r with
    | go => simp [rowIs] at hrun
    | bad => simp [rowIs] at hrun
    | done v0 h0 =>
      simp only [rowIs] at hrun
      cases v0 <;> simp only at hrun <;> (try (cases hrun; done))
      rename_i a o
      rw [Bool.and_eq_true] at hrun
      obtain ⟨ho, hrun⟩ := hrun
      have := Nat.eq_of_beq_eq_true ho; subst this
      cases hga : h0.get a with
      | none => simp [hga] at hrun
      | some b =>
      simp only [hga] at hrun
      cases b <;> simp only at hrun <;> (try (cases hrun; done))
      rename_i m d
      rw [Bool.and_eq_true, Bool.and_eq_true] at hrun
      obtain ⟨hd, hm, hi⟩ := hrun
      have := vEqs_eq hm; subst this
      cases d with
      | true => cases hd
      | false =>
      obtain ⟨cfr, w', c, α', Λ', ls', h1, h2, h3, h4, h5⟩ := hres
      cases h5 with
      | ptr _ _ L hα =>
      obtain ⟨hΛ, cs, el, fr, k1, k2, k3, k4, k5⟩ := h4.blkCells hα hga
      have hLb : w.heap.size ≤ L.blk := h4.wr a L _ hα hΛ hga rfl
      refine ⟨.returned (.pointer (some ⟨L.blk, L.base + 0, none⟩)), w', cfr, ⟨_, α.put h.next L, _, rfl, AM.le_put s.next_none, s.adopt (b := .cells m false) (L := L) h4.size (fun i hi => h4.low i hi) h4.still hLb ?_, .ptr h.next 0 L (AM.put_self _ _ _), ?_, ?_⟩, h1, h2, h3⟩
      · exact ⟨cs, el, fr, k1, k2, k3, ⟨k4.1, fun i v hv => let ⟨c, g1, g2⟩ := k4.2 i v hv; ⟨c, g1, ints_R hi i v c hv g2⟩⟩, k5⟩
      · intro x h1 h2
        by_cases hn : x = h.next
        · subst hn; exact Nat.le_refl _
        · exact absurd (by simp [AM.put, hn, h1]) h2
      · show _ ≤ h.next.succ.toNat; rw [Pa.toNat_succ]; omega

/-! ## texts -/
theorem cntB_eq (c : UInt8) (l : List UInt8) : cntB c l = Go.Lib.countByte l c := by
  unfold Go.Lib.countByte
  induction l with
  | nil => rfl
  | cons a l ih =>
    simp only [cntB, List.count_cons]
    by_cases hac : a = c
    · subst hac; simp [ih]
    · have : Nat.beq a.toNat c.toNat = false := by
        cases hb : Nat.beq a.toNat c.toNat with
        | false => rfl
        | true => exact absurd (UInt8.toNat_inj.1 (Nat.eq_of_beq_eq_true hb)) hac
      simp [this, ih, hac]
theorem idxB_eq (c : UInt8) (l : List UInt8) : Go.Lib.indexByte l c = match idxB c l with | some i => (Int.ofNat i) | none => .negSucc 0 := by
  induction l with
  | nil => rfl
  | cons a l ih =>
    simp only [idxB, Go.Lib.indexByte]
    by_cases hac : a = c
    · subst hac; simp
    · have h1 : Nat.beq a.toNat c.toNat = false := by
        cases hb : Nat.beq a.toNat c.toNat with
        | false => rfl
        | true => exact absurd (UInt8.toNat_inj.1 (Nat.eq_of_beq_eq_true hb)) hac
      have h2 : (a == c) = false := by simpa using hac
      rw [h1, h2, ih]
      cases idxB c l with
      | none => simp
      | some i =>
        simp only [cond_false, Bool.false_eq_true, if_false]
        have : (Int.ofNat i == -1) = false := by simp
        rw [this]; simp

theorem twoS_R {args : List V} {cargs : List Value} (ha : VRs α args cargs) {s : List UInt8} {c : UInt8} (h : twoS args = some (s, c)) :
    ∃ b : ByteArray, cargs = [.string b, .string ⟨#[c]⟩] ∧ b.data.toList = s := by
  cases ha with
  | nil => cases h
  | cons x cx r cr hx hr =>
    simp only [twoS] at h
    cases hx <;> simp only at h <;> (try (cases h; done))
    rename_i b
    cases hr with
    | nil => cases h
    | cons y cy r cr hy hr =>
      cases hr with
      | cons => cases h
      | nil =>
        simp only at h
        cases hy <;> simp only at h <;> (try (cases h; done))
        rename_i t
        obtain ⟨⟨t⟩⟩ := t
        cases t with
        | nil => cases h
        | cons d t => cases t with
          | nil => simp only [Option.some.injEq, Prod.mk.injEq] at h; obtain ⟨rfl, rfl⟩ := h; exact ⟨b, rfl, rfl⟩
          | cons _ _ => cases h

theorem cnt_ok {P : Program} {f : Nat} (hc : ∀ (s : ByteArray) (c : UInt8) (w : World), Calls P f #[.string s, .string ⟨#[c]⟩] w fun e w' => e = .returned (.int .i64 (Go.Lib.countByte s.data.toList c)) ∧ w' = w) : IntrOk P f cntI := by
  intro C α Λ h ls w args cargs v h' hC s ha hg
  unfold cntI at hg
  cases ht : twoS args with
  | none => rw [ht] at hg; cases hg
  | some p =>
    obtain ⟨l, c⟩ := p
    rw [ht] at hg
    simp only [Option.some.injEq, Prod.mk.injEq] at hg
    obtain ⟨rfl, rfl⟩ := hg
    obtain ⟨b, rfl, hb⟩ := twoS_R ha ht
    refine (hc b c w).mono fun e w' hh => ?_
    obtain ⟨rfl, rfl⟩ := hh
    rw [hb, ← cntB_eq]
    exact ⟨_, α, Λ, rfl, AM.le_refl α, s, .int .i64 _, fun a h1 h2 => absurd h1 h2, Nat.le_refl _⟩

theorem idx_ok {P : Program} {f : Nat} (hc : ∀ (s : ByteArray) (c : UInt8) (w : World), Calls P f #[.string s, .string ⟨#[c]⟩] w fun e w' => e = .returned (.int .i64 (Go.Lib.indexByte s.data.toList c)) ∧ w' = w) : IntrOk P f idxI := by
  intro C α Λ h ls w args cargs v h' hC s ha hg
  unfold idxI at hg
  cases ht : twoS args with
  | none => rw [ht] at hg; cases hg
  | some p =>
    obtain ⟨l, c⟩ := p
    rw [ht] at hg
    obtain ⟨b, rfl, hb⟩ := twoS_R ha ht
    have key : v = .int .i64 (Go.Lib.indexByte l c) ∧ h' = h := by
      rw [idxB_eq]
      simp only at hg
      cases hi : idxB c l with
      | none => rw [hi] at hg; simp only [Option.some.injEq, Prod.mk.injEq] at hg; exact ⟨hg.1.symm, hg.2.symm⟩
      | some i => rw [hi] at hg; simp only [Option.some.injEq, Prod.mk.injEq] at hg; exact ⟨hg.1.symm, hg.2.symm⟩
    obtain ⟨rfl, rfl⟩ := key
    refine (hc b c w).mono fun e w' hh => ?_
    obtain ⟨rfl, rfl⟩ := hh
    rw [hb]
    exact ⟨_, α, Λ, rfl, AM.le_refl α, s, .int .i64 _, fun a h1 h2 => absurd h1 h2, Nat.le_refl _⟩

theorem joinB_eq (sep : List UInt8) : ∀ l : List (List UInt8), joinB sep l = Go.Lib.join l sep
  | [] => rfl
  | [x] => by simp [joinB, Go.Lib.join, List.intercalate]
  | x :: y :: r => by
    have ih := joinB_eq sep (y :: r)
    have h1 : joinB sep (x :: y :: r) = x ++ (sep ++ joinB sep (y :: r)) := rfl
    rw [h1, ih, Go.Lib.join_cons, Go.Lib.join_cons]
    simp [Go.Lib.joinTail]

theorem strs_R : ∀ {l : List V} {cs : List Value} {ss : List (List UInt8)}, VRs α l cs → strsOf l = some ss → ∃ bs : List ByteArray, cs = bs.map Value.string ∧ bs.map (·.data.toList) = ss
  | [], _, ss, hl, hs => by cases hl; simp [strsOf] at hs; subst hs; exact ⟨[], rfl, rfl⟩
  | v :: l, _, ss, .cons _ c _ cs hc hcs, hs => by
    simp only [strsOf] at hs
    cases v <;> simp only at hs <;> (try (cases hs; done))
    rename_i x
    cases hr : strsOf l with
    | none => simp [hr] at hs
    | some t =>
      simp only [hr, Option.some.injEq] at hs; subst hs
      obtain ⟨bs, rfl, h2⟩ := strs_R hcs hr
      generalize hv : V.str x = u at hc
      cases hc <;> cases hv
      rename_i b
      exact ⟨b :: bs, rfl, by simp [h2]⟩

theorem join_ok {P : Program} {f : Nat} (h0 : ∀ (a : Option Addr) (c : Nat) (sep : ByteArray) (w : World), Calls P f #[.slice a 0 c, .string sep] w fun e w' => e = .returned (.string ⟨#[]⟩) ∧ w' = w)
    (hj : ∀ (bk o c : Nat) (xs : List ByteArray) (sep : ByteArray) (w : World), (∀ (j : Nat) x, xs[j]? = some x → w.cell? ⟨bk, o + j, none⟩ = some (.string x)) → bk < w.heap.size → xs.length ≤ 140737488355328 → xs.length ≤ c →
      (Go.Lib.join (xs.map (·.data.toList)) sep.data.toList).length ≤ 140737488355328 →
      Calls P f #[.slice (some ⟨bk, o, none⟩) xs.length c, .string sep] w fun e w' => e = .returned (.string ⟨(Go.Lib.join (xs.map (·.data.toList)) sep.data.toList).toArray⟩) ∧ Below w.heap.size w w') : IntrOk P f joinI := by
  intro C α Λ h ls w args cargs r h' hC s ha hg
  have none_ : ∀ (a : Option Addr) (c : Nat) (sep : ByteArray), Calls P f #[.slice a 0 c, .string sep] w fun en w' => ∃ c α' Λ', en = .returned c ∧ α.le α' ∧ Sim C α' Λ' h ls w' ∧ VR α' (.str []) c ∧ (∀ a, α a = none → α' a ≠ none → h.next.toNat ≤ a.toNat) ∧ h.next.toNat ≤ h.next.toNat := by
    intro a c sep
    refine (h0 a c sep w).mono fun e w' hh => ?_
    obtain ⟨rfl, rfl⟩ := hh
    exact ⟨_, α, Λ, rfl, AM.le_refl α, s, .str (⟨#[]⟩ : ByteArray), fun a h1 h2 => absurd h1 h2, Nat.le_refl _⟩
  cases ha with
  | nil => cases hg
  | cons x cx r1 cr hx hr =>
    cases hr with
    | nil => cases hg
    | cons y cy r2 cr2 hy hr =>
      cases hr with
      | cons => cases hg
      | nil =>
        simp only [joinI] at hg
        cases y <;> simp only at hg <;> (try (cases hg; done))
        rename_i sp
        generalize hu : V.str sp = u at hy
        cases hy <;> cases hu
        rename_i sep
        cases x <;> simp only at hg <;> (try (cases hg; done))
        · rename_i a o n cp
          cases hl : h.loadN a o n with
          | none => simp [hl] at hg
          | some l =>
          simp only [hl] at hg
          cases hs : strsOf l with
          | none => simp [hs] at hg
          | some ss =>
          simp only [hs] at hg
          cases hb1 : Nat.ble n 140737488355328 with
          | false => simp [hb1] at hg
          | true =>
          cases hb2 : Nat.ble (joinB sep.data.toList ss).length 140737488355328 with
          | false => simp [hb1, hb2] at hg
          | true =>
          simp only [hb1, hb2, cond_true, Option.some.injEq, Prod.mk.injEq] at hg
          obtain ⟨rfl, rfl⟩ := hg
          cases hx with
          | sl0 _ _ _ ad _ =>
            have := loadN_zero hl; subst this
            simp [strsOf] at hs; subst hs
            exact none_ _ _ _
          | sl _ _ _ _ L capC hα hn hcap =>
            obtain ⟨cs, c1, c2, c3⟩ := s.cellsN hα hl
            obtain ⟨bs, rfl, hbs⟩ := strs_R c2 hs
            have hlen : bs.length = n := by simpa using c1
            by_cases hn0 : n = 0
            · subst hn0
              have : bs = [] := List.eq_nil_of_length_eq_zero hlen
              subst this
              simp at hbs; subst hbs
              exact none_ _ _ _
            have hbk : L.blk < w.heap.size := by
              obtain ⟨m, hm, _, _⟩ := loadN_pos hl (by omega)
              obtain ⟨hΛ, _⟩ := s.srcBlk hα hm
              exact s.lt hα hΛ
            have := hj L.blk (L.base + o) capC bs sep w (fun j x hx => c3 j _ (by simp [hx])) hbk (by rw [hlen]; exact Nat.le_of_ble_eq_true hb1) (by omega) (by rw [hbs, ← joinB_eq]; exact Nat.le_of_ble_eq_true hb2)
            rw [hlen] at this
            refine this.mono fun e w' hh => ?_
            obtain ⟨rfl, hbel⟩ := hh
            refine ⟨_, α, Λ, rfl, AM.le_refl α, s.below hbel, ?_, fun a h1 h2 => absurd h1 h2, Nat.le_refl _⟩
            rw [hbs, joinB_eq]
            exact VR.str (α := α) (⟨(Go.Lib.join ss sep.data.toList).toArray⟩ : ByteArray)
        · rename_i k
          cases k <;> simp only at hg <;> (try (cases hg; done))
          simp only [Option.some.injEq, Prod.mk.injEq] at hg
          obtain ⟨rfl, rfl⟩ := hg
          cases hx
          exact none_ _ _ _
end Go.Ev
