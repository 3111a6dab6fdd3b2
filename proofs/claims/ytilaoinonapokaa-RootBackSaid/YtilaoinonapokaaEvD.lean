/- A program of this law is run by an evaluator that is proved right: operations that turn memory. It holds for every program of the model. -/
import Derived.Test.YtilaoinonapokaaEvC
namespace Go.Ev
variable {C : Cx} {α : AM} {Λ : Pa → Prop} {h : Hp} {ls : List LE} {w : World} {e : T V} {ρ : Operand → Value}
variable {P : Program} {o : Oper}

def NextR (n : Next) (c : Value) : Prop := n = .value c ∨ (n = .skip ∧ c = undef)

/-- an operation that turns memory turns the world's too -/
def StOk (P : Program) (o : Oper) (f : T V → Hp → Option (V × Hp)) : Prop :=
  ∀ (C : Cx) (α : AM) (Λ : Pa → Prop) (h : Hp) (ls : List LE) (w : World) (e : T V) (ρ : Operand → Value) (v : V) (h' : Hp), C.P = P → Sim C α Λ h ls w → OdR α e ρ → f e h = some (v, h') →
    ∃ n c w' α' Λ', (execOp ρ o).run P w = .ok n w' ∧ NextR n c ∧ α.le α' ∧ Sim C α' Λ' h' ls w' ∧ VR α' v c ∧
      (∀ a, α a = none → α' a ≠ none → h.next.toNat ≤ a.toNat) ∧ h.next.toNat ≤ h'.next.toNat

/-! ## stores -/
theorem one_of {v : V} {c : Value} (h : VR α v c) (hs : isScalar v = true) : c.oneCell' = true := by
  cases h <;> first | rfl | (simp [isScalar] at hs; done)

theorem setCell_get (w : World) (b off : Nat) (v : Value) {cs : Array Value} {el : TypeId} {fr : Nat × Nat} (hb : w.heap[b]? = some (.cells cs el fr)) :
    (w.setCell ⟨b, off, none⟩ v).heap[b]? = some (.cells (cs.setIfInBounds off v) el fr) ∧ Turned w (w.setCell ⟨b, off, none⟩ v) b := by
  unfold World.setCell
  refine ⟨by simp only [Array.getElem?_modify, hb, if_true]; simp, by simp, fun i hi => ?_, rfl, rfl⟩
  simp only [Array.getElem?_modify]
  rw [if_neg (fun e => hi e.symm)]

theorem not_frozen {w : World} {b off : Nat} {cs : Array Value} {el : TypeId} {fr : Nat × Nat} (hb : w.heap[b]? = some (.cells cs el fr)) (hq : quietAt cs.size fr) (ho : off < cs.size) :
    w.frozen? ⟨b, off, none⟩ = false := by
  obtain ⟨lo, hi⟩ := fr
  simp only [World.frozen?, hb]
  rcases hq with h1 | h1
  · simp only at h1
    rw [Bool.and_eq_false_iff]
    by_cases h2 : lo ≤ off
    · exact .inr (decide_eq_false (by omega))
    · exact .inl (decide_eq_false h2)
  · simp only at h1
    rw [Bool.and_eq_false_iff]
    exact .inl (decide_eq_false (by omega))

theorem run_stores (b base : Nat) (el : TypeId) (fr : Nat × Nat) : ∀ (xs : List V) (xc : List Value) (i : Nat) (w : World) (cs : Array Value), VRs α xs xc → allScalar xs = true →
    w.heap[b]? = some (.cells cs el fr) → quietAt cs.size fr → base + i + xc.length ≤ cs.size →
    ∃ w' cs', (storeCells ⟨b, base, none⟩ xc i).run P w = .ok () w' ∧ w'.heap[b]? = some (.cells cs' el fr) ∧ Turned w w' b ∧ cs'.size = cs.size ∧
      ∀ j : Nat, cs'[j]? = if base + i ≤ j ∧ j < base + i + xc.length then xc[j - (base + i)]? else cs[j]?
  | [], xc, i, w, cs, hx, hs, hb, hq, hl => by
    cases hx
    refine ⟨w, cs, rfl, hb, .refl _ _, rfl, fun j => ?_⟩
    rw [if_neg (by simp)]
  | v :: xs, _, i, w, cs, .cons _ c _ xc hv hvs, hs, hb, hq, hl => by
    simp only [allScalar] at hs
    cases hsv : isScalar v with
    | false => simp [hsv] at hs
    | true =>
      simp only [hsv, cond_true] at hs
      simp only [List.length_cons] at hl
      have hin : base + i < cs.size := by omega
      obtain ⟨s1, s2⟩ := setCell_get w b (base + i) c hb
      have hcell : ∃ u, w.cell? ⟨b, base + i, none⟩ = some u := ⟨cs[base + i], cell_at hb (by simp [hin])⟩
      obtain ⟨u, hu⟩ := hcell
      obtain ⟨w', cs', r1, r2, r3, r4, r5⟩ := run_stores b base el fr xs xc (i + 1) _ _ hvs hs s1 (by simpa using hq) (by simp; omega)
      refine ⟨w', cs', ?_, r2, s2.trans r3, by simpa using r4, fun j => ?_⟩
      · simp only [storeCells, Sem.run_bind, add_at, run_store P w _ c _ (one_of hv hsv), hu, not_frozen hb hq hin, Bool.false_eq_true, if_false, Result.andThen_ok, r1]
      · rw [r5 j]
        by_cases h1 : base + (i + 1) ≤ j ∧ j < base + (i + 1) + xc.length
        · rw [if_pos h1, if_pos (by simp; omega)]
          have : j - (base + i) = (j - (base + (i + 1))) + 1 := by omega
          rw [this]; simp
        · rw [if_neg h1]
          by_cases h2 : j = base + i
          · subst h2
            rw [if_pos (by simp), Array.getElem?_setIfInBounds_self_of_lt hin]
            simp
          · rw [if_neg (by simp; omega), Array.getElem?_setIfInBounds_ne (by omega)]

/-- a store into a block of cells that may be written -/
theorem Sim.storeN (s : Sim C α Λ h ls w) {a : Pa} {L : Loc} (ha : α a = some L) {off : Nat} {xs : List V} {xc : List Value} {h' : Hp} (hx : VRs α xs xc) (hst : h.storeN a off xs = some h') :
    ∃ w', (storeCells ⟨L.blk, L.base + off, none⟩ xc).run P w = .ok () w' ∧ Sim C α Λ h' ls w' ∧ h'.next = h.next := by
  unfold Heap.storeN at hst
  cases hg : h.get a with
  | none => simp [hg] at hst
  | some b =>
    cases b with
    | cells l d =>
      simp only [hg] at hst
      cases d with
      | true => simp at hst
      | false =>
        simp only [cond_false] at hst
        cases hs : allScalar xs with
        | false => simp [hs] at hst
        | true =>
          simp only [hs, cond_true] at hst
          cases hsp : splice off l xs with
          | none => simp [hsp] at hst
          | some l' =>
            simp only [hsp, Option.some.injEq] at hst; subst hst
            have hΛ : Λ a := by
              rcases s.live a L _ ha hg with h1 | ⟨m, h1⟩
              · exact h1
              · cases h1
            obtain ⟨b', h1, h2⟩ := s.blk a L ha hΛ
            rw [hg] at h1; cases h1
            obtain ⟨cs, el, fr, k1, k2, k3, ⟨k4, k5⟩, km⟩ := h2
            obtain ⟨g1, g2⟩ := splice_eq hsp
            have hlen := hx.length
            obtain ⟨w', cs', r1, r2, r3, r4, r5⟩ := run_stores (P := P) L.blk (L.base + off) el fr xs xc 0 w cs hx hs k1 k3 (by omega)
            refine ⟨w', r1, s.turn ha hΛ hg rfl rfl r3 ⟨cs', el, fr, r2, by omega, by rw [r4]; exact k3, ?_, km⟩, rfl⟩
            have hl' : l'.length = l.length := by rw [g2]; simp; omega
            refine ⟨by omega, fun i v hv => ?_⟩
            rw [r5]
            rw [g2] at hv
            have hi : i < l.length := by
              have := (List.getElem?_eq_some_iff.1 hv).1
              rw [← g2, hl'] at this; exact this
            by_cases c1 : i < off
            · rw [if_neg (by omega)]
              rw [List.append_assoc, List.getElem?_append_left (by simp; omega), List.getElem?_take_of_lt c1] at hv
              exact k5 i v hv
            · by_cases c2 : i < off + xs.length
              · rw [if_pos (by omega)]
                rw [List.append_assoc, List.getElem?_append_right (by simp; omega), List.getElem?_append_left (by simp; omega)] at hv
                have e1 : i - (l.take off).length = i - off := by simp; omega
                rw [e1] at hv
                have e2 : L.base + i - (L.base + off + 0) = i - off := by omega
                rw [e2]
                exact hx.get hv
              · rw [if_neg (by omega)]
                rw [List.getElem?_append_right (by simp; omega), List.getElem?_drop] at hv
                have e1 : off + xs.length + (i - (List.take off l ++ xs).length) = i := by simp; omega
                rw [e1] at hv
                exact k5 i v hv
    | ro l => simp [hg] at hst
    | map es c => simp [hg] at hst
    | loop r => simp [hg] at hst
    | dfr l => simp [hg] at hst

/-- a store of nothing -/
theorem storeNone_eq {a : Pa} {off : Nat} {h' : Hp} (hst : h.storeN a off [] = some h') : ∃ l, h.get a = some (.cells l false) ∧ h' = h.put a (.cells l false) := by
  unfold Heap.storeN at hst
  cases hg : h.get a with
  | none => simp [hg] at hst
  | some b =>
    cases b <;> simp only [hg] at hst <;> (try (cases hst; done))
    rename_i l d
    cases d <;> simp [allScalar] at hst
    cases hsp : splice off l [] with
    | none => simp [hsp] at hst
    | some l' =>
      simp only [hsp, Option.some.injEq] at hst
      obtain ⟨_, g2⟩ := splice_eq hsp
      refine ⟨l, rfl, ?_⟩
      rw [← hst, g2]; simp
theorem storeNone_next {a : Pa} {off : Nat} {h' : Hp} (hst : h.storeN a off [] = some h') : h'.next = h.next := by
  obtain ⟨l, _, rfl⟩ := storeNone_eq hst; rfl

/-- what a block is, said again, or said to be dead -/
theorem Sim.again (s : Sim C α Λ h ls w) {a : Pa} {l : List V} {d : Bool} (hg : h.get a = some (.cells l false)) : Sim C α Λ (h.put a (.cells l d)) ls w := by
  have hget : ∀ x, (h.put a (.cells l d)).get x = if a = x then some (.cells l d) else h.get x := fun x => by simp [Heap.put, Heap.get, T.get_set]
  refine ⟨s.dom, fun x M hx hΛx => ?_, s.inj, fun x M c hx hgx => ?_, fun x M c hx hΛx hgx hr => ?_, s.low, s.size, s.still, fun x hx => ?_, s.lsdom⟩
  · obtain ⟨c, h1, h2⟩ := s.blk x M hx hΛx
    by_cases hxa : a = x
    · subst hxa
      rw [hg] at h1; cases h1
      exact ⟨.cells l d, by rw [hget]; simp, h2⟩
    · exact ⟨c, by rw [hget]; simp [hxa, h1], h2⟩
  · by_cases hxa : a = x
    · subst hxa
      rcases s.live a M _ hx hg with h1 | ⟨m, h1⟩
      · exact .inl h1
      · cases h1
    · rw [hget] at hgx; simp only [hxa, if_false] at hgx; exact s.live x M c hx hgx
  · by_cases hxa : a = x
    · subst hxa
      exact s.wr a M _ hx hΛx hg rfl
    · rw [hget] at hgx; simp only [hxa, if_false] at hgx; exact s.wr x M c hx hΛx hgx hr
  · rw [hget]
    by_cases hxa : a = x
    · subst hxa; rw [s.fresh a hx] at hg; cases hg
    · simp only [hxa, if_false]; exact s.fresh x hx
theorem Sim.storeNone (s : Sim C α Λ h ls w) {a : Pa} {off : Nat} {h' : Hp} (hst : h.storeN a off [] = some h') : Sim C α Λ h' ls w := by
  obtain ⟨l, hg, rfl⟩ := storeNone_eq hst
  exact s.again hg

theorem allScalar_of_store {a : Pa} {off : Nat} {xs : List V} {h' : Hp} (hst : h.storeN a off xs = some h') : allScalar xs = true := by
  unfold Heap.storeN at hst
  cases hg : h.get a with
  | none => simp [hg] at hst
  | some b =>
    cases b <;> simp only [hg] at hst <;> (try (cases hst; done))
    rename_i l d
    cases d <;> simp at hst
    cases hs : allScalar xs with
    | false => simp [hs] at hst
    | true => rfl

theorem undef_R (α : AM) : VR α undefV undef := .tup [] [] .nil

theorem st_store {t : TypeId} {a x : Operand} {n : Nat} (ho : o.op = .store t a x) (hn : sizeT P t = some n) :
    StOk P o fun e h => match (cO a).ev e with
      | .ptr b off => bif Nat.beq ((cO x).ev e).cells.length n then oH undefV (h.storeN b off ((cO x).ev e).cells) else none
      | _ => none := by
  intro C α Λ h ls w e ρ v h' hC s hρ hv
  dsimp only at hv
  obtain ⟨i, hi, hin⟩ := sizeT_some hn
  have hx := hρ a
  generalize (cO a).ev e = p at hx hv
  cases p <;> simp only at hv <;> (try (cases hv; done))
  rename_i b off
  cases hb : Nat.beq ((cO x).ev e).cells.length n with
  | false => simp [hb] at hv
  | true =>
    simp only [hb, cond_true] at hv
    cases hst : h.storeN b off ((cO x).ev e).cells with
    | none => simp [hst, oH] at hv
    | some h1 =>
      simp only [hst, oH, Option.some.injEq, Prod.mk.injEq] at hv
      obtain ⟨rfl, rfl⟩ := hv
      have hcr := cells_R (hρ x) (allScalar_of_store hst)
      have hnl := Nat.eq_of_beq_eq_true hb
      generalize hc : ρ a = d at hx
      cases hx with
      | ptr _ _ L ha =>
        obtain ⟨w', r1, r2, r3⟩ := s.storeN (P := P) ha hcr hst
        refine ⟨.skip, undef, w', α, Λ, ?_, .inr ⟨rfl, rfl⟩, AM.le_refl α, r2, undef_R α, fun a h1 h2 => absurd h1 h2, by rw [r3]; exact Nat.le_refl _⟩
        simp only [execOp, ho, hc]
        refine r_unit ?_
        have hne : ¬ ((ρ x).cells.size ≠ i.size) := by
          have h1 := hcr.length
          have h2 : (ρ x).cells.size = (ρ x).cells.toList.length := by simp
          omega
        simp only [Instr.storeAt, Instr.sureAddr, Sem.run_bind, Sem.run_pure, Result.andThen_ok, storeVar, r_size hi, if_neg hne, r1]

/-! ## what is appended, or copied -/
theorem srcLen_sound {x : V} {c : Value} (hx : VR α x c) {n : Nat} (hn : srcLen x = some n) : (Builtin.lenOf c).run P w = .ok n w := by
  cases x <;> simp only [srcLen] at hn <;> (try (cases hn; done))
  · rename_i s
    cases hn
    cases hx with
    | str s => rw [len_data]; rfl
  · cases hn
    cases hx <;> rfl
  · rename_i k
    cases k <;> simp only at hn <;> (try (cases hn; done))
    cases hn
    cases hx; rfl

theorem srcN_sounds (s : Sim C α Λ h ls w) {x : V} {c : Value} (hx : VR α x c) {esz n : Nat} {xs : List V} (hs : srcN h esz n x = some xs) (hn : ∀ a o m cp, x = .sl a o m cp → n ≤ m) :
    ∃ xc : List Value, VRs α xs xc ∧ xc.length = n * esz ∧ ∀ w1 : World, w1.heap = w.heap → (Builtin.firstCells esz n c).run P w1 = .ok xc.toArray w1 := by
  cases x <;> simp only [srcN] at hs <;> (try (cases hs; done))
  · rename_i l
    cases hb : Nat.beq esz 1 with
    | false => simp [hb] at hs
    | true =>
      have := Nat.eq_of_beq_eq_true hb; subst this
      simp only [hb, cond_true] at hs
      cases hx with
      | str s =>
        cases ht : takeN n s.data.toList with
        | none => simp [ht] at hs
        | some r =>
          simp only [ht, Option.some.injEq] at hs; subst hs
          obtain ⟨h1, h2⟩ := takeN_eq ht
          refine ⟨((s.extract 0 n).data.map fun b => .int .u8 b.toNat).toList, ?_, ?_, fun w1 _ => ?_⟩
          · have : (s.extract 0 n).data.toList = r := by rw [extract_list, h2]; simp
            rw [Array.toList_map, this]
            clear h2 this ht h1
            induction r with
            | nil => exact .nil
            | cons b r ih => exact .cons _ _ _ _ (.int _ _) ih
          · have : (s.extract 0 n).data.toList = r := by rw [extract_list, h2]; simp
            rw [Array.toList_map, this, h2]; simp; rw [len_data] at h1; omega
          · rw [Array.toArray_toList]; rfl
  · rename_i a o m cp
    cases hx with
    | sl _ _ _ _ L capC ha h1 h2 =>
      obtain ⟨cs, k1, k2, k3⟩ := s.loadNs (P := P) ha hs
      exact ⟨cs, k2, k1, k3⟩
    | sl0 _ _ _ ad hc =>
      have : n = 0 := Nat.le_zero.1 (hn a o 0 cp rfl)
      subst this
      have hl0 : xs = [] := by
        unfold Heap.loadN at hs
        cases hcl : h.cells a with
        | none => simp [hcl] at hs
        | some m => simp [hcl, takeN] at hs; exact hs
      subst hl0
      exact ⟨[], .nil, by simp, fun w1 _ => by simp [Builtin.firstCells, loadCells, loadCellsFrom]⟩
  · rename_i k
    cases k <;> simp only at hs <;> (try (cases hs; done))
    cases hb : Nat.beq n 0 with
    | false => simp [hb] at hs
    | true =>
      have := Nat.eq_of_beq_eq_true hb; subst this
      simp only [hb, cond_true, Option.some.injEq] at hs; subst hs
      cases hx
      exact ⟨[], .nil, by simp, fun w1 _ => by simp [Builtin.firstCells]⟩
theorem srcN_sound (s : Sim C α Λ h ls w) {x : V} {c : Value} (hx : VR α x c) {esz n : Nat} {xs : List V} (hs : srcN h esz n x = some xs) (hn : ∀ a o m cp, x = .sl a o m cp → n ≤ m) :
    ∃ xc : List Value, VRs α xs xc ∧ xc.length = n * esz ∧ (Builtin.firstCells esz n c).run P w = .ok xc.toArray w :=
  let ⟨xc, h1, h2, h3⟩ := srcN_sounds (P := P) s hx hs hn
  ⟨xc, h1, h2, h3 w rfl⟩

theorem first0 {x : V} {c : Value} {esz k : Nat} (hx : VR α x c) (hk : srcLen x = some k) : (Builtin.firstCells esz 0 c).run P w = .ok #[] w := by
  cases x <;> simp only [srcLen] at hk <;> (try (cases hk; done))
  · cases hx with
    | str s =>
      have : (s.extract 0 0).data.toList = [] := by rw [extract_list]; simp
      have h2 : (s.extract 0 0).data = #[] := by rw [← Array.toArray_toList (xs := (s.extract 0 0).data), this]
      simp only [Builtin.firstCells, h2]; simp
  · cases hx <;> simp [Builtin.firstCells, loadCells, loadCellsFrom]
  · rename_i q
    cases q <;> simp only at hk <;> (try (cases hk; done))
    cases hx; simp [Builtin.firstCells]

theorem args2 {c : Call} {y z : Operand} (ha : c.args.toList = [y, z]) : c.args = #[y, z] := by
  rw [← Array.toArray_toList (xs := c.args), ha]

theorem elemOf_some {t : TypeId} {i : TypeInfo} (h : elemOf? P t = some i) : ∃ el, P.underlying t = some (.slice el) ∧ P.info? el = some i := by
  unfold elemOf? at h
  split at h
  · exact ⟨_, by assumption, h⟩
  · cases h

theorem st_copy {c : Call} {y z : Operand} {t : TypeId} {i : TypeInfo} (ho : o.op = .call c) (hc : c.callee = .builtin .copy) (ha : c.args.toList = [y, z]) (ht : c.argTypes[0]? = some t)
    (hi : elemOf? P t = some i) : StOk P o fun e h => copyOf h i.size ((cO y).ev e) ((cO z).ev e) := by
  intro C α Λ h ls w e ρ v h' hC s hρ hv
  dsimp only at hv
  obtain ⟨el, hu, hie⟩ := elemOf_some hi
  have hx := hρ y
  have hz := hρ z
  generalize (cO y).ev e = d at hx hv
  generalize (cO z).ev e = sr at hz hv
  unfold copyOf at hv
  cases hk : srcLen sr with
  | none => simp [hk] at hv
  | some k =>
    simp only [hk] at hv
    have hlen := srcLen_sound (P := P) (w := w) hz hk
    suffices hs : ∃ n c' w', (Builtin.copy_ c.argTypes o.type #[ρ y, ρ z]).run P w = .ok c' w' ∧ n = Next.value c' ∧ Sim C α Λ h' ls w' ∧ VR α v c' ∧ h'.next = h.next by
      obtain ⟨n, c', w', r1, r2, r3, r4, r5⟩ := hs
      refine ⟨n, c', w', α, Λ, ?_, .inl r2, AM.le_refl α, r3, r4, fun a h1 h2 => absurd h1 h2, by rw [r5]; exact Nat.le_refl _⟩
      simp only [execOp, ho]
      obtain ⟨kk, hkk⟩ := r_builtin (P := P) (w := w) (ρ := ρ) (ty := o.type) hc
      rw [hkk, args2 ha, r2]
      simp only [builtin, List.map_toArray, List.map_cons, List.map_nil]
      exact r_val r1
    cases d <;> simp only at hv <;> (try (cases hv; done))
    · rename_i a off m cp
      cases hsn : srcN h i.size (Nat.min k m) sr with
      | none => simp [hsn] at hv
      | some xs =>
        simp only [hsn] at hv
        cases hst : h.storeN a off xs with
        | none => simp [hst, oH] at hv
        | some h1 =>
          simp only [hst, oH, Option.some.injEq, Prod.mk.injEq] at hv
          obtain ⟨rfl, rfl⟩ := hv
          obtain ⟨xc, q1, q2, q3⟩ := srcN_sound (P := P) s hz hsn (fun a' o' m' cp' e1 => by
            subst e1; simp [srcLen] at hk; subst hk; exact Nat.min_le_left _ _)
          generalize hd : ρ y = dc at hx
          cases hx with
          | sl _ _ _ _ L capC ha h1 h2 =>
            obtain ⟨w', r1, r2, r3⟩ := s.storeN (P := P) ha q1 hst
            refine ⟨_, goInt (Nat.min k m), w', ?_, rfl, r2, .int _ _, r3⟩
            simp only [Builtin.copy_, ht, List.getElem?_toArray, List.getElem?_cons_zero, List.getElem?_cons_succ, Sem.run_bind, r_und hu, Result.andThen_ok, hlen, r_size hie, q3, r1, Sem.run_pure]
          | sl0 _ _ _ ad hcap =>
            have : xs = [] := by
              have := q1.length
              rw [q2] at this
              simp at this
              exact this
            subst this
            have hh : h.storeN a off [] = some h1 := hst
            have hxc : xc = [] := by cases q1; rfl
            subst hxc
            refine ⟨_, goInt (Nat.min k 0), w, ?_, rfl, ?_, .int _ _, ?_⟩
            · simp only [Builtin.copy_, ht, List.getElem?_toArray, List.getElem?_cons_zero, List.getElem?_cons_succ, Sem.run_bind, r_und hu, Result.andThen_ok, hlen, r_size hie, q3, storeCells, Sem.run_pure]
            · exact s.storeNone hh
            · exact storeNone_next hh
    · rename_i q
      cases q <;> simp only at hv <;> (try (cases hv; done))
      simp only [Option.some.injEq, Prod.mk.injEq] at hv
      obtain ⟨rfl, rfl⟩ := hv
      generalize hd : ρ y = dc at hx
      cases hx
      have hf : (Builtin.firstCells i.size (Nat.min k 0) (ρ z)).run P w = .ok #[] w := by
        have : Nat.min k 0 = 0 := Nat.min_zero k
        rw [this]
        exact first0 hz hk
      refine ⟨_, goInt (Nat.min k 0), w, ?_, rfl, s, ?_, rfl⟩
      · simp only [Builtin.copy_, ht, List.getElem?_toArray, List.getElem?_cons_zero, List.getElem?_cons_succ, Sem.run_bind, r_und hu, Result.andThen_ok, hlen, r_size hie, hf, Sem.run_pure]
      · have : Nat.min k 0 = 0 := Nat.min_zero k
        rw [this]; exact .int _ _

theorem st_clear {c : Call} {y : Operand} {t : TypeId} {i : TypeInfo} {zv : Value} (ho : o.op = .call c) (hc : c.callee = .builtin .clear) (ha : c.args.toList = [y]) (ht : c.argTypes[0]? = some t)
    (hi : elemOf? P t = some i) (hz : i.zero = some zv) : StOk P o fun e h => match (cO y).ev e with
      | .sl a o n _ => oH undefV (h.storeN a o (repL (ofV zv).cells n))
      | .no k => match k with | .sl => some (undefV, h) | _ => none
      | _ => none := by
  intro C α Λ h ls w e ρ v h' hC s hρ hv
  dsimp only at hv
  obtain ⟨el, hu, hie⟩ := elemOf_some hi
  have hx := hρ y
  generalize (cO y).ev e = d at hx hv
  suffices hs : ∃ w', (Builtin.clear_ c.argTypes o.type #[ρ y]).run P w = .ok (.tuple #[]) w' ∧ Sim C α Λ h' ls w' ∧ v = undefV ∧ h'.next = h.next by
    obtain ⟨w', r1, r2, r3, r5⟩ := hs
    subst r3
    refine ⟨.value (.tuple #[]), .tuple #[], w', α, Λ, ?_, .inl rfl, AM.le_refl α, r2, undef_R α, fun a h1 h2 => absurd h1 h2, by rw [r5]; exact Nat.le_refl _⟩
    simp only [execOp, ho]
    obtain ⟨kk, hkk⟩ := r_builtin (P := P) (w := w) (ρ := ρ) (ty := o.type) hc
    rw [hkk, args1 ha]
    simp only [builtin, List.map_toArray, List.map_cons, List.map_nil]
    exact r_val r1
  cases d <;> simp only at hv <;> (try (cases hv; done))
  · rename_i a off n cp
    cases hst : h.storeN a off (repL (ofV zv).cells n) with
    | none => simp [hst, oH] at hv
    | some h1 =>
      simp only [hst, oH, Option.some.injEq, Prod.mk.injEq] at hv
      obtain ⟨rfl, rfl⟩ := hv
      have hrep := repL_R (ofV_cells (α := α) zv) n
      have hzl : (ofV zv).cells.length = zv.cells.size := by have := (ofV_cells (α := α) zv).length; simpa using this
      rw [hzl] at hrep
      generalize hd : ρ y = dc at hx
      cases hx with
      | sl _ _ _ _ L capC ha h1 h2 =>
        obtain ⟨w', r1, r2, r3⟩ := s.storeN (P := P) ha hrep hst
        refine ⟨w', ?_, r2, rfl, r3⟩
        cases n with
        | zero =>
          have : (storeCells ⟨L.blk, L.base + off, none⟩ ((Array.range (0 * zv.cells.size)).map (fun i => zv.cells[i % zv.cells.size]!)).toList).run P w = .ok () w := by
            simp [storeCells]
          rw [this] at r1; cases r1
          simp [Builtin.clear_, ht, r_und hu]
        | succ n =>
          simp only [Builtin.clear_, ht, List.getElem?_toArray, List.getElem?_cons_zero, Sem.run_bind, r_und hu, Result.andThen_ok, r_zero hie hz, Builtin.zeroCells, r1, Sem.run_pure]
      | sl0 _ _ _ ad hcap =>
        refine ⟨w, ?_, ?_, rfl, ?_⟩
        · simp [Builtin.clear_, ht, r_und hu]
        · exact s.storeNone (off := off) (by simpa [repL] using hst)
        · exact storeNone_next (off := off) (by simpa [repL] using hst)
  · rename_i q
    cases q <;> simp only at hv <;> (try (cases hv; done))
    simp only [Option.some.injEq, Prod.mk.injEq] at hv
    obtain ⟨rfl, rfl⟩ := hv
    generalize hd : ρ y = dc at hx
    cases hx
    exact ⟨w, by simp [Builtin.clear_, ht, r_und hu], s, rfl, rfl⟩
end Go.Ev

namespace Go.Ev
variable {C : Cx} {α : AM} {Λ : Pa → Prop} {h : Hp} {ls : List LE} {w : World} {e : T V} {ρ : Operand → Value}
variable {P : Program} {o : Oper}

theorem growBy_le (need : Nat) : ∀ (r c : Nat), c ≤ 2 * need + 768 → Builtin.growBy need r c ≤ 2 * need + 768
  | 0, c, h => h
  | r + 1, c, h => by
    simp only [Builtin.growBy]
    split
    · exact h
    · exact growBy_le need r _ (by omega)

theorem nextcap_le (need old : Nat) (h : old < need) : Builtin.nextslicecap need old ≤ 2 * need + 768 := by
  unfold Builtin.nextslicecap
  split
  · omega
  · split
    · omega
    · exact growBy_le need 4 old (by omega)

/-- does the new row stand where it should? -/
theorem row_get {old new rest : Array Value} {j : Nat} {c : Value} (h : (old.toList ++ new.toList)[j]? = some c) : (old ++ new ++ rest)[j]? = some c := by
  have hj : j < (old.toList ++ new.toList).length := (List.getElem?_eq_some_iff.1 h).1
  rw [Array.getElem?_append_left (by simpa using hj)]
  rw [← Array.getElem?_toList]
  simpa using h

/-- the world with one draw more and one row more -/
theorem Sim.row (s : Sim C α Λ h ls w) {l : List V} {lc : List Value} (hl : VRs α l lc) {rest : Array Value} {old new : Array Value} (he : old.toList ++ new.toList = lc) {el : TypeId} (_hsc : allScalar l = true)
    {n esz cap : Nat} (hn : n ≤ cap) (htop : (old ++ new ++ rest).size = cap * esz) {w' : World} (hw : w'.heap = w.heap.push (.cells (old ++ new ++ rest) el)) (hst : Still w w') :
    Sim C (α.put h.next ⟨w.heap.size, 0, cap * esz, false⟩) (fun x => Λ x ∨ x = h.next) (h.alloc (.cells l false)) ls w' ∧
      VR (α.put h.next ⟨w.heap.size, 0, cap * esz, false⟩) (.sl h.next 0 n (.un esz)) (.slice (some ⟨w.heap.size, 0, none⟩) n cap) := by
  have g := s.ghost (.cells l false)
  have hnone := s.next_none
  have hle := AM.le_put (α := α) (a := h.next) (L := ⟨w.heap.size, 0, cap * esz, false⟩) hnone
  refine ⟨g.fill (a := h.next) (b := .cells l false) (top := cap * esz) hnone (by simp [Heap.alloc, Heap.get, T.get_set]) ⟨by rw [hw]; simp, fun i hi => by rw [hw, Array.getElem?_push, if_neg (by omega)], hst⟩ ?_, ?_⟩
  · refine ⟨old ++ new ++ rest, el, (0, 0), by rw [hw]; simp, htop, .inl rfl, ⟨?_, fun i v hv => ?_⟩, fun _ => Nat.le_refl 0⟩
    · have h1 := hl.length
      have h2 : (old.toList ++ new.toList).length = lc.length := by rw [he]
      simp only [List.length_append, Array.length_toList] at h2
      simp only [Array.size_append]; omega
    · obtain ⟨c, h1, h2⟩ := hl.get hv
      refine ⟨c, ?_, h2.mono hle⟩
      show (old ++ new ++ rest)[0 + i]? = some c
      rw [Nat.zero_add]
      exact row_get (by rw [he]; exact h1)
  · exact .sl h.next 0 n (.un esz) _ cap (AM.put_self _ _ _) hn (by simp [CapR])

/-- a slice that is appended to in its own memory, whose old name is given up -/
theorem Sim.inplace (s : Sim C α Λ h ls w) {a : Pa} {L : Loc} {l : List V} (ha : α a = some L) (hg : h.get a = some (.cells l false)) {w' : World} (hw : Turned w w' L.blk) {base : Nat} {m : List V} {bm : Bool}
    (hb : BR C.P (α.put h.next ⟨L.blk, base, L.top, bm⟩) ls h.next (.cells m false) ⟨L.blk, base, L.top, bm⟩ w') :
    Sim C (α.put h.next ⟨L.blk, base, L.top, bm⟩) (fun x => (Λ x ∧ x ≠ a) ∨ x = h.next) ((h.put a (.cells l true)).alloc (.cells m false)) ls w' := by
  have hnone := s.next_none
  have hΛ : Λ a := by
    rcases s.live a L _ ha hg with h1 | ⟨m, h1⟩
    · exact h1
    · cases h1
  have hane : a ≠ h.next := fun e => by subst e; rw [hnone] at ha; cases ha
  have hN : C.N0 ≤ L.blk := s.wr a L _ ha hΛ hg rfl
  have hget : ∀ x, ((h.put a (.cells l true)).alloc (.cells m false)).get x = if h.next = x then some (.cells m false) else if a = x then some (.cells l true) else h.get x := fun x => by
    simp [Heap.alloc, Heap.put, Heap.get, T.get_set]
  have hnx : ((h.put a (.cells l true)).alloc (.cells m false)).next.toNat = h.next.toNat + 1 := Pa.toNat_succ _
  have old : ∀ x M, (α.put h.next ⟨L.blk, base, L.top, bm⟩) x = some M → x ≠ h.next → α x = some M := fun x M hx hxa => by simpa [AM.put, hxa] using hx
  have new : ∀ M, (α.put h.next ⟨L.blk, base, L.top, bm⟩) h.next = some M → M = ⟨L.blk, base, L.top, bm⟩ := fun M hM => by simp [AM.put] at hM; exact hM.symm
  have hle := AM.le_put (α := α) (a := h.next) (L := ⟨L.blk, base, L.top, bm⟩) hnone
  refine ⟨fun x M hx => ?_, fun x M hx hΛx => ?_, fun x y M K hx hy hΛx hΛy e hN' => ?_, fun x M c hx hgx => ?_, fun x M c hx hΛx hgx hr => ?_, fun i hi => ?_, by rw [hw.1]; exact s.size, s.still.trans hw.2.2, fun x hx => ?_, fun x y hx => ?_⟩
  · rw [hnx]
    by_cases hxn : x = h.next
    · subst hxn; omega
    · exact Nat.lt_succ_of_lt (s.dom x M (old x M hx hxn))
  · by_cases hxn : x = h.next
    · subst hxn; rw [new M hx]; exact ⟨_, by rw [hget]; simp, hb⟩
    · obtain ⟨h1, h2⟩ := hΛx.resolve_right hxn
      obtain ⟨c, h3, h4⟩ := s.blk x M (old x M hx hxn) h1
      refine ⟨c, by rw [hget, if_neg (Ne.symm hxn), if_neg (Ne.symm h2)]; exact h3, h4.mono hle (fun _ _ h => h) (hw.2.1 _ fun e => ?_)⟩
      exact h2 (s.inj a x L M ha (old x M hx hxn) hΛ h1 e.symm hN).symm
  · by_cases hxn : x = h.next
    · by_cases hyn : y = h.next
      · rw [hxn, hyn]
      · exfalso
        obtain ⟨h1, h2⟩ := hΛy.resolve_right hyn
        subst hxn
        rw [new M hx] at e
        exact h2 (s.inj a y L K ha (old y K hy hyn) hΛ h1 e hN).symm
    · by_cases hyn : y = h.next
      · exfalso
        obtain ⟨h1, h2⟩ := hΛx.resolve_right hxn
        subst hyn
        rw [new K hy] at e
        exact h2 (s.inj x a M L (old x M hx hxn) ha h1 hΛ e hN')
      · exact s.inj x y M K (old x M hx hxn) (old y K hy hyn) (hΛx.resolve_right hxn).1 (hΛy.resolve_right hyn).1 e hN'
  · by_cases hxn : x = h.next
    · exact .inl (.inr hxn)
    · by_cases hxa : x = a
      · subst hxa
        rw [hget, if_neg (Ne.symm hxn), if_pos rfl] at hgx
        exact .inr ⟨l, (Option.some.inj hgx).symm⟩
      · rw [hget, if_neg (Ne.symm hxn), if_neg (Ne.symm hxa)] at hgx
        rcases s.live x M c (old x M hx hxn) hgx with h1 | h1
        · exact .inl (.inl ⟨h1, hxa⟩)
        · exact .inr h1
  · by_cases hxn : x = h.next
    · subst hxn; rw [new M hx]; exact hN
    · obtain ⟨h1, h2⟩ := hΛx.resolve_right hxn
      rw [hget, if_neg (Ne.symm hxn), if_neg (Ne.symm h2)] at hgx
      exact s.wr x M c (old x M hx hxn) h1 hgx hr
  · rw [hw.2.1 i (by omega)]; exact s.low i hi
  · rw [hnx] at hx
    have e1 : h.next ≠ x := fun e => by subst e; omega
    have e2 : a ≠ x := fun e => by subst e; have := s.dom a L ha; omega
    rw [hget, if_neg e1, if_neg e2]
    exact s.fresh x (by omega)
  · rw [hnx]; exact Nat.lt_succ_of_lt (s.lsdom x y hx)

/-- what 'append' needs to know of what it is handed: how many, which cells, and that the model's append comes to either of two ends -/
structure AppRun (P : Program) (w : World) (esz n : Nat) (el : TypeId) (newc : Array Value) (sc : Value) (run : Result Value) : Prop where
  place : ∀ base sLen sCap, sc = .slice base sLen sCap → sLen + n ≤ sCap →
    run = ((match base with | some a => storeCells (a.add (sLen * esz)) newc.toList | none => (pure () : Sem Unit)).run P w).andThen fun _ w' => .ok (.slice base (sLen + n) sCap) w'
  grow : ∀ base sLen sCap old, sc = .slice base sLen sCap → sCap < sLen + n → sLen + n ≤ 1073741824 → (Builtin.firstCells esz sLen sc).run P { w with drawn := w.drawn + 1 } = .ok old { w with drawn := w.drawn + 1 } →
    ∃ cap rest, sLen + n ≤ cap ∧ rest.size = (cap - (sLen + n)) * esz ∧
      run = .ok (.slice (some ⟨w.heap.size, 0, none⟩) (sLen + n) cap) { w with drawn := w.drawn + 1, heap := w.heap.push (.cells (old ++ newc ++ rest) el) }

theorem allScalar_right {a b : List V} (h : allScalar (a ++ b) = true) : allScalar b = true := by
  induction a with
  | nil => exact h
  | cons v a ih =>
    simp only [List.cons_append, allScalar] at h
    cases hv : isScalar v with
    | false => simp [hv] at h
    | true => simp only [hv, cond_true] at h; exact ih h

theorem appTo_sound (s : Sim C α Λ h ls w) {esz n : Nat} {el : TypeId} {xs : List V} {xc : List Value} (hx : VRs α xs xc) (hxl : xc.length = n * esz) (hesz : 0 < esz) {sv v : V} {sc : Value} (hs : VR α sv sc)
    {h' : Hp} (hv : appTo h esz n xs sv = some (v, h')) {run : Result Value} (hr : AppRun P w esz n el xc.toArray sc run) :
    ∃ c w' α' Λ', run = .ok c w' ∧ α.le α' ∧ Sim C α' Λ' h' ls w' ∧ VR α' v c ∧ (∀ a, α a = none → α' a ≠ none → h.next.toNat ≤ a.toNat) ∧ h.next.toNat ≤ h'.next.toNat := by
  have newid : ∀ {L : Loc} (a : Pa), α a = none → (α.put h.next L) a ≠ none → h.next.toNat ≤ a.toNat := by
    intro L a h1 h2
    by_cases hn : a = h.next
    · subst hn; exact Nat.le_refl _
    · exact absurd (by simp [AM.put, hn, h1]) h2
  have nxt : ∀ {b : Blk} {h0 : Hp}, h0.next = h.next → h.next.toNat ≤ (h0.alloc b).next.toNat := by
    intro b h0 e; show _ ≤ h0.next.succ.toNat; rw [Pa.toNat_succ, e]; omega
  -- a new row
  have grow : ∀ {h0 : Hp} {base : Option Addr} {sLen sCap : Nat} {old : List V} {oc : List Value}, Sim C α Λ h0 ls w → h0.next = h.next → sc = .slice base sLen sCap → sCap < sLen + n → VRs α old oc → oc.length = sLen * esz →
      (∀ w1 : World, w1.heap = w.heap → (Builtin.firstCells esz sLen sc).run P w1 = .ok oc.toArray w1) → appNew h0 esz (sLen + n) (old ++ xs) = some (v, h') →
      ∃ c w' α' Λ', run = .ok c w' ∧ α.le α' ∧ Sim C α' Λ' h' ls w' ∧ VR α' v c ∧ (∀ a, α a = none → α' a ≠ none → h.next.toNat ≤ a.toNat) ∧ h.next.toNat ≤ h'.next.toNat := by
    intro h0 base sLen sCap old oc s0 hnx hsc hlt hold hol hfc hnew
    unfold appNew at hnew
    cases hb : Nat.ble (sLen + n) 1073741824 with
    | false => simp [hb] at hnew
    | true =>
      simp only [hb, cond_true] at hnew
      cases hsc2 : allScalar (old ++ xs) with
      | false => simp [hsc2] at hnew
      | true =>
        simp only [hsc2, cond_true, Option.some.injEq, Prod.mk.injEq] at hnew
        obtain ⟨rfl, rfl⟩ := hnew
        obtain ⟨cap, rest, g1, g2, g3⟩ := hr.grow base sLen sCap oc.toArray hsc hlt (Nat.le_of_ble_eq_true hb) (hfc _ rfl)
        have hsize : (oc.toArray ++ xc.toArray ++ rest).size = cap * esz := by
          simp only [Array.size_append, List.size_toArray, hol, hxl, g2]
          rw [← Nat.add_mul, ← Nat.add_mul]
          congr 1; omega
        obtain ⟨t1, t2⟩ := s0.row (rest := rest) (old := oc.toArray) (new := xc.toArray) (el := el) (hold.append hx) (by simp) hsc2 g1 hsize (w' := { w with drawn := w.drawn + 1, heap := w.heap.push (.cells (oc.toArray ++ xc.toArray ++ rest) el) }) rfl ⟨rfl, rfl⟩
        exact ⟨_, _, _, _, g3, AM.le_put s0.next_none, t1, t2, by rw [hnx]; exact newid, nxt hnx⟩
  unfold appTo at hv
  cases sv <;> simp only at hv <;> (try (cases hv; done))
  · rename_i a off m cp
    cases hb : Nat.beq n 0 with
    | true =>
      have := Nat.eq_of_beq_eq_true hb; subst this
      simp only [hb, cond_true, Option.some.injEq, Prod.mk.injEq] at hv
      obtain ⟨rfl, rfl⟩ := hv
      have hxc : xc = [] := List.eq_nil_of_length_eq_zero (by simpa using hxl)
      subst hxc
      cases hs with
      | sl _ _ _ _ L capC ha h1 h2 =>
        refine ⟨_, w, α, Λ, ?_, AM.le_refl α, s, .sl a off m cp L capC ha h1 h2, fun a h1 h2 => absurd h1 h2, Nat.le_refl _⟩
        rw [hr.place _ _ _ rfl (by omega)]
        simp [storeCells]
      | sl0 _ _ _ ad hcap =>
        refine ⟨_, w, α, Λ, ?_, AM.le_refl α, s, .sl0 a off cp ad hcap, fun a h1 h2 => absurd h1 h2, Nat.le_refl _⟩
        rw [hr.place _ _ _ rfl (by omega)]
        simp [storeCells]
    | false =>
      have hn0 : n ≠ 0 := by intro e1; subst e1; simp at hb
      simp only [hb, cond_false] at hv
      have hpos : 0 < n * esz := Nat.mul_pos (Nat.pos_of_ne_zero hn0) hesz
      -- the cells that are there, in any world of that memory
      have first : ∀ {old : List V}, h.loadN a off (m * esz) = some old → ∃ oc : List Value, VRs α old oc ∧ oc.length = m * esz ∧ ∀ w1 : World, w1.heap = w.heap → (Builtin.firstCells esz m sc).run P w1 = .ok oc.toArray w1 := by
        intro old hold
        cases hs with
        | sl _ _ _ _ L capC ha h1 h2 =>
          obtain ⟨cs, k1, k2, k3⟩ := s.loadNs (P := P) ha hold
          exact ⟨cs, k2, k1, k3⟩
        | sl0 _ _ _ ad hcap =>
          have hl0 : old = [] := by
            unfold Heap.loadN at hold
            cases hcl : h.cells a with
            | none => simp [hcl] at hold
            | some m => simp [hcl, takeN] at hold; exact hold
          subst hl0
          exact ⟨[], .nil, by simp, fun w1 _ => by simp [Builtin.firstCells, loadCells, loadCellsFrom]⟩
      have hsc : ∃ base capC, sc = .slice base m capC := by cases hs <;> exact ⟨_, _, rfl⟩
      cases cp with
      | ex c =>
        simp only at hv
        cases hbc : Nat.ble (m + n) c with
        | true =>
          simp only [hbc, cond_true] at hv
          have hle := Nat.le_of_ble_eq_true hbc
          cases hst : h.storeN a (off + m * esz) xs with
          | none => simp [hst, oH] at hv
          | some h1 =>
            simp only [hst, oH, Option.some.injEq, Prod.mk.injEq] at hv
            obtain ⟨rfl, rfl⟩ := hv
            cases hs with
            | sl _ _ _ _ L capC ha h1' h2 =>
              simp only [CapR] at h2; subst h2
              obtain ⟨w', r1, r2, r3⟩ := s.storeN (P := P) ha hx hst
              refine ⟨_, w', α, Λ, ?_, AM.le_refl α, r2, .sl a off (m + n) (.ex capC) L capC ha hle rfl, fun a h1 h2 => absurd h1 h2, by rw [r3]; exact Nat.le_refl _⟩
              rw [hr.place _ _ _ rfl hle]
              simp only [add_at, Nat.add_assoc]
              rw [r1]; rfl
            | sl0 _ _ _ ad hcap =>
              have := sl0_ex hcap; omega
        | false =>
          simp only [hbc, cond_false] at hv
          have hgt : c < m + n := by
            rcases Nat.lt_or_ge c (m + n) with h1 | h1
            · exact h1
            · rw [Nat.ble_eq_true_of_le h1] at hbc; cases hbc
          cases hld : h.loadN a off (m * esz) with
          | none => simp [hld] at hv
          | some old =>
            simp only [hld] at hv
            obtain ⟨oc, f1, f2, f3⟩ := first hld
            have hcap : ∃ base, sc = .slice base m c := by
              cases hs with
              | sl _ _ _ _ L capC ha h1' h2 => simp only [CapR] at h2; subst h2; exact ⟨_, rfl⟩
              | sl0 _ _ _ ad hcap => have := sl0_ex hcap; subst this; exact ⟨_, rfl⟩
            obtain ⟨base, hsc'⟩ := hcap
            exact grow s rfl hsc' hgt f1 f2 f3 hv
      | un sz =>
        simp only at hv
        cases hbs : Nat.beq sz esz with
        | false => simp [hbs] at hv
        | true =>
          have := Nat.eq_of_beq_eq_true hbs; subst this
          simp only [hbs, cond_true] at hv
          cases hg : h.get a with
          | none => simp [hg] at hv
          | some b =>
            simp only [hg] at hv
            cases b <;> simp only at hv <;> (try (cases hv; done))
            rename_i l d
            cases d with
            | true => simp at hv
            | false =>
              simp only [cond_false] at hv
              have hcells : h.cells a = some l := by simp [Heap.cells, hg]
              -- the block in the world
              have blk : ∀ {L : Loc}, α a = some L → ∃ cs elc fr, w.heap[L.blk]? = some (.cells cs elc fr) ∧ cs.size = L.top ∧ quietAt cs.size fr ∧ CellsR α l cs L.base ∧ marksAt L.bm fr := by
                intro L ha
                have hΛ : Λ a := by
                  rcases s.live a L _ ha hg with h1 | ⟨m, h1⟩
                  · exact h1
                  · cases h1
                obtain ⟨b', h1, h2⟩ := s.blk a L ha hΛ
                rw [hg] at h1; cases h1
                exact h2
              cases hbl : Nat.ble (off + (m + n) * sz) l.length with
              | true =>
                simp only [hbl, cond_true] at hv
                have hle := Nat.le_of_ble_eq_true hbl
                cases hst : h.storeN a (off + m * sz) xs with
                | none => simp [hst, oH] at hv
                | some h1 =>
                  simp only [hst, oH, Option.some.injEq, Prod.mk.injEq] at hv
                  obtain ⟨rfl, rfl⟩ := hv
                  cases hs with
                  | sl _ _ _ _ L capC ha h1' h2 =>
                    have h2' := h2
                    simp only [CapR] at h2'
                    obtain ⟨cs, elc, fr, k1, k2, k3, ⟨k4, _⟩, _⟩ := blk ha
                    have hcap : m + n ≤ capC := by
                      have : (m + n) * sz ≤ capC * sz := by have := h2'.1; omega
                      exact Nat.le_of_mul_le_mul_right this hesz
                    obtain ⟨w', r1, r2, r3⟩ := s.storeN (P := P) ha hx hst
                    refine ⟨_, w', α, Λ, ?_, AM.le_refl α, r2, .sl a off (m + n) (.un sz) L capC ha hcap h2, fun a h1 h2 => absurd h1 h2, by rw [r3]; exact Nat.le_refl _⟩
                    rw [hr.place _ _ _ rfl hcap]
                    simp only [add_at, Nat.add_assoc]
                    rw [r1]; rfl
                  | sl0 _ _ _ ad hcap =>
                    exfalso
                    rcases hcap with hcap | ⟨s', L, e1, e2, e3⟩
                    · cases hcap
                    · obtain ⟨cs, elc, fr, k1, k2, k3, ⟨k4, _⟩, _⟩ := blk e2
                      rw [Nat.zero_add] at hle
                      omega
              | false =>
                simp only [hbl, cond_false] at hv
                cases htk : takeN (m * sz) (dropN off l) with
                | none => simp [htk] at hv
                | some old =>
                  simp only [htk] at hv
                  have hld : h.loadN a off (m * sz) = some old := by simp [Heap.loadN, hcells, htk]
                  obtain ⟨oc, f1, f2, f3⟩ := first hld
                  cases hs with
                  | sl0 _ _ _ ad hcap =>
                    exact grow (s.again hg) rfl rfl (by omega) f1 f2 f3 hv
                  | sl _ _ _ _ L capC ha h1' h2 =>
                    by_cases hfit : m + n ≤ capC
                    · simp only [CapR] at h2
                      obtain ⟨cs, elc, fr, k1, k2, k3, ⟨k4, k5⟩, km⟩ := blk ha
                      obtain ⟨h2, h2m⟩ := h2
                      unfold appNew at hv
                      cases hb30 : Nat.ble (m + n) 1073741824 with
                      | false => simp [hb30] at hv
                      | true =>
                        simp only [hb30, cond_true] at hv
                        cases hsc2 : allScalar (old ++ xs) with
                        | false => simp [hsc2] at hv
                        | true =>
                          simp only [hsc2, cond_true, Option.some.injEq, Prod.mk.injEq] at hv
                          obtain ⟨rfl, rfl⟩ := hv
                          have hxs : allScalar xs = true := allScalar_right hsc2
                          have hmul : (m + n) * sz ≤ capC * sz := Nat.mul_le_mul_right sz hfit
                          rw [Nat.add_mul] at hmul
                          obtain ⟨w', cs', r1, r2, r3, r4, r5⟩ := run_stores (P := P) L.blk (L.base + off + m * sz) elc fr xs xc 0 w cs hx hxs k1 k3 (by omega)
                          have hle := AM.le_put (α := α) (a := h.next) (L := ⟨L.blk, L.base + off, L.top, L.bm⟩) s.next_none
                          obtain ⟨o1, o2⟩ := takeN_eq htk
                          rw [dropN_eq] at o1 o2
                          have hol : old.length = m * sz := by rw [o2]; simp at o1 ⊢; omega
                          have hbr : BR C.P (α.put h.next ⟨L.blk, L.base + off, L.top, L.bm⟩) ls h.next (.cells (old ++ xs) false) ⟨L.blk, L.base + off, L.top, L.bm⟩ w' := by
                            refine ⟨cs', elc, fr, r2, by rw [r4]; exact k2, by rw [r4]; exact k3, ⟨?_, fun i v hv => ?_⟩, km⟩
                            · have := hx.length
                              simp only [List.length_append]
                              rw [r4]; show L.base + off + (old.length + xs.length) ≤ cs.size
                              omega
                            · show ∃ c, cs'[L.base + off + i]? = some c ∧ _
                              rw [r5]
                              by_cases hi : i < old.length
                              · rw [if_neg (by omega)]
                                rw [List.getElem?_append_left hi, o2, List.getElem?_take_of_lt (by omega), List.getElem?_drop] at hv
                                obtain ⟨c, g1, g2⟩ := k5 _ _ hv
                                exact ⟨c, by rw [Nat.add_assoc]; exact g1, g2.mono hle⟩
                              · rw [List.getElem?_append_right (by omega)] at hv
                                obtain ⟨c, g1, g2⟩ := hx.get hv
                                have hi2 : i - old.length < xc.length := (List.getElem?_eq_some_iff.1 g1).1
                                rw [if_pos (by omega)]
                                have : L.base + off + i - (L.base + off + m * sz + 0) = i - old.length := by omega
                                rw [this]
                                exact ⟨c, g1, g2.mono hle⟩
                          refine ⟨.slice (some ⟨L.blk, L.base + off, none⟩) (m + n) capC, w', _, _, ?_, hle, s.inplace ha hg r3 hbr, ?_, newid, ?_⟩
                          · rw [hr.place _ _ _ rfl hfit]
                            simp only [add_at]
                            rw [r1]; rfl
                          · have := VR.sl (α := α.put h.next ⟨L.blk, L.base + off, L.top, L.bm⟩) h.next 0 (m + n) (.un sz) ⟨L.blk, L.base + off, L.top, L.bm⟩ capC (AM.put_self _ _ _) hfit (by simp only [CapR]; exact ⟨by omega, h2m⟩)
                            exact this
                          · exact nxt rfl
                    · exact grow (s.again hg) rfl rfl (by omega) f1 f2 f3 hv
  · rename_i q
    cases q <;> simp only at hv <;> (try (cases hv; done))
    cases hs
    cases hb : Nat.beq n 0 with
    | true =>
      have := Nat.eq_of_beq_eq_true hb; subst this
      simp only [hb, cond_true, Option.some.injEq, Prod.mk.injEq] at hv
      obtain ⟨rfl, rfl⟩ := hv
      have hxc : xc = [] := List.eq_nil_of_length_eq_zero (by simpa using hxl)
      subst hxc
      refine ⟨_, w, α, Λ, ?_, AM.le_refl α, s, .noSl, fun a h1 h2 => absurd h1 h2, Nat.le_refl _⟩
      rw [hr.place _ _ _ rfl (Nat.le_refl 0)]
      simp
    | false =>
      have hn0 : n ≠ 0 := by intro e1; subst e1; simp at hb
      simp only [hb, cond_false] at hv
      exact grow (old := []) (oc := []) s rfl rfl (by omega) .nil (by simp) (fun w1 _ => by simp [Builtin.firstCells]) (by simpa using hv)

theorem zero_row (z : Array Value) (n : Nat) : (Builtin.zeroCells z n).size = n * z.size := by simp [Builtin.zeroCells]

theorem app_grow {c : Call} {t el : TypeId} {i : TypeInfo} {zv sc xv : Value} {n : Nat} {newc : Array Value} (ht : c.argTypes[0]? = some t) {d2 : TypeDesc} {t2 : TypeId} (ht2 : c.argTypes[1]? = some t2)
    (hd2 : P.underlying t2 = some d2) (hni : ∀ k, d2 ≠ .int k) (hu : P.underlying t = some (.slice el)) (hie : P.info? el = some i) (hz : i.zero = some zv) (hzl : zv.cells.size = i.size) (hby : i.bytes ≤ 65536) (_hsz : 0 < i.size)
    (hn : ∀ w1 : World, w1.heap = w.heap → (Builtin.lenOf xv).run P w1 = .ok n w1) (hx : ∀ w1 : World, w1.heap = w.heap → (Builtin.firstCells i.size n xv).run P w1 = .ok newc w1) (ty : TypeId) :
    AppRun P w i.size n el newc sc ((Builtin.append_ c.argTypes ty #[sc, xv]).run P w) := by
  have hm : (match d2 with | .int _ => true | _ => false) = false := by
    cases d2 <;> first | rfl | exact absurd rfl (hni _)
  constructor
  · intro base sLen sCap hsc hle
    subst hsc
    simp only [Builtin.append_, ht, ht2, List.getElem?_toArray, List.getElem?_cons_zero, List.getElem?_cons_succ, Sem.run_bind, r_und hu, Result.andThen_ok, r_size hie, r_und hd2, Sem.run_pure,
      Bool.false_eq_true, if_false, hn w rfl, if_pos hle, Bool.not_false, if_true, hx w rfl]
    cases base <;> simp
  · intro base sLen sCap old hsc hlt h30 hold
    subst hsc
    have hnle : ¬ (sLen + n ≤ sCap) := by omega
    have h1 : ¬ (((sLen + n : Nat) : Int) > IntKind.i64.max ∧ (False ∨ i.bytes = 0)) := by
      intro hh
      have : IntKind.i64.max = 9223372036854775807 := by decide
      rw [this] at hh; omega
    have h2 : ¬ (Builtin.nextslicecap (sLen + n) sCap * i.bytes > 2 ^ 48) := by
      have a1 := nextcap_le (sLen + n) sCap hlt
      have a2 : Builtin.nextslicecap (sLen + n) sCap * i.bytes ≤ 2147484416 * 65536 := Nat.mul_le_mul (by omega) hby
      omega
    simp only [Builtin.append_, ht, ht2, List.getElem?_toArray, List.getElem?_cons_zero, List.getElem?_cons_succ, Sem.run_bind, r_und hu, Result.andThen_ok, r_size hie, r_und hd2, Sem.run_pure,
      Bool.false_eq_true, if_false, hn w rfl, if_neg hnle, Bool.not_false, if_true, r_info hie]
    obtain ⟨cap, hcap0⟩ : ∃ cap, cap = (Question.appendCap (sLen + n) sCap el).cut (w.tape w.drawn (.appendCap (sLen + n) sCap el)) := ⟨_, rfl⟩
    have hcap : sLen + n ≤ cap := by rw [hcap0]; exact Nat.le_add_right _ _
    refine ⟨cap, Builtin.zeroCells zv.cells (cap - (sLen + n)), hcap, by rw [zero_row, hzl], ?_⟩
    rw [if_neg h1]
    simp only [Sem.run_bind, r_info hie, Result.andThen_ok, if_neg h2]
    rw [r_choose _ rfl, ← hcap0]
    simp only [Result.andThen_ok, run_askRoom, hold]
    rw [hx { w with drawn := w.drawn + 1 } rfl]
    simp only [Result.andThen_ok, r_zero hie hz, r_newRow, Sem.run_pure]

theorem appZ_grow {c : Call} {t el : TypeId} {i : TypeInfo} {zv sc : Value} {k2 : IntKind} {n : Nat} (ht : c.argTypes[0]? = some t) {d2 : IntKind} {t2 : TypeId} (ht2 : c.argTypes[1]? = some t2)
    (hd2 : P.underlying t2 = some (.int d2)) (hu : P.underlying t = some (.slice el)) (hie : P.info? el = some i) (hz : i.zero = some zv) (hzl : zv.cells.size = i.size) (hby : i.bytes ≤ 65536) (_hby0 : 0 < i.bytes)
    (hsz : 0 < i.size) (hn : n ≤ 1073741824) (ty : TypeId) :
    AppRun P w i.size n el (Builtin.zeroCells zv.cells n) sc ((Builtin.append_ c.argTypes ty #[sc, .int k2 (.ofNat n)]).run P w) := by
  have hw : IntKind.i64.wrap (Int.ofNat n) = Int.ofNat n := wrap_nat .i64 n (show n ≤ 9223372036854775807 by omega)
  have hneg : ¬ (Int.ofNat n < 0) := by simp
  have hbig : ¬ (Int.ofNat n * (i.bytes : Int) > 2 ^ 48) := by
    have h1 : n * i.bytes ≤ 1073741824 * 65536 := Nat.mul_le_mul hn hby
    have e1 : Int.ofNat n * (i.bytes : Int) = ((n * i.bytes : Nat) : Int) := (Int.natCast_mul _ _).symm
    rw [e1]; omega
  have hto : (Int.ofNat n).toNat = n := rfl
  have happ : ∀ w1 : World, (if n * i.size = 0 then (pure #[] : Sem (Array Value)) else do pure (Builtin.zeroCells (← zeroValue el).cells n)).run P w1 = .ok (Builtin.zeroCells zv.cells n) w1 := by
    intro w1
    by_cases h0 : n * i.size = 0
    · have hn0 : n = 0 := by
        rcases Nat.mul_eq_zero.1 h0 with h1 | h1
        · exact h1
        · omega
      subst hn0
      rw [if_pos (by simp)]
      simp [Builtin.zeroCells]
    · rw [if_neg h0]; simp [r_zero hie hz]
  constructor
  · intro base sLen sCap hsc hle
    subst hsc
    simp only [Builtin.append_, ht, ht2, List.getElem?_toArray, List.getElem?_cons_zero, List.getElem?_cons_succ, Sem.run_bind, r_und hu, Result.andThen_ok, r_size hie, r_und hd2, Sem.run_pure, if_true, asInt, asIntOf, hw,
      if_neg hneg, r_info hie, if_neg hbig, hto, if_pos hle, Bool.not_true, Bool.false_eq_true, if_false, happ]
    cases base <;> simp
  · intro base sLen sCap old hsc hlt h30 hold
    subst hsc
    have hnle : ¬ (sLen + n ≤ sCap) := by omega
    have h1 : ¬ (((sLen + n : Nat) : Int) > IntKind.i64.max ∧ (True ∨ i.bytes = 0)) := by
      intro hh
      have : IntKind.i64.max = 9223372036854775807 := by decide
      rw [this] at hh; omega
    have h2 : ¬ (Builtin.nextslicecap (sLen + n) sCap * i.bytes > 2 ^ 48) := by
      have a1 := nextcap_le (sLen + n) sCap hlt
      have a2 : Builtin.nextslicecap (sLen + n) sCap * i.bytes ≤ 2147484416 * 65536 := Nat.mul_le_mul (by omega) hby
      omega
    obtain ⟨cap, hcap0⟩ : ∃ cap, cap = (Question.appendCap (sLen + n) sCap el).cut (w.tape w.drawn (.appendCap (sLen + n) sCap el)) := ⟨_, rfl⟩
    have hcap : sLen + n ≤ cap := by rw [hcap0]; exact Nat.le_add_right _ _
    refine ⟨cap, Builtin.zeroCells zv.cells (cap - (sLen + n)), hcap, by rw [zero_row, hzl], ?_⟩
    simp only [Builtin.append_, ht, ht2, List.getElem?_toArray, List.getElem?_cons_zero, List.getElem?_cons_succ, Sem.run_bind, r_und hu, Result.andThen_ok, r_size hie, r_und hd2, Sem.run_pure, if_true, asInt, asIntOf, hw,
      if_neg hneg, r_info hie, if_neg hbig, hto, if_neg hnle, Bool.not_true, Bool.false_eq_true, if_false]
    rw [if_neg h1]
    simp only [Sem.run_bind, r_info hie, Result.andThen_ok, if_neg h2]
    rw [r_choose _ rfl, ← hcap0]
    simp only [Result.andThen_ok, run_askRoom, hold, happ, r_zero hie hz, r_newRow, Sem.run_pure]
end Go.Ev

namespace Go.Ev
variable {C : Cx} {α : AM} {Λ : Pa → Prop} {h : Hp} {ls : List LE} {w : World} {e : T V} {ρ : Operand → Value}
variable {P : Program} {o : Oper}

theorem st_app {c : Call} {y z : Operand} {t t2 : TypeId} {i : TypeInfo} {d2 : TypeDesc} {zv : Value} (ho : o.op = .call c) (hc : c.callee = .builtin .append) (ha : c.args.toList = [y, z]) (ht : c.argTypes[0]? = some t)
    (hi : elemOf? P t = some i) (ht2 : c.argTypes[1]? = some t2) (hd2 : P.underlying t2 = some d2) (hni : ∀ k, d2 ≠ .int k) (hz : i.zero = some zv) (hzl : (ofV zv).cells.length = i.size) (hby : i.bytes ≤ 65536) (hsz : 0 < i.size) :
    StOk P o fun e h => appOf h i.size ((cO y).ev e) ((cO z).ev e) := by
  intro C α Λ h ls w e ρ v h' hC s hρ hv
  dsimp only at hv
  obtain ⟨el, hu, hie⟩ := elemOf_some hi
  have hx := hρ y
  have hw := hρ z
  generalize (cO y).ev e = d at hx hv
  generalize (cO z).ev e = sr at hw hv
  unfold appOf at hv
  cases hk : srcLen sr with
  | none => simp [hk] at hv
  | some n =>
    simp only [hk] at hv
    cases hsn : srcN h i.size n sr with
    | none => simp [hsn] at hv
    | some xs =>
      simp only [hsn] at hv
      have hzs : zv.cells.size = i.size := by
        have := (ofV_cells (α := α) zv).length
        rw [hzl] at this; simpa using this.symm
      obtain ⟨xc, q1, q2, q4⟩ := srcN_sounds (P := P) s hw hsn (fun a' o' m' cp' e1 => by subst e1; simp [srcLen] at hk; subst hk; exact Nat.le_refl _)
      have run := app_grow (P := P) (w := w) (sc := ρ y) ht ht2 hd2 hni hu hie hz hzs hby hsz (fun w1 _ => srcLen_sound (P := P) (w := w1) hw hk) q4 o.type
      obtain ⟨c', w', α', Λ', r1, r2, r3, r4, r5, r6⟩ := appTo_sound s q1 q2 hsz hx hv run
      refine ⟨.value c', c', w', α', Λ', ?_, .inl rfl, r2, r3, r4, r5, r6⟩
      simp only [execOp, ho]
      obtain ⟨kk, hkk⟩ := r_builtin (P := P) (w := w) (ρ := ρ) (ty := o.type) hc
      rw [hkk, args2 ha]
      simp only [builtin, List.map_toArray, List.map_cons, List.map_nil]
      exact r_val r1

theorem st_appZ {c : Call} {y z : Operand} {t t2 : TypeId} {i : TypeInfo} {d2 : IntKind} {zv : Value} (ho : o.op = .call c) (hc : c.callee = .builtin .append) (ha : c.args.toList = [y, z]) (ht : c.argTypes[0]? = some t)
    (hi : elemOf? P t = some i) (ht2 : c.argTypes[1]? = some t2) (hd2 : P.underlying t2 = some (.int d2)) (hz : i.zero = some zv) (hzl : (ofV zv).cells.length = i.size) (hby : i.bytes ≤ 65536) (hby0 : 0 < i.bytes) (hsz : 0 < i.size) :
    StOk P o fun e h => appZ h i.size (ofV zv).cells ((cO y).ev e) ((cO z).ev e) := by
  intro C α Λ h ls w e ρ v h' hC s hρ hv
  dsimp only at hv
  obtain ⟨el, hu, hie⟩ := elemOf_some hi
  have hx := hρ y
  have hw := hρ z
  generalize (cO y).ev e = d at hx hv
  generalize (cO z).ev e = sr at hw hv
  unfold appZ at hv
  cases hk : natOf sr with
  | none => simp [hk] at hv
  | some n =>
    simp only [hk] at hv
    cases hb : Nat.ble n 1073741824 with
    | false => simp [hb] at hv
    | true =>
      simp only [hb, cond_true] at hv
      have hzs : zv.cells.size = i.size := by
        have := (ofV_cells (α := α) zv).length
        rw [hzl] at this; simpa using this.symm
      have hrep := repL_R (ofV_cells (α := α) zv) n
      obtain ⟨k2, hz2⟩ : ∃ k2, ρ z = .int k2 (.ofNat n) := by
        cases sr <;> simp only [natOf] at hk <;> (try (cases hk; done))
        rename_i k m
        cases m <;> simp at hk
        subst hk
        generalize ρ z = dd at hw
        cases hw
        exact ⟨k, rfl⟩
      have run := appZ_grow (P := P) (w := w) (sc := ρ y) (k2 := k2) (n := n) ht ht2 hd2 hu hie hz hzs hby hby0 hsz (Nat.le_of_ble_eq_true hb) o.type
      rw [hzl] at hrep
      obtain ⟨c', w', α', Λ', r1, r2, r3, r4, r5, r6⟩ := appTo_sound s (xc := (Builtin.zeroCells zv.cells n).toList) (by simpa [Builtin.zeroCells, hzs] using hrep) (by simp [zero_row, hzs]) hsz hx hv (by simpa using run)
      refine ⟨.value c', c', w', α', Λ', ?_, .inl rfl, r2, r3, r4, r5, r6⟩
      simp only [execOp, ho]
      obtain ⟨kk, hkk⟩ := r_builtin (P := P) (w := w) (ρ := ρ) (ty := o.type) hc
      rw [hkk, args2 ha]
      simp only [builtin, List.map_toArray, List.map_cons, List.map_nil, hz2]
      exact r_val r1

theorem r_getObj {b : Nat} {es : Array MapEntry} {k : Nat} (hb : w.heap[b]? = some (.map es k)) : (getObj b).run P w = .ok (.map es k) w := by simp [getObj, Sem.run, hb]

/-- a map that may be written, and its fellow -/
theorem map_at (s : Sim C α Λ h ls w) {m : V} {c : Value} (hm : VR α m c) {r : Pa} {es : List (V × V × Nat)} {clock : Nat} (h2 : h.map2 m = some (r, es, clock)) :
    ∃ L ents, α r = some L ∧ Λ r ∧ h.get r = some (.map es clock) ∧ c = .map (some L.blk) ∧ w.heap[L.blk]? = some (.map ents clock) ∧ EntR α es ents.toList := by
  cases m <;> simp only [Heap.map2] at h2 <;> (try (cases h2; done))
  rename_i a
  cases hg : h.get a with
  | none => simp [hg] at h2
  | some b =>
    simp only [hg] at h2
    cases b <;> simp only at h2 <;> (try (cases h2; done))
    cases h2
    cases hm with
    | map _ L ha =>
      have hΛ : Λ r := by
        rcases s.live r L _ ha hg with h1 | ⟨m, h1⟩
        · exact h1
        · cases h1
      obtain ⟨b', g1, g2⟩ := s.blk r L ha hΛ
      rw [hg] at g1; cases g1
      obtain ⟨ents, e1, e2, e3⟩ := g2
      refine ⟨L, ents, ha, hΛ, hg, rfl, e1, by simpa using e2, fun i t ht => ?_⟩
      obtain ⟨x, k1, k2⟩ := e3 i t ht
      exact ⟨x, by simpa using k1, k2⟩

theorem set_turned (w : World) {b : Nat} {es : Array MapEntry} {k : Nat} {y : Obj} (hb : w.heap[b]? = some (.map es k)) : ∃ w', (setObj b y).run P w = .ok () w' ∧ Turned w w' b ∧ w'.heap[b]? = some y := by
  have hlt := (Array.getElem?_eq_some_iff.1 hb).1
  have hr : (setObj b y).run P w = .ok () { w with heap := w.heap.setIfInBounds b y } := by
    simp [setObj, Sem.run, hb]
  refine ⟨_, hr, ⟨by simp, fun i hi => Array.getElem?_setIfInBounds_ne (Ne.symm hi), rfl, rfl⟩, ?_⟩
  · exact Array.getElem?_setIfInBounds_self_of_lt hlt

theorem EntR.push {es : List (V × V × Nat)} {ents : Array MapEntry} (he : EntR α es ents.toList) {k x : V} {kc xc : Value} (hk : VR α k kc) (hx : VR α x xc) (n : Nat) :
    EntR α (es ++ [(k, x, n)]) (ents.push { key := kc, val := xc, born := n }).toList := by
  obtain ⟨h1, h2⟩ := he
  refine ⟨by simp at h1 ⊢; exact h1, fun i t ht => ?_⟩
  by_cases hi : i < es.length
  · rw [List.getElem?_append_left hi] at ht
    obtain ⟨y, k1, k2⟩ := h2 i t ht
    exact ⟨y, by rw [Array.toList_push, List.getElem?_append_left (by omega)]; exact k1, k2⟩
  · rw [List.getElem?_append_right (by omega)] at ht
    have hi2 : i - es.length = 0 := by
      have := (List.getElem?_eq_some_iff.1 ht).1
      simp at this; omega
    rw [hi2] at ht; simp at ht; subst ht
    exact ⟨_, by rw [Array.toList_push, List.getElem?_append_right (by omega), h1, hi2]; rfl, hk, hx, rfl⟩

theorem map_turn (s : Sim C α Λ h ls w) {r : Pa} {L : Loc} {es es' : List (V × V × Nat)} {clock clock' : Nat} (ha : α r = some L) (hΛ : Λ r) (hg : h.get r = some (.map es clock)) {ents' : Array MapEntry} {w' : World}
    (hw : Turned w w' L.blk) (hb : w'.heap[L.blk]? = some (.map ents' clock')) (he : EntR α es' ents'.toList) : Sim C α Λ (h.put r (.map es' clock')) ls w' := by
  refine s.turn ha hΛ hg rfl rfl hw ⟨ents', hb, by simpa using he.1, fun i t ht => ?_⟩
  obtain ⟨x, k1, k2⟩ := he.2 i t ht
  exact ⟨x, by simpa using k1, k2⟩

theorem st_mapUpd {t kt el : TypeId} {m k x : Operand} (ho : o.op = .mapUpdate t m k x) (ht : P.underlying t = some (.map kt el)) (hq : keyOk (eqT P kt) = true) :
    StOk P o fun e h => match h.map2 ((cO m).ev e) with
      | some (r, es, clock) => match (bif fits (eqT P kt) ((cO k).ev e) then findK (eqT P kt) ((cO k).ev e) es 0 else none) with
        | some f => match f with
          | some _ => none
          | none => some (undefV, h.put r (.map (es ++ [((cO k).ev e, (cO x).ev e, clock)]) (clock + 1)))
        | none => none
      | none => none := by
  intro C α Λ h ls w e ρ v h' hC s hρ hv
  dsimp only at hv
  have hk := hρ k
  generalize (cO k).ev e = kv at hk hv
  cases hm : h.map2 ((cO m).ev e) with
  | none => simp [hm] at hv
  | some q =>
    obtain ⟨r, es, clock⟩ := q
    simp only [hm] at hv
    cases hf : fits (eqT P kt) kv with
    | false => simp [hf] at hv
    | true =>
      simp only [hf, cond_true] at hv
      cases hr : findK (eqT P kt) kv es 0 with
      | none => simp [hr] at hv
      | some f =>
        cases f with
        | some f => simp [hr] at hv
        | none =>
          simp only [hr, Option.some.injEq, Prod.mk.injEq] at hv
          obtain ⟨rfl, rfl⟩ := hv
          obtain ⟨L, ents, ha, hΛ, hg, hmc, hb, he⟩ := map_at s (hρ m) hm
          obtain ⟨r', g1, g2⟩ := findKey_sound (P := P) (w := w) hk he hr hq
          have hr' : r' = none := by cases r' with | none => rfl | some p => exact g2.elim
          subst hr'
          have chk : ∀ b, (Instr.checkKey b 10000 kt (ρ k)).run P w = .ok () w := fun b => fits_check hk hf b
          obtain ⟨w', s1, s2, s3⟩ := set_turned (P := P) w (y := .map (ents.push { key := ρ k, val := ρ x, born := clock }) (clock + 1)) hb
          refine ⟨.skip, undef, w', α, Λ, ?_, .inr ⟨rfl, rfl⟩, AM.le_refl α, map_turn s ha hΛ hg s2 s3 (he.push hk (hρ x) clock), undef_R α, fun a h1 h2 => absurd h1 h2, Nat.le_refl _⟩
          simp only [execOp, ho]
          refine r_unit ?_
          simp only [Instr.mapUpdate, hmc, Sem.run_bind, r_und ht, Result.andThen_ok, r_getObj hb, chk, g1, s1]

theorem st_mapEnt {t kt el : TypeId} {m k : Operand} {z : V} (ho : o.op = .mapEntry t m k) (ht : P.underlying t = some (.map kt el)) (hz : zeroT P el = some z) (hq : keyOk (eqT P kt) = true) :
    StOk P o fun e h => match h.map2 ((cO m).ev e) with
      | some (r, es, clock) => match (bif fits (eqT P kt) ((cO k).ev e) then findK (eqT P kt) ((cO k).ev e) es 0 else none) with
        | some f => match f with
          | some _ => none
          | none => some (.tup [z, .int .i64 (.ofNat clock)], h.put r (.map (es ++ [((cO k).ev e, z, clock)]) (clock + 1)))
        | none => none
      | none => none := by
  intro C α Λ h ls w e ρ v h' hC s hρ hv
  dsimp only at hv
  obtain ⟨i, zv, hi, hzi, rfl⟩ := zeroT_some hz
  have hk := hρ k
  generalize (cO k).ev e = kv at hk hv
  cases hm : h.map2 ((cO m).ev e) with
  | none => simp [hm] at hv
  | some q =>
    obtain ⟨r, es, clock⟩ := q
    simp only [hm] at hv
    cases hf : fits (eqT P kt) kv with
    | false => simp [hf] at hv
    | true =>
      simp only [hf, cond_true] at hv
      cases hr : findK (eqT P kt) kv es 0 with
      | none => simp [hr] at hv
      | some f =>
        cases f with
        | some f => simp [hr] at hv
        | none =>
          simp only [hr, Option.some.injEq, Prod.mk.injEq] at hv
          obtain ⟨rfl, rfl⟩ := hv
          obtain ⟨L, ents, ha, hΛ, hg, hmc, hb, he⟩ := map_at s (hρ m) hm
          obtain ⟨r', g1, g2⟩ := findKey_sound (P := P) (w := w) hk he hr hq
          have hr' : r' = none := by cases r' with | none => rfl | some p => exact g2.elim
          subst hr'
          have chk : ∀ b, (Instr.checkKey b 10000 kt (ρ k)).run P w = .ok () w := fun b => fits_check hk hf b
          obtain ⟨w', s1, s2, s3⟩ := set_turned (P := P) w (y := .map (ents.push { key := ρ k, val := zv, born := clock }) (clock + 1)) hb
          refine ⟨.value (.tuple #[zv, goInt clock]), .tuple #[zv, goInt clock], w', α, Λ, ?_, .inl rfl, AM.le_refl α, map_turn s ha hΛ hg s2 s3 (he.push hk (ofV_R α zv) clock),
            .tup _ _ (.cons _ _ _ _ (ofV_R α zv) (.cons _ _ _ _ (.int _ _) .nil)), fun a h1 h2 => absurd h1 h2, Nat.le_refl _⟩
          simp only [execOp, ho]
          refine r_val ?_
          simp only [Instr.mapEntry, hmc, Sem.run_bind, r_und ht, Result.andThen_ok, r_getObj hb, chk, g1, s1, r_zero hi hzi, Sem.run_pure]

theorem findIdx_eq {b : Nat} : ∀ {es : List (V × V × Nat)} {ents : List MapEntry}, EntR α es ents → ents.findIdx? (fun e => (e.born : Int) == Int.ofNat b) = es.findIdx? (fun t => Nat.beq t.2.2 b)
  | [], ents, he => by
    have : ents = [] := List.eq_nil_of_length_eq_zero (by simpa using he.1)
    subst this; rfl
  | t :: es, ents, he => by
    obtain ⟨x, r, rfl, h1, h2, h3, h4⟩ := he.cons
    simp only [List.findIdx?_cons, findIdx_eq h4]
    have : ((x.born : Int) == Int.ofNat b) = Nat.beq t.2.2 b := by
      rw [h3, Bool.eq_iff_iff, Nat.beq_eq]
      simp only [beq_iff_eq]
      exact Int.ofNat_inj
    rw [this]

theorem EntR.modify {es : List (V × V × Nat)} {ents : Array MapEntry} (he : EntR α es ents.toList) {x : V} {xc : Value} (hx : VR α x xc) (i : Nat) :
    EntR α (es.modify i fun t => (t.1, x, t.2.2)) (ents.modify i fun e => { e with val := xc }).toList := by
  obtain ⟨h1, h2⟩ := he
  refine ⟨by simp at h1 ⊢; exact h1, fun j t ht => ?_⟩
  rw [List.getElem?_modify] at ht
  rw [Array.getElem?_toList, Array.getElem?_modify]
  cases hj : es[j]? with
  | none => rw [hj] at ht; simp at ht
  | some u =>
    obtain ⟨y, k1, k2, k3, k4⟩ := h2 j u hj
    rw [Array.getElem?_toList] at k1
    rw [hj] at ht
    rw [k1]
    by_cases hij : i = j
    · simp [hij] at ht ⊢
      subst ht
      exact ⟨k2, hx, k4⟩
    · simp [hij] at ht ⊢
      subst ht
      exact ⟨k2, k3, k4⟩

theorem st_entSt {t : TypeId} {m s x : Operand} (ho : o.op = .entryStore t m s x) :
    StOk P o fun e h => match h.map2 ((cO m).ev e) with
      | some (r, es, clock) => match natOf ((cO s).ev e) with
        | some b => match es.findIdx? (fun t => Nat.beq t.2.2 b) with
          | some i => some (undefV, h.put r (.map (es.modify i fun t => (t.1, (cO x).ev e, t.2.2)) clock))
          | none => none
        | none => none
      | none => none := by
  intro C α Λ h ls w e ρ v h' hC S hρ hv
  dsimp only at hv
  have hs := hρ s
  generalize (cO s).ev e = sv at hs hv
  cases hm : h.map2 ((cO m).ev e) with
  | none => simp [hm] at hv
  | some q =>
    obtain ⟨r, es, clock⟩ := q
    simp only [hm] at hv
    cases hn : natOf sv with
    | none => simp [hn] at hv
    | some b =>
      simp only [hn] at hv
      cases hi : es.findIdx? (fun t => Nat.beq t.2.2 b) with
      | none => simp [hi] at hv
      | some i =>
        simp only [hi, Option.some.injEq, Prod.mk.injEq] at hv
        obtain ⟨rfl, rfl⟩ := hv
        obtain ⟨L, ents, ha, hΛ, hg, hmc, hb, he⟩ := map_at S (hρ m) hm
        obtain ⟨w', s1, s2, s3⟩ := set_turned (P := P) w (y := .map (ents.modify i fun e => { e with val := ρ x }) clock) hb
        have hfi : ents.findIdx? (fun e => (e.born : Int) == Int.ofNat b) = some i := by
          cases ents with | mk l => rw [List.findIdx?_toArray, findIdx_eq he]; exact hi
        refine ⟨.skip, undef, w', α, Λ, ?_, .inr ⟨rfl, rfl⟩, AM.le_refl α, map_turn S ha hΛ hg s2 s3 (he.modify (hρ x) i), undef_R α, fun a h1 h2 => absurd h1 h2, Nat.le_refl _⟩
        have hsc : ∃ k, ρ s = .int k (.ofNat b) := by
          cases sv <;> simp only [natOf] at hn <;> (try (cases hn; done))
          rename_i k mm
          cases mm <;> simp at hn
          subst hn
          generalize ρ s = dd at hs
          cases hs
          exact ⟨k, rfl⟩
        obtain ⟨k, hsc⟩ := hsc
        simp only [execOp, ho]
        refine r_unit ?_
        simp only [Instr.entryStore, hmc, hsc, Sem.run_bind, Result.andThen_ok, r_getObj hb, asInt, asIntOf, Sem.run_pure, hfi, s1]

theorem freeze_cells {w : World} {b : Nat} {cs : Array Value} {el : TypeId} {fr : Nat × Nat} (hb : w.heap[b]? = some (.cells cs el fr)) (hq : quietAt cs.size fr) :
    ∃ fr', (w.freeze ⟨b, cs.size, none⟩ 1).heap[b]? = some (.cells cs el fr') ∧ quietAt cs.size fr' ∧ Turned w (w.freeze ⟨b, cs.size, none⟩ 1) b := by
  obtain ⟨lo, hi⟩ := fr
  refine ⟨if lo == hi then (cs.size, cs.size + 1) else (min lo cs.size, max hi (cs.size + 1)), ?_, ?_, freeze_size, fun i hi => freeze_ne hi, freeze_still _ _ _⟩
  · unfold World.freeze
    rw [if_neg (by decide)]
    simp only [Array.getElem?_modify, hb, if_true]
    simp
  · by_cases he : lo = hi
    · subst he
      simp only [beq_self_eq_true, if_true]
      exact .inr (Nat.le_refl _)
    · have : (lo == hi) = false := by simpa using he
      rw [this]
      simp only [Bool.false_eq_true, if_false]
      rcases hq with h1 | h1
      · exact absurd h1 he
      · exact .inr (by simp only at h1 ⊢; omega)

theorem st_mark {sT dT el : TypeId} {x : Operand} (ho : o.op = .convert sT dT x) {e0 : TypeId} (hs : P.underlying sT = some (.slice e0)) (hd : P.underlying dT = some (.slice el)) (heq : Nat.beq sT dT = true) (he : P.underlying el = some (.int .u8)) :
    StOk P o fun e h => markV h ((cO x).ev e) := by
  intro C α Λ h ls w e ρ v h' hC s hρ hv
  have hsd := Nat.eq_of_beq_eq_true heq
  dsimp only at hv
  have hx := hρ x
  generalize (cO x).ev e = a at hx hv
  cases a <;> simp only [markV] at hv <;> (try (cases hv; done))
  rename_i a off n c
  cases hn : Nat.beq n 0 with
  | true => simp [hn] at hv
  | false =>
  simp only [hn, cond_false] at hv
  cases hc : capMark c with
  | none => simp [hc] at hv
  | some c' =>
  simp only [hc] at hv
  cases hg : h.get a with
  | none => simp [hg] at hv
  | some b =>
  simp only [hg] at hv
  cases b <;> simp only at hv <;> (try (cases hv; done))
  rename_i l d
  cases d with
  | true => simp at hv
  | false =>
  simp only [cond_false, Option.some.injEq, Prod.mk.injEq] at hv
  obtain ⟨rfl, rfl⟩ := hv
  generalize hq : ρ x = q at hx
  cases hx with
  | sl0 _ _ _ ad _ => exact absurd hn (by decide)
  | sl _ _ _ _ L capC ha h1 h2 =>
  have hΛ : Λ a := by
    rcases s.live a L _ ha hg with h1 | ⟨m, h1⟩
    · exact h1
    · cases h1
  obtain ⟨b', g1, g2⟩ := s.blk a L ha hΛ
  rw [hg] at g1; cases g1
  obtain ⟨cs, elc, fr, k1, k2, k3, k4, _⟩ := g2
  obtain ⟨fr', f1, f2, f3⟩ := freeze_cells k1 k3
  have hle := AM.le_put (α := α) (a := h.next) (L := ⟨L.blk, L.base, L.top, true⟩) s.next_none
  have hbr : BR C.P (α.put h.next ⟨L.blk, L.base, L.top, true⟩) ls h.next (.cells l false) ⟨L.blk, L.base, L.top, true⟩ (w.freeze ⟨L.blk, cs.size, none⟩ 1) :=
    ⟨cs, elc, fr', f1, k2, f2, k4.mono hle, fun h => by cases h⟩
  refine ⟨.value (.slice (some ⟨L.blk, L.base + off, none⟩) n capC), _, w.freeze ⟨L.blk, cs.size, none⟩ 1, _, _, ?_, .inl rfl, hle, s.inplace ha hg f3 hbr, ?_, ?_, ?_⟩
  · simp only [execOp, ho, hq]
    refine r_val ?_
    have hm : w.shape? L.blk = some (elc, cs.size) := by simp [World.shape?, k1]
    subst hsd
    simp only [convert, Sem.run_bind, r_und hs, Result.andThen_ok]
    have : el = e0 := by rw [hs] at hd; cases hd; rfl
    subst this
    simp only [r_und he, Result.andThen_ok, beq_self_eq_true, markStringish, Sem.run_bind, run_shape, hm, run_freeze, Sem.run_pure]
  · have hcr : CapR ⟨L.blk, L.base, L.top, true⟩ off capC c' := by
      cases c with
      | ex k => simp only [capMark, Option.some.injEq] at hc; subst hc; exact h2
      | un k =>
        simp only [capMark] at hc
        cases hk : Nat.beq k 1 with
        | false => simp [hk] at hc
        | true =>
          have := Nat.eq_of_beq_eq_true hk; subst this
          simp only [hk, cond_true, Option.some.injEq] at hc; subst hc
          exact ⟨h2.1, .inl rfl⟩
    exact VR.sl (α := α.put h.next ⟨L.blk, L.base, L.top, true⟩) h.next off n c' ⟨L.blk, L.base, L.top, true⟩ capC (AM.put_self _ _ _) h1 hcr
  · intro a' h1 h2
    by_cases hn' : a' = h.next
    · subst hn'; exact Nat.le_refl _
    · exact absurd (by simp [AM.put, hn', h1]) h2
  · show _ ≤ h.next.succ.toNat; rw [Pa.toNat_succ]; omega

theorem st_sound {f : T V → Hp → Option (V × Hp)} (hc : cOp P o.op = .st f) : StOk P o f := by
  cases hop : o.op <;> rw [hop] at hc <;> simp only [cOp] at hc <;> (try (cases hc; done))
  case build t ps => repeat' (first | (cases hc; done) | split at hc)
  case buildSlice t len ps => repeat' (first | (cases hc; done) | split at hc)
  case load t a => split at hc <;> cases hc
  case alloc t => split at hc <;> cases hc
  case store t a v =>
    split at hc
    · rename_i n hn; cases hc; exact st_store hop hn
    · cases hc
  case binOp op t x y yt =>
    split at hc
    · cases hcc : (isC x || isC y) <;> rw [hcc] at hc <;> cases hc
    · cases hc
  case convert s d x =>
    unfold cConv at hc
    split at hc
    · repeat' (first | (cases hc; done) | split at hc)
    · repeat' (first | (cases hc; done) | split at hc)
    · rename_i el hd
      split at hc
      · repeat' (first | (cases hc; done) | split at hc)
      · rename_i e0 hs
        cases hb : Nat.beq s d with
        | false => rw [hb] at hc; cases hc
        | true =>
          rw [hb] at hc
          simp only [cond_true] at hc
          split at hc
          · rename_i he; cases hc; exact st_mark hop hs hd hb he
          · cases hc
      · cases hc
    · cases hc
  case makeInterface t x => repeat' (first | (cases hc; done) | split at hc)
  case makeFunc fn first caps =>
    cases fn <;> simp only at hc <;> (try (cases hc; done))
    repeat' (first | (cases hc; done) | split at hc)
  case makeMap t r => cases r <;> cases hc
  case makeSlice t l c => repeat' (first | (cases hc; done) | split at hc)
  case slice t x lo hi mx =>
    split at hc
    · cases mx with
      | none => simp only at hc; split at hc <;> cases hc
      | some m => cases hc
    · cases mx <;> cases hc
    · split at hc
      · cases hm : (mx.isSome && hi.isNone) <;> rw [hm] at hc <;> cases hc
      · cases hc
    · cases hc
  case fieldAddr t x k => repeat' (first | (cases hc; done) | split at hc)
  case field t x k => repeat' (first | (cases hc; done) | split at hc)
  case indexAddr t x i => repeat' (first | (cases hc; done) | split at hc)
  case index t x i => repeat' (first | (cases hc; done) | split at hc)
  case lookup t x i ok =>
    split at hc
    · rename_i k el hu
      split at hc
      · cases hq : keyOk (eqT P k) <;> rw [hq] at hc <;> cases hc
      · cases hc
    · cases hc
  case mapUpdate t m k v =>
    split at hc
    · rename_i kt el hu
      cases hq : keyOk (eqT P kt) <;> rw [hq] at hc <;> cases hc
      exact st_mapUpd hop hu hq
    · cases hc
  case mapEntry t m k =>
    split at hc
    · rename_i kt el hu
      split at hc
      · rename_i z hz
        cases hq : keyOk (eqT P kt) <;> rw [hq] at hc <;> cases hc
        exact st_mapEnt hop hu hz hq
      · cases hc
    · cases hc
  case entryStore t m s x => cases hc; exact st_entSt hop
  case typeAssert x xt t ok => repeat' (first | (cases hc; done) | split at hc)
  case defer c => repeat' (first | (cases hc; done) | split at hc)
  case call c =>
    split at hc
    · rename_i b hb
      cases b <;> simp only [cBuiltin] at hc <;> (try (cases hc; done))
      case len => repeat' (first | (cases hc; done) | split at hc)
      case cap => repeat' (first | (cases hc; done) | split at hc)
      case max => repeat' (first | (cases hc; done) | split at hc)
      case min => repeat' (first | (cases hc; done) | split at hc)
      case panic => repeat' (first | (cases hc; done) | split at hc)
      case copy =>
        split at hc
        · rename_i d s hl
          obtain ⟨y, m, hy, rfl, hm⟩ := list_more hl
          obtain ⟨z, rfl, rfl⟩ := list_one hm.symm
          split at hc
          · rename_i i hi
            cases hc
            rw [Option.bind_eq_some_iff] at hi
            obtain ⟨t, ht, hi⟩ := hi
            exact st_copy hop hb hy ht hi
          · cases hc
        · cases hc
      case clear =>
        split at hc
        · rename_i x hl
          obtain ⟨y, hy, rfl⟩ := list_one hl
          split at hc
          · rename_i i hi
            split at hc
            · rename_i z hz
              cases hc
              rw [Option.bind_eq_some_iff] at hi
              obtain ⟨t, ht, hi⟩ := hi
              exact st_clear hop hb hy ht hi hz
            · cases hc
          · cases hc
        · cases hc
      case append =>
        split at hc
        · rename_i d s hl
          obtain ⟨y, m, hy, rfl, hm⟩ := list_more hl
          obtain ⟨z, rfl, rfl⟩ := list_one hm.symm
          split at hc
          · rename_i i hi
            rw [Option.bind_eq_some_iff] at hi
            obtain ⟨t, ht, hi⟩ := hi
            split at hc
            · rename_i k hk
              rw [Option.bind_eq_some_iff] at hk
              obtain ⟨t2, ht2, hk⟩ := hk
              split at hc
              · rename_i zv hz
                split at hc
                · rename_i hh
                  cases hc
                  exact st_appZ hop hb hy ht hi ht2 hk hz hh.2.2.2 hh.1 hh.2.1 hh.2.2.1
                · cases hc
              · cases hc
            · rename_i d2 hn2 hk
              rw [Option.bind_eq_some_iff] at hk
              obtain ⟨t2, ht2, hk⟩ := hk
              split at hc
              · rename_i zv hz
                split at hc
                · rename_i hh
                  cases hc
                  exact st_app hop hb hy ht hi ht2 hk (fun k e1 => hn2 k (by rw [e1])) hz hh.2.2 hh.1 hh.2.1
                · cases hc
              · cases hc
            · cases hc
          · cases hc
        · cases hc
    · rename_i g hg
      cases g <;> cases hc
    · cases hc
end Go.Ev

namespace Go.Ev
variable {P : Program} {o : Oper} {e e' : T V} {h h' : Hp}

def Same (e e' : T V) (l : List Operand) : Prop := ∀ x ∈ l, (cO x).ev e = (cO x).ev e'

theorem evL_congr : ∀ {l : List Operand}, Same e e' l → evL e (l.map cO) = evL e' (l.map cO)
  | [], _ => rfl
  | x :: l, hs => by
    simp only [List.map_cons, evL]
    rw [hs x (by simp), evL_congr (fun y hy => hs y (by simp [hy]))]
theorem mmL_congr (b : Bool) : ∀ {l : List Operand} (v : V), Same e e' l → mmL b e (l.map cO) v = mmL b e' (l.map cO) v
  | [], _, _ => rfl
  | x :: l, v, hs => by
    simp only [List.map_cons, mmL]
    rw [hs x (by simp)]
    cases mm b v ((cO x).ev e') with
    | none => rfl
    | some z => exact mmL_congr b z (fun y hy => hs y (by simp [hy]))
theorem oev_congr {x : Option Operand} (hs : ∀ y, x = some y → (cO y).ev e = (cO y).ev e') : oev e (x.map cO) = oev e' (x.map cO) := by
  cases x with
  | none => rfl
  | some y => simp only [Option.map_some, oev]; rw [hs y rfl]
theorem fillP_congr {place : Nat → Option (Nat × Nat)} : ∀ {ps : List (Nat × Operand)} {l : List (Nat × Nat × Od)} {z : List V}, partsT place ps = some l → Same e e' (ps.map (·.2)) → fillP e l z = fillP e' l z
  | [], l, z, hp, _ => by simp [partsT] at hp; subst hp; rfl
  | (i, x) :: ps, l, z, hp, hs => by
    simp only [partsT] at hp
    cases h1 : place i with
    | none => simp [h1] at hp
    | some on =>
      obtain ⟨a, n⟩ := on
      simp only [h1] at hp
      cases h2 : partsT place ps with
      | none => simp [h2] at hp
      | some l' =>
        simp only [h2, Option.some.injEq] at hp; subst hp
        simp only [fillP]
        rw [hs x (by simp)]
        cases Nat.beq ((cO x).ev e').cells.length n <;> simp only [cond_false, cond_true]
        cases allScalar ((cO x).ev e').cells <;> simp only [cond_false, cond_true]
        cases splice a z ((cO x).ev e').cells with
        | none => rfl
        | some z' => exact fillP_congr h2 (fun y hy => hs y (by simp [hy]))

theorem same1 {x : Operand} {l : List Operand} (hs : Same e e' l) (hx : x ∈ l) : (cO x).ev e = (cO x).ev e' := hs x hx

theorem builtin_congr {b : Builtin} {c : Call} {f : T V → Hp → Option V} (hc : cBuiltin P b (c.args.toList.map cO) c.argTypes = .pu f) (hs : Same e e' c.args.toList) : f e h = f e' h' := by
  cases b <;> simp only [cBuiltin] at hc <;> (try (cases hc; done))
  case append => repeat' (first | (cases hc; done) | split at hc)
  case clear => repeat' (first | (cases hc; done) | split at hc)
  case copy => repeat' (first | (cases hc; done) | split at hc)
  case panic => repeat' (first | (cases hc; done) | split at hc)
  case len =>
    split at hc
    · rename_i x hx
      obtain ⟨y, hy, rfl⟩ := list_one hx
      have := hs y (by simp [hy])
      split at hc
      · cases hc; simp only [this]
      · cases hc; simp only [this]
      · cases hc
    · cases hc
  case cap =>
    split at hc
    · rename_i x hx
      obtain ⟨y, hy, rfl⟩ := list_one hx
      have := hs y (by simp [hy])
      split at hc
      · cases hc; simp only [this]
      · cases hc
    · cases hc
  case max =>
    split at hc
    · rename_i x r hx
      obtain ⟨y, m, hy, rfl, rfl⟩ := list_more hx
      cases hc
      rw [hy] at hs
      simp only [hs y (by simp)]
      exact mmL_congr _ _ (fun z hz => hs z (by simp [hz]))
    · cases hc
  case min =>
    split at hc
    · rename_i x r hx
      obtain ⟨y, m, hy, rfl, rfl⟩ := list_more hx
      cases hc
      rw [hy] at hs
      simp only [hs y (by simp)]
      exact mmL_congr _ _ (fun z hz => hs z (by simp [hz]))
    · cases hc

theorem pu_congr {f : T V → Hp → Option V} (hc : cOp P o.op = .pu f) (hs : Same e e' o.op.operands.toList) (hh : isLook o.op = true → h = h') : f e h = f e' h' := by
  cases hop : o.op <;> rw [hop] at hc hs hh <;> simp only [cOp] at hc <;> (try (cases hc; done)) <;> simp only [Op.operands] at hs
  case move x => cases hc; simp only [hs x (by simp)]
  case assign x => cases hc; simp only [hs x (by simp)]
  case pick c a b => cases hc; simp only [hs c (by simp), hs a (by simp), hs b (by simp)]
  case alloc t => split at hc <;> cases hc
  case build t ps =>
    have hs' : Same e e' (ps.toList.map (·.2)) := by simpa using hs
    split at hc
    · split at hc
      · split at hc
        · rename_i l hl
          cases hc
          simp only [fillP_congr hl hs']
        · cases hc
      · cases hc
    · split at hc
      · split at hc
        · split at hc
          · rename_i l hl
            cases hc
            simp only [fillP_congr hl hs']
          · cases hc
        · cases hc
      · cases hc
    · cases hc
  case buildSlice t len ps => repeat' (first | (cases hc; done) | split at hc)
  case load t a =>
    have := hh rfl; subst this
    split at hc
    · cases hc; simp only [hs a (by simp)]
    · cases hc
  case store t a v => split at hc <;> cases hc
  case nilCheck x => cases hc; simp only [hs x (by simp)]
  case binOp op t x y yt =>
    have h1 := hs x (by simp)
    have h2 := hs y (by simp)
    split at hc
    · cases hcc : (isC x || isC y) with
      | false => rw [hcc] at hc; cases hc
      | true => rw [hcc] at hc; cases hc; simp only [h1, h2]
    · cases hc; simp only [h1, h2]
  case unOp op t x => cases hc; simp only [hs x (by simp)]
  case convert s d x =>
    have h1 := hs x (by simp)
    have := hh rfl; subst this
    unfold cConv at hc
    split at hc
    · split at hc
      · cases hc; simp only [h1]
      · cases hc
    · split at hc
      · cases hc; simp only [h1]
      · split at hc
        · cases hc; simp only [h1]
        · cases hc
      · cases hc
    · repeat' (first | (cases hc; done) | split at hc)
      all_goals (cases hb : Nat.beq s d <;> rw [hb] at hc <;> cases hc)
    · cases hc
  case makeInterface t x =>
    split at hc
    · cases hc
    · cases hc; simp only [hs x (by simp)]
    · cases hc
  case makeFunc fn first caps =>
    cases fn <;> simp only at hc <;> (try (cases hc; done))
    split at hc
    · cases hc; simp only [evL_congr (l := caps.toList) (fun y hy => hs y (by simp at hy ⊢; exact .inr hy))]
    · cases hc
  case makeMap t r => cases r <;> cases hc
  case makeSlice t l c => repeat' (first | (cases hc; done) | split at hc)
  case slice t x lo hi mx =>
    have h1 := hs x (by simp)
    have h2 : oev e (lo.map cO) = oev e' (lo.map cO) := oev_congr fun y hy => hs y (by simp [hy])
    have h3 : oev e (hi.map cO) = oev e' (hi.map cO) := oev_congr fun y hy => hs y (by simp [hy])
    have h4 : oev e (mx.map cO) = oev e' (mx.map cO) := oev_congr fun y hy => hs y (by simp [hy])
    split at hc
    · cases mx with
      | none =>
        simp only at hc
        split at hc
        · cases hc; simp only [h1, h2, h3]
        · cases hc
      | some m => cases hc
    · cases mx with
      | none => cases hc; simp only [h1, h2, h3]
      | some m => cases hc
    · split at hc
      · cases hm : (mx.isSome && hi.isNone) with
        | true => rw [hm] at hc; cases hc
        | false => rw [hm] at hc; cases hc; have e1 := hh rfl; subst e1; simp only [h1, h2, h3, h4]
      · cases hc
    · cases hc
  case fieldAddr t x k =>
    have h1 := hs x (by simp)
    split at hc
    · split at hc
      · split at hc
        · cases hc; simp only [h1]
        · cases hc
      · cases hc
    · cases hc
  case field t x k =>
    have h1 := hs x (by simp)
    split at hc
    · split at hc
      · split at hc
        · cases hc; simp only [h1]
        · cases hc
      · cases hc
    · cases hc
  case indexAddr t x i =>
    have h1 := hs x (by simp)
    have h2 := hs i (by simp)
    split at hc
    · split at hc
      · cases hc; simp only [h1, h2]
      · cases hc
    · split at hc
      · cases hc; simp only [h1, h2]
      · cases hc
    · cases hc
  case index t x i =>
    have h1 := hs x (by simp)
    have h2 := hs i (by simp)
    split at hc
    · cases hc; simp only [h1, h2]
    · split at hc
      · split at hc
        · cases hc; simp only [h1, h2]
        · cases hc
      · cases hc
    · cases hc
  case lookup t x i ok =>
    have := hh rfl; subst this
    have h1 := hs x (by simp)
    have h2 := hs i (by simp)
    split at hc
    · rename_i k el hu
      split at hc
      · cases hq : keyOk (eqT P k) with
        | false => rw [hq] at hc; cases hc
        | true => rw [hq] at hc; cases hc; simp only [h1, h2]
      · cases hc
    · cases hc
  case mapUpdate t m k v =>
    split at hc
    · rename_i kt el hu
      cases hq : keyOk (eqT P kt) <;> rw [hq] at hc <;> cases hc
    · cases hc
  case mapEntry t m k =>
    split at hc
    · rename_i kt el hu
      split at hc
      · cases hq : keyOk (eqT P kt) <;> rw [hq] at hc <;> cases hc
      · cases hc
    · cases hc
  case typeAssert x xt t ok =>
    have h1 := hs x (by simp)
    split at hc
    · cases hc
    · split at hc
      · cases hc; simp only [h1]
      · cases hc
    · cases hc
  case extract x i => cases hc; simp only [hs x (by simp)]
  case call c =>
    split at hc
    · rename_i b hb
      refine builtin_congr hc (fun x hx => hs x ?_)
      simp only [Call.operands, hb]
      simpa using hx
    · rename_i g hg
      cases g <;> cases hc
    · cases hc
  case defer c => repeat' (first | (cases hc; done) | split at hc)

theorem al_congr {f : T V → Option (Blk × (Pa → V))} (hc : cOp P o.op = .al f) (hs : Same e e' o.op.operands.toList) : f e = f e' := by
  cases hop : o.op <;> rw [hop] at hc hs <;> simp only [cOp] at hc <;> (try (cases hc; done)) <;> simp only [Op.operands] at hs
  case alloc t =>
    split at hc
    · cases hc; rfl
    · cases hc
  case box t x => cases hc; simp only [hs x (by simp)]
  case build t ps => repeat' (first | (cases hc; done) | split at hc)
  case buildSlice t len ps =>
    have hs' : Same e e' (ps.toList.map (·.2)) := by simpa using hs
    split at hc
    · split at hc
      · split at hc
        · split at hc
          · rename_i l hl
            cases hc
            simp only [fillP_congr hl hs']
          · cases hc
        · cases hc
      · cases hc
    · cases hc
  case load t a => split at hc <;> cases hc
  case store t a v => split at hc <;> cases hc
  case binOp op t x y yt =>
    split at hc
    · cases hcc : (isC x || isC y) <;> rw [hcc] at hc <;> cases hc
    · cases hc
  case convert s d x =>
    have h1 := hs x (by simp)
    unfold cConv at hc
    split at hc
    · repeat' (first | (cases hc; done) | split at hc)
    · repeat' (first | (cases hc; done) | split at hc)
    · split at hc
      · split at hc
        · cases hc; simp only [h1]
        · cases hc
      · cases hb : Nat.beq s d with
        | false => rw [hb] at hc; cases hc
        | true =>
          rw [hb] at hc
          simp only [cond_true] at hc
          split at hc <;> cases hc
      · cases hc
    · cases hc
  case makeInterface t x => repeat' (first | (cases hc; done) | split at hc)
  case makeFunc fn first caps =>
    cases fn <;> simp only at hc <;> (try (cases hc; done))
    repeat' (first | (cases hc; done) | split at hc)
  case makeMap t r =>
    cases r with
    | none => cases hc; rfl
    | some r => cases hc
  case makeSlice t l c =>
    have h1 := hs l (by simp)
    have h2 := hs c (by simp)
    split at hc
    · split at hc
      · split at hc
        · cases hc; simp only [h1, h2]
        · cases hc
      · cases hc
    · cases hc
  case slice t x lo hi mx =>
    split at hc
    · cases mx with
      | none => simp only at hc; split at hc <;> cases hc
      | some m => cases hc
    · cases mx <;> cases hc
    · split at hc
      · cases hm : (mx.isSome && hi.isNone) <;> rw [hm] at hc <;> cases hc
      · cases hc
    · cases hc
  case fieldAddr t x k => repeat' (first | (cases hc; done) | split at hc)
  case field t x k => repeat' (first | (cases hc; done) | split at hc)
  case indexAddr t x i => repeat' (first | (cases hc; done) | split at hc)
  case index t x i => repeat' (first | (cases hc; done) | split at hc)
  case lookup t x i ok =>
    split at hc
    · rename_i k el hu
      split at hc
      · cases hq : keyOk (eqT P k) <;> rw [hq] at hc <;> cases hc
      · cases hc
    · cases hc
  case mapUpdate t m k v =>
    split at hc
    · rename_i kt el hu
      cases hq : keyOk (eqT P kt) <;> rw [hq] at hc <;> cases hc
    · cases hc
  case mapEntry t m k =>
    split at hc
    · rename_i kt el hu
      split at hc
      · cases hq : keyOk (eqT P kt) <;> rw [hq] at hc <;> cases hc
      · cases hc
    · cases hc
  case typeAssert x xt t ok => repeat' (first | (cases hc; done) | split at hc)
  case call c =>
    split at hc
    · rename_i b hb
      cases b <;> simp only [cBuiltin] at hc <;> (try (cases hc; done)) <;> repeat' (first | (cases hc; done) | split at hc)
    · rename_i g hg
      cases g <;> cases hc
    · cases hc
  case defer c => repeat' (first | (cases hc; done) | split at hc)

theorem st_congr {f : T V → Hp → Option (V × Hp)} (hc : cOp P o.op = .st f) (hs : Same e e' o.op.operands.toList) : f e h = f e' h := by
  cases hop : o.op <;> rw [hop] at hc hs <;> simp only [cOp] at hc <;> (try (cases hc; done)) <;> simp only [Op.operands] at hs
  case build t ps => repeat' (first | (cases hc; done) | split at hc)
  case buildSlice t len ps => repeat' (first | (cases hc; done) | split at hc)
  case load t a => split at hc <;> cases hc
  case alloc t => split at hc <;> cases hc
  case store t a v =>
    have h1 := hs a (by simp)
    have h2 := hs v (by simp)
    split at hc
    · cases hc; simp only [h1, h2]
    · cases hc
  case binOp op t x y yt =>
    split at hc
    · cases hcc : (isC x || isC y) <;> rw [hcc] at hc <;> cases hc
    · cases hc
  case convert s d x =>
    have h1 := hs x (by simp)
    unfold cConv at hc
    split at hc
    · repeat' (first | (cases hc; done) | split at hc)
    · repeat' (first | (cases hc; done) | split at hc)
    · split at hc
      · repeat' (first | (cases hc; done) | split at hc)
      · cases hb : Nat.beq s d with
        | false => rw [hb] at hc; cases hc
        | true =>
          rw [hb] at hc
          simp only [cond_true] at hc
          split at hc
          · cases hc; simp only [h1]
          · cases hc
      · cases hc
    · cases hc
  case makeInterface t x => repeat' (first | (cases hc; done) | split at hc)
  case makeFunc fn first caps =>
    cases fn <;> simp only at hc <;> (try (cases hc; done))
    repeat' (first | (cases hc; done) | split at hc)
  case makeMap t r => cases r <;> cases hc
  case makeSlice t l c => repeat' (first | (cases hc; done) | split at hc)
  case slice t x lo hi mx =>
    split at hc
    · cases mx with
      | none => simp only at hc; split at hc <;> cases hc
      | some m => cases hc
    · cases mx <;> cases hc
    · split at hc
      · cases hm : (mx.isSome && hi.isNone) <;> rw [hm] at hc <;> cases hc
      · cases hc
    · cases hc
  case fieldAddr t x k => repeat' (first | (cases hc; done) | split at hc)
  case field t x k => repeat' (first | (cases hc; done) | split at hc)
  case indexAddr t x i => repeat' (first | (cases hc; done) | split at hc)
  case index t x i => repeat' (first | (cases hc; done) | split at hc)
  case lookup t x i ok =>
    split at hc
    · rename_i k el hu
      split at hc
      · cases hq : keyOk (eqT P k) <;> rw [hq] at hc <;> cases hc
      · cases hc
    · cases hc
  case mapUpdate t m k v =>
    have h1 := hs m (by simp)
    have h2 := hs k (by simp)
    have h3 := hs v (by simp)
    split at hc
    · rename_i kt el hu
      cases hq : keyOk (eqT P kt) <;> rw [hq] at hc <;> cases hc
      simp only [h1, h2, h3]
    · cases hc
  case mapEntry t m k =>
    have h1 := hs m (by simp)
    have h2 := hs k (by simp)
    split at hc
    · rename_i kt el hu
      split at hc
      · rename_i z hz
        cases hq : keyOk (eqT P kt) <;> rw [hq] at hc <;> cases hc
        simp only [h1, h2]
      · cases hc
    · cases hc
  case entryStore t m s x =>
    have h1 := hs m (by simp)
    have h2 := hs s (by simp)
    have h3 := hs x (by simp)
    cases hc; simp only [h1, h2, h3]
  case typeAssert x xt t ok => repeat' (first | (cases hc; done) | split at hc)
  case defer c => repeat' (first | (cases hc; done) | split at hc)
  case call c =>
    split at hc
    · rename_i b hb
      have hs' : Same e e' c.args.toList := fun x hx => hs x (by simp only [Call.operands, hb]; simpa using hx)
      cases b <;> simp only [cBuiltin] at hc <;> (try (cases hc; done))
      case len => repeat' (first | (cases hc; done) | split at hc)
      case cap => repeat' (first | (cases hc; done) | split at hc)
      case max => repeat' (first | (cases hc; done) | split at hc)
      case min => repeat' (first | (cases hc; done) | split at hc)
      case panic => repeat' (first | (cases hc; done) | split at hc)
      case copy =>
        split at hc
        · rename_i d s hl
          obtain ⟨y, m, hy, rfl, hm⟩ := list_more hl
          obtain ⟨z, rfl, rfl⟩ := list_one hm.symm
          have h1 := hs' y (by simp [hy])
          have h2 := hs' z (by simp [hy])
          split at hc
          · cases hc; simp only [h1, h2]
          · cases hc
        · cases hc
      case clear =>
        split at hc
        · rename_i x hl
          obtain ⟨y, hy, rfl⟩ := list_one hl
          have h1 := hs' y (by simp [hy])
          split at hc
          · split at hc
            · cases hc; simp only [h1]
            · cases hc
          · cases hc
        · cases hc
      case append =>
        split at hc
        · rename_i d s hl
          obtain ⟨y, m, hy, rfl, hm⟩ := list_more hl
          obtain ⟨z, rfl, rfl⟩ := list_one hm.symm
          have h1 := hs' y (by simp [hy])
          have h2 := hs' z (by simp [hy])
          split at hc
          · split at hc
            · split at hc
              · split at hc
                · cases hc; simp only [h1, h2]
                · cases hc
              · cases hc
            · split at hc
              · split at hc
                · cases hc; simp only [h1, h2]
                · cases hc
              · cases hc
            · cases hc
          · cases hc
        · cases hc
    · rename_i g hg
      cases g <;> cases hc
    · cases hc

end Go.Ev
