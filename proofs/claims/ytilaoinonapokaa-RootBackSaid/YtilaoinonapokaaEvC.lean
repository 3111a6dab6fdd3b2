/- A program of this law is run by an evaluator that is proved right: operations that look, and that make memory. It holds for every program of the model. -/
import Derived.Test.YtilaoinonapokaaEvB
namespace Go.Ev
variable {C : Cx} {α : AM} {Λ : Pa → Prop} {h : Hp} {ls : List LE} {w : World} {e : T V} {ρ : Operand → Value}
variable {P : Program} {o : Oper}

theorem pu_fAddr {t : TypeId} {fs : Array Field} {x : Operand} {k n : Nat} {g : Field} (ho : o.op = .fieldAddr t x k) (ht : P.underlying t = some (.struct fs)) (hg : fs[k]? = some g)
    (hn : sizeT P g.type = some (n + 1)) :
    PuOk P o fun e _ => match (cO x).ev e with
      | .ptr a o => some (.ptr a (o + g.offset))
      | _ => none := by
  intro C α Λ h ls w e ρ v _ _ hρ hv
  dsimp only at hv
  have hx := hρ x
  revert hv
  generalize (cO x).ev e = a at hx
  intro hv
  cases a <;> simp only at hv <;> (try (cases hv; done))
  rename_i a off
  simp only [Option.some.injEq] at hv; subst hv
  generalize hc : ρ x = d at hx
  obtain ⟨i, hi, hin⟩ := sizeT_some hn
  cases hx with
  | ptr _ _ L ha =>
    refine ⟨.pointer (some ⟨L.blk, L.base + (off + g.offset), none⟩), ?_, .ptr _ _ _ ha⟩
    simp only [execOp, ho, hc]
    refine r_val ?_
    have hne : i.size ≠ 0 := by omega
    simp [Instr.fieldAt, r_und ht, hg, Instr.sureAddr, fieldPlace, r_size hi, hne, add_at, Nat.add_assoc]

theorem part_sound {t : TypeId} {n : Option Nat} (hn : shapeT P t = some n) {l : List V} {cs : List Value} (hl : VRs α l cs) {off : Nat} {v : V} (hv : part n l off = some v) :
    ∃ c, (Go.part t cs.toArray off).run P w = .ok c w ∧ VR α v c := by
  cases n with
  | none =>
    simp only [part, nth_eq] at hv
    obtain ⟨i, hi, hagg⟩ := shapeT_none hn
    obtain ⟨c, h1, h2⟩ := hl.get hv
    exact ⟨c, r_part1 (hagg w) (by simpa using h1), h2⟩
  | some n =>
    obtain ⟨i, hi, hsz, hagg⟩ := shapeT_some hn
    simp only [part, dropN_eq] at hv
    cases htk : takeN n (l.drop off) with
    | none => simp [htk] at hv
    | some r =>
      simp only [htk, Option.some.injEq] at hv; subst hv
      obtain ⟨_, hr⟩ := takeN_eq htk
      refine ⟨.agg ((cs.drop off).take n).toArray, ?_, ?_⟩
      · simp [Go.part, hagg w, r_size hi, hsz, List.take_drop]
      · rw [hr]; exact .agg _ _ ((hl.drop off).take n)

theorem pu_field {t : TypeId} {fs : Array Field} {x : Operand} {k : Nat} {n : Option Nat} {g : Field} (ho : o.op = .field t x k) (ht : P.underlying t = some (.struct fs)) (hg : fs[k]? = some g)
    (hn : shapeT P g.type = some n) :
    PuOk P o fun e _ => match (cO x).ev e with
      | .agg l => part n l g.offset
      | _ => none := by
  intro C α Λ h ls w e ρ v _ _ hρ hv
  dsimp only at hv
  have hx := hρ x
  revert hv
  generalize (cO x).ev e = a at hx
  intro hv
  cases a <;> simp only at hv <;> (try (cases hv; done))
  generalize hc : ρ x = d at hx
  cases hx with
  | agg l cs hl =>
    obtain ⟨c, h1, h2⟩ := part_sound (P := P) (w := w) hn hl hv
    refine ⟨c, ?_, h2⟩
    simp only [execOp, ho, hc]
    refine r_val ?_
    simp only [Instr.field, Sem.run_bind, r_und ht, Result.andThen_ok, hg, asAgg, Sem.run_pure]
    exact h1

/-- an index -/
theorem int_of {a : V} {c : Value} {k : IntKind} {j : Nat} (h : VR α a c) (ha : a = .int k (.ofNat j)) : c = .int k (.ofNat j) := by
  subst ha; cases h; rfl

theorem pu_iAddrS {t el : TypeId} {i : TypeInfo} {x ix : Operand} (ho : o.op = .indexAddr t x ix) (ht : P.underlying t = some (.slice el)) (hi : P.info? el = some i) :
    PuOk P o fun e _ => match (cO ix).ev e with
      | .int _ j => match j with
        | .ofNat j => match (cO x).ev e with
          | .sl a o n _ => bif Nat.blt j n then some (.ptr a (o + j * i.size)) else none
          | _ => none
        | .negSucc _ => none
      | _ => none := by
  intro C α Λ h ls w e ρ v _ _ hρ hv
  dsimp only at hv
  have hx := hρ x
  have hj := hρ ix
  revert hv
  generalize (cO x).ev e = a at hx
  generalize (cO ix).ev e = b at hj
  intro hv
  cases b <;> simp only at hv <;> (try (cases hv; done))
  rename_i k j
  cases j <;> simp only at hv <;> (try (cases hv; done))
  rename_i j
  cases a <;> simp only at hv <;> (try (cases hv; done))
  rename_i a off n c
  cases hb : Nat.blt j n with
  | false => simp [hb] at hv
  | true =>
    simp only [hb, cond_true, Option.some.injEq] at hv; subst hv
    have hjn : j < n := by simpa using hb
    generalize hc : ρ x = d at hx
    have hj' := int_of hj rfl
    cases hx with
    | sl _ _ _ _ L capC ha hn hcap =>
      refine ⟨.pointer (some ⟨L.blk, L.base + (off + j * i.size), none⟩), ?_, .ptr _ _ _ ha⟩
      simp only [execOp, ho, hc, hj']
      refine r_val ?_
      simp [Instr.indexAt, asIntOf, r_und ht, hjn, r_size hi, add_at, Nat.add_assoc]
    | sl0 => exact absurd hjn (Nat.not_lt_zero _)

theorem pu_iAddrA {t el : TypeId} {i : TypeInfo} {x ix : Operand} {n : Nat} (ho : o.op = .indexAddr t x ix) (ht : P.underlying t = some (.array n el)) (hi : P.info? el = some i) :
    PuOk P o fun e _ => match (cO ix).ev e with
      | .int _ j => match j with
        | .ofNat j => match (cO x).ev e with
          | .ptr a o => bif Nat.blt j n then some (.ptr a (o + j * i.size)) else none
          | _ => none
        | .negSucc _ => none
      | _ => none := by
  intro C α Λ h ls w e ρ v _ _ hρ hv
  dsimp only at hv
  have hx := hρ x
  have hj := hρ ix
  revert hv
  generalize (cO x).ev e = a at hx
  generalize (cO ix).ev e = b at hj
  intro hv
  cases b <;> simp only at hv <;> (try (cases hv; done))
  rename_i k j
  cases j <;> simp only at hv <;> (try (cases hv; done))
  rename_i j
  cases a <;> simp only at hv <;> (try (cases hv; done))
  rename_i a off
  cases hb : Nat.blt j n with
  | false => simp [hb] at hv
  | true =>
    simp only [hb, cond_true, Option.some.injEq] at hv; subst hv
    have hjn : j < n := by simpa using hb
    generalize hc : ρ x = d at hx
    have hj' := int_of hj rfl
    cases hx with
    | ptr _ _ L ha =>
      refine ⟨.pointer (some ⟨L.blk, L.base + (off + j * i.size), none⟩), ?_, .ptr _ _ _ ha⟩
      simp only [execOp, ho, hc, hj']
      refine r_val ?_
      simp [Instr.indexAt, asIntOf, r_und ht, hjn, Instr.sureAddr, r_size hi, add_at, Nat.add_assoc]

theorem pu_indexS {t : TypeId} {x ix : Operand} (ho : o.op = .index t x ix) (ht : P.underlying t = some .string) :
    PuOk P o fun e _ => match (cO ix).ev e with
      | .int _ j => match j with
        | .ofNat j => match (cO x).ev e with
          | .str s => match nth s j with | some b => some (byteV b) | none => none
          | _ => none
        | .negSucc _ => none
      | _ => none := by
  intro C α Λ h ls w e ρ v _ _ hρ hv
  dsimp only at hv
  have hx := hρ x
  have hj := hρ ix
  revert hv
  generalize (cO x).ev e = a at hx
  generalize (cO ix).ev e = b at hj
  intro hv
  cases b <;> simp only at hv <;> (try (cases hv; done))
  rename_i k j
  cases j <;> simp only at hv <;> (try (cases hv; done))
  rename_i j
  cases a <;> simp only at hv <;> (try (cases hv; done))
  generalize hc : ρ x = d at hx
  have hj' := int_of hj rfl
  cases hx with
  | str s =>
    rw [nth_eq] at hv
    cases hb : s.data.toList[j]? with
    | none => simp [hb] at hv
    | some b =>
      simp only [hb, Option.some.injEq] at hv; subst hv
      refine ⟨.int .u8 b.toNat, ?_, .int _ _⟩
      simp only [execOp, ho, hc, hj']
      refine r_val ?_
      have : s[j]? = some b := by
        have hlt : j < s.data.toList.length := (List.getElem?_eq_some_iff.1 hb).1
        have hlt' : j < s.size := by rwa [len_data] at hlt
        rw [ByteArray.getElem?_lt' s j hlt']
        have h2 := (List.getElem?_eq_some_iff.1 hb).2
        rw [← h2]; simp; rfl
      simp [Instr.index, asIntOf, r_und ht, this]

theorem pu_indexA {t el : TypeId} {i : TypeInfo} {x ix : Operand} {len : Nat} {n : Option Nat} (ho : o.op = .index t x ix) (ht : P.underlying t = some (.array len el)) (hi : P.info? el = some i)
    (hn : shapeT P el = some n) :
    PuOk P o fun e _ => match (cO ix).ev e with
      | .int _ j => match j with
        | .ofNat j => match (cO x).ev e with
          | .agg l => bif Nat.blt j len then part n l (j * i.size) else none
          | _ => none
        | .negSucc _ => none
      | _ => none := by
  intro C α Λ h ls w e ρ v _ _ hρ hv
  dsimp only at hv
  have hx := hρ x
  have hj := hρ ix
  revert hv
  generalize (cO x).ev e = a at hx
  generalize (cO ix).ev e = b at hj
  intro hv
  cases b <;> simp only at hv <;> (try (cases hv; done))
  rename_i k j
  cases j <;> simp only at hv <;> (try (cases hv; done))
  rename_i j
  cases a <;> simp only at hv <;> (try (cases hv; done))
  cases hb : Nat.blt j len with
  | false => simp [hb] at hv
  | true =>
    simp only [hb, cond_true] at hv
    have hjn : j < len := by simpa using hb
    generalize hc : ρ x = d at hx
    have hj' := int_of hj rfl
    cases hx with
    | agg l cs hl =>
      obtain ⟨c, h1, h2⟩ := part_sound (P := P) (w := w) hn hl hv
      refine ⟨c, ?_, h2⟩
      simp only [execOp, ho, hc, hj']
      refine r_val ?_
      simp only [Instr.index, asIntOf, Sem.run_bind, Sem.run_pure, Result.andThen_ok, r_und ht]
      have : (0 : Int) ≤ Int.ofNat j ∧ Int.ofNat j < (len : Int) := ⟨by simp, by simpa using hjn⟩
      rw [if_pos this]
      simp only [Sem.run_bind, r_size hi, Result.andThen_ok]
      exact h1

theorem pu_ext {x : Operand} {i : Nat} (ho : o.op = .extract x i) :
    PuOk P o fun e _ => match (cO x).ev e with
      | .tup l => nth l i
      | _ => none := by
  intro C α Λ h ls w e ρ v _ _ hρ hv
  dsimp only at hv
  have hx := hρ x
  revert hv
  generalize (cO x).ev e = a at hx
  intro hv
  cases a <;> simp only [nth_eq] at hv <;> (try (cases hv; done))
  generalize hc : ρ x = d at hx
  cases hx with
  | tup l cs hl =>
    obtain ⟨c, h1, h2⟩ := hl.get hv
    refine ⟨c, ?_, h2⟩
    simp only [execOp, ho, hc]
    refine r_val ?_
    have : (⟨cs⟩ : Array Value)[i]? = some c := by simpa using h1
    simp [Instr.extract, this]

theorem withOk_R {ok b : Bool} {v : V} {c : Value} (h : VR α v c) : VR α (withOk ok v b) (if ok then .tuple #[c, .bool b] else c) := by
  cases ok with
  | true => exact .tup _ _ (.cons _ _ _ _ h (.cons _ _ _ _ (.bool b) .nil))
  | false => exact h

theorem pu_assert {t xt : TypeId} {d : TypeDesc} {x : Operand} {ok : Bool} {z : V} (ho : o.op = .typeAssert x xt t ok) (ht : P.underlying t = some d) (hd : ∀ m, d ≠ .interface m) (hz : zeroT P t = some z) :
    PuOk P o fun e _ => match (cO x).ev e with
      | .iface t' v => bif Nat.beq t t' then some (withOk ok v true) else bif ok then some (.tup [z, .bool false]) else none
      | .no k => match k with
        | .iface => bif ok then some (.tup [z, .bool false]) else none
        | _ => none
      | _ => none := by
  intro C α Λ h ls w e ρ v _ _ hρ hv
  dsimp only at hv
  obtain ⟨i, zv, hi, hzi, rfl⟩ := zeroT_some hz
  have hx := hρ x
  revert hv
  generalize (cO x).ev e = a at hx
  intro hv
  have zr : VR α (.tup [ofV zv, .bool false]) (.tuple #[zv, .bool false]) := .tup _ _ (.cons _ _ _ _ (ofV_R α zv) (.cons _ _ _ _ (.bool false) .nil))
  cases a <;> simp only at hv <;> (try (cases hv; done))
  · rename_i k
    cases k <;> simp only at hv <;> (try (cases hv; done))
    cases ok with
    | false => simp at hv
    | true =>
      simp only [cond_true, Option.some.injEq] at hv; subst hv
      generalize hc : ρ x = d' at hx
      cases hx
      refine ⟨_, ?_, zr⟩
      simp only [execOp, ho, hc]
      refine r_val ?_
      simp only [Instr.typeAssert, Sem.run_bind, r_und ht, Result.andThen_ok]
      cases d <;> first | (simp [r_zero hi hzi]; done) | exact absurd rfl (hd _)
  · rename_i t' u
    generalize hc : ρ x = d' at hx
    cases hx with
    | iface _ _ c hu =>
      cases hb : Nat.beq t t' with
      | true =>
        have := Nat.eq_of_beq_eq_true hb; subst this
        simp only [hb, cond_true, Option.some.injEq] at hv; subst hv
        refine ⟨_, ?_, withOk_R hu⟩
        simp only [execOp, ho, hc]
        refine r_val ?_
        simp only [Instr.typeAssert, Sem.run_bind, r_und ht, Result.andThen_ok]
        cases d <;> first | (simp; done) | exact absurd rfl (hd _)
      | false =>
        have hne : ¬ t' = t := by intro e1; subst e1; simp at hb
        simp only [hb, cond_false] at hv
        cases ok with
        | false => simp at hv
        | true =>
          simp only [cond_true, Option.some.injEq] at hv; subst hv
          refine ⟨_, ?_, zr⟩
          simp only [execOp, ho, hc]
          refine r_val ?_
          simp only [Instr.typeAssert, Sem.run_bind, r_und ht, Result.andThen_ok]
          cases d <;> first | (simp [hne, r_zero hi hzi]; done) | exact absurd rfl (hd _)

/-! ## builtins -/
theorem r_builtin {b : Builtin} {c : Call} {ty : TypeId} (hc : c.callee = .builtin b) :
    ∃ k, (do let d ← resolve ρ c ty; invoke d.target d.args : Sem Next).run P w = (builtin b c.argTypes ty k (c.args.map ρ)).run P w :=
  ⟨_, by simp only [resolve, hc, Sem.run_bind, Sem.run_pure, Result.andThen_ok, invoke]; rfl⟩

theorem args1 {c : Call} {y : Operand} (ha : c.args.toList = [y]) : c.args = #[y] := by
  rw [← Array.toArray_toList (xs := c.args), ha]

theorem pu_lenSl {c : Call} {y : Operand} {t el : TypeId} (ho : o.op = .call c) (hc : c.callee = .builtin .len) (ha : c.args.toList = [y]) (ht : c.argTypes[0]? = some t) (hu : P.underlying t = some (.slice el)) :
    PuOk P o fun e _ => lenSl ((cO y).ev e) := by
  intro C α Λ h ls w e ρ v _ _ hρ hv
  dsimp only at hv
  have hx := hρ y
  revert hv
  generalize (cO y).ev e = a at hx
  intro hv
  suffices hs : ∃ r, (Builtin.len_ c.argTypes o.type #[ρ y]).run P w = .ok r w ∧ VR α v r by
    obtain ⟨r, h1, h2⟩ := hs
    refine ⟨r, ?_, h2⟩
    simp only [execOp, ho]
    obtain ⟨k, hk⟩ := r_builtin (P := P) (w := w) (ρ := ρ) (ty := o.type) hc
    rw [hk, args1 ha]
    simp only [builtin, List.map_toArray, List.map_cons, List.map_nil]
    exact r_val h1
  cases a <;> simp only [lenSl] at hv <;> (try (cases hv; done))
  · rename_i a off n cc
    simp only [Option.some.injEq] at hv; subst hv
    generalize ρ y = d at hx ⊢
    cases hx <;> exact ⟨_, by simp [Builtin.len_, ht, r_und hu]; rfl, .int _ _⟩
  · rename_i k
    cases k <;> simp only at hv <;> (try (cases hv; done))
    simp only [Option.some.injEq] at hv; subst hv
    generalize ρ y = d at hx ⊢
    cases hx
    exact ⟨_, by simp [Builtin.len_, ht, r_und hu]; rfl, .int _ _⟩

theorem pu_lenStr {c : Call} {y : Operand} {t : TypeId} (ho : o.op = .call c) (hc : c.callee = .builtin .len) (ha : c.args.toList = [y]) (ht : c.argTypes[0]? = some t) (hu : P.underlying t = some .string) :
    PuOk P o fun e _ => lenStr ((cO y).ev e) := by
  intro C α Λ h ls w e ρ v _ _ hρ hv
  dsimp only at hv
  have hx := hρ y
  revert hv
  generalize (cO y).ev e = a at hx
  intro hv
  cases a <;> simp only [lenStr] at hv <;> (try (cases hv; done))
  simp only [Option.some.injEq] at hv; subst hv
  generalize hd : ρ y = d at hx
  cases hx with
  | str s =>
    rw [len_data]
    refine ⟨goInt s.size, ?_, .int _ _⟩
    simp only [execOp, ho]
    obtain ⟨k, hk⟩ := r_builtin (P := P) (w := w) (ρ := ρ) (ty := o.type) hc
    rw [hk, args1 ha]
    simp only [builtin, List.map_toArray, List.map_cons, List.map_nil, hd]
    exact r_val (by simp [Builtin.len_, ht, r_und hu])

theorem pu_cap {c : Call} {y : Operand} {t el : TypeId} (ho : o.op = .call c) (hc : c.callee = .builtin .cap) (ha : c.args.toList = [y]) (ht : c.argTypes[0]? = some t) (hu : P.underlying t = some (.slice el)) :
    PuOk P o fun e _ => capSl ((cO y).ev e) := by
  intro C α Λ h ls w e ρ v _ _ hρ hv
  dsimp only at hv
  have hx := hρ y
  revert hv
  generalize (cO y).ev e = a at hx
  intro hv
  suffices hs : ∃ r, (Builtin.cap_ c.argTypes o.type #[ρ y]).run P w = .ok r w ∧ VR α v r by
    obtain ⟨r, h1, h2⟩ := hs
    refine ⟨r, ?_, h2⟩
    simp only [execOp, ho]
    obtain ⟨k, hk⟩ := r_builtin (P := P) (w := w) (ρ := ρ) (ty := o.type) hc
    rw [hk, args1 ha]
    simp only [builtin, List.map_toArray, List.map_cons, List.map_nil]
    exact r_val h1
  cases a <;> simp only [capSl] at hv <;> (try (cases hv; done))
  · rename_i a off n cc
    cases cc with
    | un s => simp at hv
    | ex cc =>
      simp only [Option.some.injEq] at hv; subst hv
      generalize ρ y = d at hx ⊢
      cases hx with
      | sl _ _ _ _ L capC h1 hn hcap =>
        simp only [CapR] at hcap; subst hcap
        exact ⟨_, by simp [Builtin.cap_, ht, r_und hu]; rfl, .int _ _⟩
      | sl0 _ _ _ ad hcap =>
        have := sl0_ex hcap; subst this
        exact ⟨_, by simp [Builtin.cap_, ht, r_und hu]; rfl, .int _ _⟩
  · rename_i k
    cases k <;> simp only at hv <;> (try (cases hv; done))
    simp only [Option.some.injEq] at hv; subst hv
    generalize ρ y = d at hx ⊢
    cases hx
    exact ⟨_, by simp [Builtin.cap_, ht, r_und hu]; rfl, .int _ _⟩

theorem mm_sound {b : Bool} {x y v : V} {c d : Value} (hx : VR α x c) (hy : VR α y d) (hv : mm b x y = some v) :
    ∃ r, (if b then Builtin.max2 c d else Builtin.min2 c d).run P w = .ok r w ∧ VR α v r := by
  cases x <;> simp only [mm] at hv <;> (try (cases hv; done))
  cases y <;> simp only at hv <;> (try (cases hv; done))
  rename_i k i k' j
  cases hk : kEq k k' with
  | false => simp [hk] at hv
  | true =>
    have := kEq_iff hk; subst this
    simp only [hk, cond_true, Option.some.injEq, iLt_eq] at hv
    subst hv
    cases hx; cases hy
    cases b with
    | true =>
      refine ⟨.int k (if j > i then j else i), by simp [Builtin.max2], ?_⟩
      by_cases hlt : i < j
      · simp [hlt]; exact .int _ _
      · simp [hlt]; exact .int _ _
    | false =>
      refine ⟨.int k (if j < i then j else i), by simp [Builtin.min2], ?_⟩
      by_cases hlt : j < i
      · simp [hlt]; exact .int _ _
      · simp [hlt]; exact .int _ _

theorem mmL_sound (b : Bool) (hρ : OdR α e ρ) : ∀ (l : List Operand) (x v : V) (c : Value), VR α x c → mmL b e (l.map cO) x = some v →
    ∃ r, ((l.map ρ).foldlM (fun p q => if b then Builtin.max2 p q else Builtin.min2 p q) c).run P w = .ok r w ∧ VR α v r
  | [], x, v, c, hx, hv => by simp [mmL] at hv; subst hv; exact ⟨c, by simp, hx⟩
  | y :: l, x, v, c, hx, hv => by
    simp only [List.map_cons, mmL] at hv
    cases hm : mm b x ((cO y).ev e) with
    | none => simp [hm] at hv
    | some z =>
      simp only [hm] at hv
      obtain ⟨r, h1, h2⟩ := mm_sound (P := P) (w := w) hx (hρ y) hm
      obtain ⟨r', h3, h4⟩ := mmL_sound b hρ l z v r h2 hv
      refine ⟨r', ?_, h4⟩
      simp only [List.map_cons, List.foldlM_cons, Sem.run_bind, h1, Result.andThen_ok, h3]

theorem pu_mm {c : Call} {y : Operand} {l : List Operand} (b : Bool) (ho : o.op = .call c) (hc : c.callee = .builtin (if b then .max else .min)) (ha : c.args.toList = y :: l) :
    PuOk P o fun e _ => mmL b e (l.map cO) ((cO y).ev e) := by
  intro C α Λ h ls w e ρ v _ _ hρ hv
  dsimp only at hv
  obtain ⟨r, h1, h2⟩ := mmL_sound (P := P) (w := w) b hρ l _ v (ρ y) (hρ y) hv
  refine ⟨r, ?_, h2⟩
  simp only [execOp, ho]
  obtain ⟨kk, hkk⟩ := r_builtin (P := P) (w := w) (ρ := ρ) (ty := o.type) hc
  rw [hkk]
  have : (c.args.map ρ).toList = ρ y :: l.map ρ := by simp [ha]
  cases b with
  | true =>
    simp only [if_true, builtin]
    exact r_val (by simp only [Builtin.max_, this]; simpa using h1)
  | false =>
    simp only [Bool.false_eq_true, if_false, builtin]
    exact r_val (by simp only [Builtin.min_, this]; simpa using h1)
end Go.Ev

namespace Go.Ev
variable {C : Cx} {α : AM} {Λ : Pa → Prop} {h : Hp} {ls : List LE} {w : World} {e : T V} {ρ : Operand → Value}
variable {P : Program} {o : Oper}

theorem allScalar_bot : allScalar [V.no .bot] = false := rfl

theorem cells_R {v : V} {c : Value} (h : VR α v c) (hs : allScalar v.cells = true) : VRs α v.cells c.cells.toList := by
  refine h.cells ?_
  intro e; subst e
  simp [V.cells, allScalar_bot] at hs

/-- parts put into their places: what comes of it -/
theorem foldl_set (off : Nat) : ∀ (vs : List Value) (k : Nat) (cells : Array Value),
    ((vs.zipIdx k).foldl (fun cs (p : Value × Nat) => cs.setIfInBounds (off + p.2) p.1) cells).size = cells.size ∧
    ∀ j, j < cells.size → ((vs.zipIdx k).foldl (fun cs (p : Value × Nat) => cs.setIfInBounds (off + p.2) p.1) cells)[j]? =
      if off + k ≤ j ∧ j < off + k + vs.length then vs[j - off - k]? else cells[j]?
  | [], k, cells => by
    refine ⟨rfl, fun j hj => ?_⟩
    have : ¬ (off + k ≤ j ∧ j < off + k + ([] : List Value).length) := by simp
    rw [if_neg this]
    simp
  | v :: vs, k, cells => by
    obtain ⟨h1, h2⟩ := foldl_set off vs (k + 1) (cells.setIfInBounds (off + k) v)
    simp only [List.zipIdx_cons, List.foldl_cons]
    refine ⟨by rw [h1]; simp, fun j hj => ?_⟩
    rw [h2 j (by simpa using hj)]
    by_cases hc : off + (k + 1) ≤ j ∧ j < off + (k + 1) + vs.length
    · have hc' : off + k ≤ j ∧ j < off + k + (v :: vs).length := by simp; omega
      rw [if_pos hc, if_pos hc']
      have : j - off - k = (j - off - (k + 1)) + 1 := by omega
      rw [this]; simp
    · rw [if_neg hc]
      by_cases he : j = off + k
      · subst he
        have hc' : off + k ≤ off + k ∧ off + k < off + k + (v :: vs).length := by simp
        rw [if_pos hc']
        have : off + k - off - k = 0 := by omega
        rw [this]
        simp [hj]
      · have hc' : ¬ (off + k ≤ j ∧ j < off + k + (v :: vs).length) := by simp; omega
        rw [if_neg hc', Array.getElem?_setIfInBounds_ne (by omega)]

theorem splice_R {o : Nat} {z xs z' : List V} (h : splice o z xs = some z') {zc xc : List Value} (hz : VRs α z zc) (hx : VRs α xs xc) :
    o + xc.length ≤ zc.length ∧ ∀ r : Array Value, r.size = zc.length → (∀ j, j < zc.length → r[j]? = if o ≤ j ∧ j < o + xc.length then xc[j - o]? else zc[j]?) → VRs α z' r.toList := by
  obtain ⟨h1, h2⟩ := splice_eq h
  have l1 := hz.length
  have l2 := hx.length
  refine ⟨by omega, fun r hr hget => ?_⟩
  refine VRs.of_get (by rw [h2]; simp; omega) fun i v hv => ?_
  have hi : i < z'.length := (List.getElem?_eq_some_iff.1 hv).1
  have hlen : z'.length = zc.length := by rw [h2]; simp; omega
  have hg := hget i (by omega)
  rw [show r.toList[i]? = r[i]? from by simp, hg]
  rw [h2] at hv
  by_cases c1 : i < o
  · rw [if_neg (by omega)]
    rw [List.append_assoc, List.getElem?_append_left (by simp; omega), List.getElem?_take_of_lt c1] at hv
    exact hz.get hv
  · by_cases c2 : i < o + xc.length
    · rw [if_pos ⟨by omega, c2⟩]
      rw [List.append_assoc, List.getElem?_append_right (by simp; omega), List.getElem?_append_left (by simp; omega)] at hv
      have : i - (z.take o).length = i - o := by simp; omega
      rw [this] at hv
      exact hx.get hv
    · rw [if_neg (by omega)]
      rw [List.getElem?_append_right (by simp; omega), List.getElem?_drop] at hv
      have : o + xs.length + (i - (List.take o z ++ xs).length) = i := by simp; omega
      rw [this] at hv
      exact hz.get hv

theorem fill_sound {place : Nat → Option (Nat × Nat)} (hρ : OdR α e ρ) : ∀ (ps : List (Nat × Operand)) (l : List (Nat × Nat × Od)) (z z' : List V) (zc : List Value),
    partsT place ps = some l → fillP e l z = some z' → VRs α z zc →
    ∃ zc', Instr.fill place zc.toArray (ps.map fun p => (p.1, ρ p.2)) = some zc'.toArray ∧ VRs α z' zc'
  | [], l, z, z', zc, hl, hz, hr => by
    simp [partsT] at hl; subst hl
    simp [fillP] at hz; subst hz
    exact ⟨zc, rfl, hr⟩
  | (i, x) :: ps, l, z, z', zc, hl, hz, hr => by
    simp only [partsT] at hl
    cases hp : place i with
    | none => simp [hp] at hl
    | some p =>
      obtain ⟨off, n⟩ := p
      simp only [hp] at hl
      cases hps : partsT place ps with
      | none => simp [hps] at hl
      | some l' =>
        simp only [hps, Option.some.injEq] at hl; subst hl
        simp only [fillP] at hz
        cases hb : Nat.beq ((cO x).ev e).cells.length n with
        | false => simp [hb] at hz
        | true =>
          simp only [hb, cond_true] at hz
          cases hs : allScalar ((cO x).ev e).cells with
          | false => simp [hs] at hz
          | true =>
            simp only [hs, cond_true] at hz
            cases hsp : splice off z ((cO x).ev e).cells with
            | none => simp [hsp] at hz
            | some z1 =>
              simp only [hsp] at hz
              have hn := Nat.eq_of_beq_eq_true hb
              have hcr := cells_R (hρ x) hs
              have hcl := hcr.length
              obtain ⟨g1, g2⟩ := splice_R hsp hr hcr
              obtain ⟨f1, f2⟩ := foldl_set off (ρ x).cells.toList 0 zc.toArray
              have hr1 := g2 _ (by rw [f1]; simp) (fun j hj => by rw [f2 j (by simpa using hj)]; simp)
              obtain ⟨zc', k1, k2⟩ := fill_sound hρ ps l' z1 z' _ hps hz hr1
              refine ⟨zc', ?_, k2⟩
              simp only [List.map_cons, Instr.fill, hp]
              have c1 : ¬ ((ρ x).cells.size ≠ n) := by
                have : (ρ x).cells.size = (ρ x).cells.toList.length := by simp
                omega
              have c2 : ¬ (off + (ρ x).cells.size > zc.toArray.size) := by
                have : (ρ x).cells.size = (ρ x).cells.toList.length := by simp
                simp only [List.size_toArray]; omega
              have hf : (ρ x).cells.zipIdx.foldl (fun cs (p : Value × Nat) => cs.setIfInBounds (off + p.2) p.1) zc.toArray =
                  ((ρ x).cells.toList.zipIdx 0).foldl (fun cs (p : Value × Nat) => cs.setIfInBounds (off + p.2) p.1) zc.toArray := by
                rw [← Array.foldl_toList, Array.toList_zipIdx]
              have c3 : ((ρ x).cells.size != n || decide (off + (ρ x).cells.size > zc.toArray.size)) = false := by
                simp only [Bool.or_eq_false_iff, bne_eq_false_iff_eq, decide_eq_false_iff_not]
                exact ⟨by simpa using c1, c2⟩
              have c4 : ¬ ((decide ((ρ x).cells.size ≠ n) || decide (off + (ρ x).cells.size > zc.toArray.size)) = true) := by
                simp only [Bool.or_eq_true, decide_eq_true_eq]
                exact fun h => h.elim c1 c2
              rw [if_neg c4]
              have k1' := k1
              simp only [Array.toArray_toList] at k1'
              rw [← hf] at k1'
              exact k1'

theorem r_places {fs : Array Field} (hf : fs.toList.all (fun f => (sizeT P f.type).isSome) = true) :
    (fs.mapM (fun f => do pure (f.offset, ← sizeOf f.type)) : Sem (Array (Nat × Nat))).run P w = .ok (fs.map fun f => (f.offset, P.cellsOf f.type)) w := by
  rw [Array.mapM_eq_mapM_toList]
  have : ∀ l : List Field, l.all (fun f => (sizeT P f.type).isSome) = true →
      (l.mapM (fun f => do pure (f.offset, ← sizeOf f.type)) : Sem (List (Nat × Nat))).run P w = .ok (l.map fun f => (f.offset, P.cellsOf f.type)) w := by
    intro l
    induction l with
    | nil => intro _; simp
    | cons f l ih =>
      intro hl
      simp only [List.all_cons, Bool.and_eq_true] at hl
      obtain ⟨n, hn⟩ := Option.isSome_iff_exists.1 hl.1
      obtain ⟨i, hi, hin⟩ := sizeT_some hn
      have hc : P.cellsOf f.type = i.size := by simp [Program.cellsOf, hi]
      simp only [List.mapM_cons, Sem.run_bind, r_size hi, Result.andThen_ok, Sem.run_pure, ih hl.2, List.map_cons, hc]
  rw [Sem.run_map, this fs.toList hf, ← Array.toList_map, Result.andThen_ok, Array.toArray_toList]

theorem ofS_one (c : Value) : (ofS c).cells = [ofS c] := by
  unfold ofS; split <;> rfl
theorem ofV_cells (c : Value) : VRs α (ofV c).cells c.cells.toList := by
  unfold ofV
  split
  · rename_i cs; exact ofS_list α cs.toList
  · rename_i hne
    rw [ofS_one]
    have : c.cells = #[c] := by cases c <;> first | rfl | exact absurd rfl (hne _)
    rw [this]
    exact .cons _ _ _ _ (ofS_R α _) .nil

theorem pu_build {t : TypeId} {fs : Array Field} {ps : Array (Nat × Operand)} {z : V} {l : List (Nat × Nat × Od)} (ho : o.op = .build t ps) (ht : P.underlying t = some (.struct fs))
    (hf : fs.toList.all (fun f => (sizeT P f.type).isSome) = true) (hz : zeroT P t = some z)
    (hl : partsT (fun i => (fs[i]?).bind fun f => (sizeT P f.type).map fun n => (f.offset, n)) ps.toList = some l) :
    PuOk P o fun e _ => match fillP e l z.cells with | some l => some (.agg l) | none => none := by
  intro C α Λ h ls w e ρ v _ _ hρ hv
  dsimp only at hv
  obtain ⟨i, zv, hi, hzi, rfl⟩ := zeroT_some hz
  cases hfi : fillP e l (ofV zv).cells with
  | none => simp [hfi] at hv
  | some z' =>
    simp only [hfi, Option.some.injEq] at hv; subst hv
    have hzr : VRs α (ofV zv).cells zv.cells.toList := ofV_cells zv
    obtain ⟨zc', k1, k2⟩ := fill_sound hρ ps.toList l _ z' _ hl hfi hzr
    refine ⟨.agg zc'.toArray, ?_, .agg _ _ k2⟩
    simp only [execOp, ho]
    refine r_val ?_
    have hplace : (fun (i : Nat) => (fs.map fun (f : Field) => (f.offset, P.cellsOf f.type))[i]?) = (fun (i : Nat) => (fs[i]?).bind fun (f : Field) => (sizeT P f.type).map fun n => (f.offset, n)) := by
      funext j
      simp only [Array.getElem?_map]
      cases hj : fs[j]? with
      | none => simp
      | some f =>
        have hm : f ∈ fs.toList := by
          have := Array.getElem?_eq_some_iff.1 hj
          obtain ⟨h1, h2⟩ := this
          rw [← h2]; simp
        have := (List.all_eq_true.1 hf) f hm
        obtain ⟨n, hn⟩ := Option.isSome_iff_exists.1 this
        obtain ⟨i', hi', hin'⟩ := sizeT_some hn
        have hc : P.cellsOf f.type = n := by simp [Program.cellsOf, hi', hin']
        simp [hn, hc]
    simp only [Instr.build, Sem.run_bind, r_zero hi hzi, Result.andThen_ok, r_und ht, r_places hf]
    have : (ps.map fun (p : Nat × Operand) => (p.1, ρ p.2)).toList = ps.toList.map fun p => (p.1, ρ p.2) := by simp
    have k3 : Instr.fill (fun (i : Nat) => (fs.map fun (f : Field) => (f.offset, P.cellsOf f.type))[i]?) zv.cells (ps.map fun (p : Nat × Operand) => (p.1, ρ p.2)).toList = some zc'.toArray := by
      rw [this, hplace]
      simpa using k1
    simp only [k3]
    rfl

theorem pu_buildArr {t el : TypeId} {i' : TypeInfo} {len : Nat} {ps : Array (Nat × Operand)} {z : V} {l : List (Nat × Nat × Od)} (ho : o.op = .build t ps) (ht : P.underlying t = some (.array len el))
    (hi' : P.info? el = some i') (hz : zeroT P t = some z)
    (hl : partsT (fun i => some (i * i'.size, i'.size)) ps.toList = some l) :
    PuOk P o fun e _ => match fillP e l z.cells with | some l => some (.agg l) | none => none := by
  intro C α Λ h ls w e ρ v _ _ hρ hv
  dsimp only at hv
  obtain ⟨i, zv, hi, hzi, rfl⟩ := zeroT_some hz
  cases hfi : fillP e l (ofV zv).cells with
  | none => simp [hfi] at hv
  | some z' =>
    simp only [hfi, Option.some.injEq] at hv; subst hv
    have hzr : VRs α (ofV zv).cells zv.cells.toList := ofV_cells zv
    obtain ⟨zc', k1, k2⟩ := fill_sound hρ ps.toList l _ z' _ hl hfi hzr
    refine ⟨.agg zc'.toArray, ?_, .agg _ _ k2⟩
    simp only [execOp, ho]
    refine r_val ?_
    simp only [Instr.build, Sem.run_bind, r_zero hi hzi, Result.andThen_ok, r_und ht, r_size hi']
    have : (ps.map fun (p : Nat × Operand) => (p.1, ρ p.2)).toList = ps.toList.map fun p => (p.1, ρ p.2) := by simp
    have k3 : Instr.fill (fun i => some (i * i'.size, i'.size)) zv.cells (ps.map fun (p : Nat × Operand) => (p.1, ρ p.2)).toList = some zc'.toArray := by
      rw [this]; simpa using k1
    simp only [k3]
    rfl
end Go.Ev

namespace Go.Ev
variable {C : Cx} {α : AM} {Λ : Pa → Prop} {h : Hp} {ls : List LE} {w : World} {e : T V} {ρ : Operand → Value}
variable {P : Program} {o : Oper}

/-- entries and their fellows -/
def EntR (α : AM) (es : List (V × V × Nat)) (ents : List MapEntry) : Prop :=
  ents.length = es.length ∧ ∀ (i : Nat) (t : V × V × Nat), es[i]? = some t → ∃ x, ents[i]? = some x ∧ VR α t.1 x.key ∧ VR α t.2.1 x.val ∧ x.born = t.2.2

theorem EntR.cons {t : V × V × Nat} {es : List (V × V × Nat)} {ents : List MapEntry} (h : EntR α (t :: es) ents) :
    ∃ x r, ents = x :: r ∧ VR α t.1 x.key ∧ VR α t.2.1 x.val ∧ x.born = t.2.2 ∧ EntR α es r := by
  obtain ⟨h1, h2⟩ := h
  cases ents with
  | nil => simp at h1
  | cons x r =>
    obtain ⟨y, hy, k1, k2, k3⟩ := h2 0 t (by simp)
    simp at hy; subst hy
    exact ⟨x, r, rfl, k1, k2, k3, by simpa using h1, fun i u hu => by simpa using h2 (i + 1) u (by simpa using hu)⟩

/-- what is found, and its fellow -/
def FoundR (α : AM) : Option (Nat × V) → Option (Nat × Value) → Prop
  | none, none => True
  | some (i, v), some (j, c) => i = j ∧ VR α v c
  | _, _ => False

theorem ask_sound {t : TypeId} {k : V} {kc : Value} (hk : VR α k kc) : ∀ (es : List (V × V × Nat)) (ents : List MapEntry) (i : Nat) (r : Option (Nat × V)),
    EntR α es ents → findK (eqT P t) k es i = some r → ∃ r', (Instr.findAsking t kc ents i).run P w = .ok r' w ∧ FoundR α r r'
  | [], ents, i, r, he, hr => by
    have : ents = [] := List.eq_nil_of_length_eq_zero (by simpa using he.1)
    subst this
    simp [findK] at hr; subst hr
    exact ⟨none, by simp [Instr.findAsking], trivial⟩
  | (k', v, n) :: es, ents, i, r, he, hr => by
    obtain ⟨x, rest, rfl, h1, h2, h3, h4⟩ := he.cons
    simp only [findK] at hr
    cases hq : eqV (eqT P t) k k' with
    | none => simp [hq] at hr
    | some b =>
      obtain ⟨e1, _, _⟩ := eqV_sound (P := P) (w := w) hk h1 hq
      simp only [hq] at hr
      cases b with
      | true =>
        simp only [cond_true, Option.some.injEq] at hr; subst hr
        exact ⟨some (i, x.val), by simp [Instr.findAsking, e1], rfl, h2⟩
      | false =>
        simp only [cond_false] at hr
        obtain ⟨r', g1, g2⟩ := ask_sound hk es rest (i + 1) r h4 hr
        exact ⟨r', by simp [Instr.findAsking, e1, g1], g2⟩

theorem sameNow_sound {t : TypeId} {k k' : V} {kc kc' : Value} {b b' : Bool} {d : TypeDesc} (hk : VR α k kc) (hk' : VR α k' kc') (hq : eqV (eqT P t) k k' = some b)
    (hs : Instr.sameNow d kc kc' = some b') : b = b' := by
  rcases eqV_kind hq with ⟨q, i, q', j, rfl, rfl, rfl, rfl⟩ | ⟨i, j, rfl, rfl, rfl⟩ | ⟨n1, n2, n3⟩
  · cases hk; cases hk'
    cases d <;> simp [Instr.sameNow] at hs <;> exact hs
  · cases hk with
    | str s => cases hk' with
      | str s' =>
        cases d <;> simp [Instr.sameNow] at hs
        rw [← hs]
        have := beq_toListBytes s s'
        rw [ByteArray.toList_eq, ByteArray.toList_eq] at this
        exact this.symm
  · cases hk <;> first
      | exact absurd rfl (n1 _ _)
      | exact absurd rfl (n2 _)
      | exact absurd rfl n3
      | (cases d <;> simp [Instr.sameNow] at hs; done)
      | skip
    cases hk' <;> first
      | (cases d <;> simp [Instr.sameNow] at hs; done)
      | skip
    · rename_i x y
      cases d <;> simp [Instr.sameNow] at hs
      subst hs
      cases he : eqT P t with
      | flat q =>
        rw [he] at hq
        cases q <;> simp [eqV, flatEq] at hq
        rw [← hq, bEq_eq]
      | agg l => rw [he] at hq; simp [eqV] at hq
      | _ => rw [he] at hq; simp [eqV, isNil] at hq
    all_goals
      cases he : eqT P t with
      | flat q => rw [he] at hq; cases q <;> simp [eqV, flatEq] at hq
      | agg l => rw [he] at hq; simp [eqV] at hq
      | _ => rw [he] at hq; simp [eqV, isNil] at hq

theorem now_sound {t : TypeId} {k : V} {kc : Value} {d : TypeDesc} (hk : VR α k kc) : ∀ (es : List (V × V × Nat)) (ents : List MapEntry) (i : Nat) (r : Option (Nat × V)) (r' : Option (Nat × Value)),
    EntR α es ents → findK (eqT P t) k es i = some r → Instr.findNow d kc ents i = some r' → FoundR α r r'
  | [], ents, i, r, r', he, hr, hn => by
    have : ents = [] := List.eq_nil_of_length_eq_zero (by simpa using he.1)
    subst this
    simp [findK] at hr; subst hr
    simp [Instr.findNow] at hn; subst hn
    trivial
  | (k', v, n) :: es, ents, i, r, r', he, hr, hn => by
    obtain ⟨x, rest, rfl, h1, h2, h3, h4⟩ := he.cons
    simp only [findK] at hr
    cases hq : eqV (eqT P t) k k' with
    | none => simp [hq] at hr
    | some b =>
      simp only [hq] at hr
      simp only [Instr.findNow] at hn
      cases hs : Instr.sameNow d kc x.key with
      | none => simp [hs] at hn
      | some b' =>
        have := sameNow_sound hk h1 hq hs; subst this
        cases b with
        | true =>
          simp only [cond_true, Option.some.injEq] at hr; subst hr
          simp only [hs, Option.some.injEq] at hn; subst hn
          exact ⟨rfl, h2⟩
        | false =>
          simp only [cond_false] at hr
          simp only [hs] at hn
          exact now_sound hk es rest (i + 1) r r' h4 hr hn

theorem key_und {t : TypeId} (h : keyOk (eqT P t) = true) : ∃ d, P.underlying t = some d := by
  rcases eqT_cases (P := P) t with ⟨q, h1, h2⟩ | ⟨_, fs, h1, h2, _⟩ | ⟨h1, _⟩ | ⟨h1, _⟩ | ⟨h1, _⟩ | ⟨h1, _⟩ | ⟨h1, _⟩ | h1 <;> rw [h1] at h <;> (try (cases h; done))
  · rcases flatT_some h2 with ⟨_, hu⟩ | ⟨_, k, hu⟩ | ⟨_, hu⟩ <;> exact ⟨_, hu⟩
  · exact ⟨_, h2⟩

theorem findKey_sound {t : TypeId} {k : V} {kc : Value} {es : List (V × V × Nat)} {ents : List MapEntry} {r : Option (Nat × V)} (hk : VR α k kc) (he : EntR α es ents)
    (hr : findK (eqT P t) k es 0 = some r) (hq : keyOk (eqT P t) = true) : ∃ r', (Instr.findKey t kc ents).run P w = .ok r' w ∧ FoundR α r r' := by
  obtain ⟨d, hd⟩ := key_und hq
  cases hn : Instr.findNow d kc ents 0 with
  | some r' => exact ⟨r', by simp [Instr.findKey, r_und hd, hn], now_sound hk es ents 0 r r' he hr hn⟩
  | none =>
    obtain ⟨r', g1, g2⟩ := ask_sound (P := P) (w := w) hk es ents 0 r he hr
    exact ⟨r', by simp [Instr.findKey, r_und hd, hn, g1], g2⟩

theorem fitsF_check {t : TypeId} {q : FlatK} (ht : flatT P t = some q) (b : Bool) (n : Nat) (c : Value) : (Instr.checkKey b (n + 1) t c).run P w = .ok () w := by
  rcases flatT_some ht with ⟨_, hu⟩ | ⟨_, k, hu⟩ | ⟨_, hu⟩ <;>
    (simp only [Instr.checkKey, Sem.run_bind, r_und hu, Result.andThen_ok]; cases c <;> rfl)

theorem checkFields {xs : List V} {cs : List Value} (hx : VRs α xs cs) (b : Bool) (n : Nat) : ∀ (fs : List Field) (l : List (Nat × FlatK)), flatOffs P fs = some l → fitsL xs l = true →
    (forIn fs PUnit.unit (fun (f : Field) (_ : PUnit) => (do
      if f.name ≠ "_" then do
        let x ← Go.part f.type cs.toArray f.offset
        Instr.checkKey b (n + 1) f.type x
        pure (ForInStep.yield PUnit.unit)
      else pure (ForInStep.yield PUnit.unit) : Sem (ForInStep PUnit)))).run P w = .ok PUnit.unit w
  | [], l, _, _ => by simp
  | f :: fs, l, hl, hf => by
    simp only [flatOffs] at hl
    cases hfs : flatOffs P fs with
    | none => simp [hfs] at hl
    | some m =>
      simp only [hfs] at hl
      have ih := checkFields hx b n fs m hfs
      by_cases hn : f.name ≠ "_"
      · rw [if_pos hn] at hl
        cases hq : flatT P f.type with
        | none => simp [hq] at hl
        | some q =>
          simp [hq] at hl; subst hl
          simp only [fitsL, nth_eq] at hf
          cases ha : xs[f.offset]? with
          | none => simp [ha] at hf
          | some a =>
            simp only [ha] at hf
            cases hff : fitsF q a with
            | false => simp [hff] at hf
            | true =>
              simp only [hff, cond_true] at hf
              obtain ⟨c, hc, _⟩ := hx.get ha
              have hagg : ∀ w, (isAgg f.type).run P w = .ok false w := fun w => isAgg_flat hq
              have p1 := r_part1 (P := P) (w := w) (cs := cs.toArray) (o := f.offset) (hagg w) (by simpa using hc)
              simp only [List.forIn_cons, Sem.run_bind, if_pos hn, p1, Result.andThen_ok, fitsF_check hq, Sem.run_pure]
              exact ih hf
      · rw [if_neg hn] at hl
        cases hl
        simp only [List.forIn_cons, Sem.run_bind, if_neg hn, Sem.run_pure, Result.andThen_ok]
        exact ih hf

theorem fits_check {t : TypeId} {k : V} {c : Value} (hk : VR α k c) (hf : fits (eqT P t) k = true) (b : Bool) : (Instr.checkKey b 10000 t c).run P w = .ok () w := by
  have : ∃ n, (10000 : Nat) = n + 1 + 1 := ⟨9998, rfl⟩
  obtain ⟨n, hn⟩ := this
  rw [hn]; clear hn
  rcases eqT_cases (P := P) t with ⟨q, h1, h2⟩ | ⟨l, fs, h1, h2, h3, _⟩ | ⟨h1, _⟩ | ⟨h1, _⟩ | ⟨h1, _⟩ | ⟨h1, _⟩ | ⟨h1, _⟩ | h1 <;> rw [h1] at hf <;> (try (cases hf; done))
  · exact fitsF_check h2 b (n + 1) c
  · cases k <;> simp only [fits] at hf <;> (try (cases hf; done))
    cases hk with
    | agg xs cs hxs =>
      have := checkFields (P := P) (w := w) hxs b n fs.toList l h3 hf
      unfold Instr.checkKey
      simp only [Sem.run_bind, r_und h2, Result.andThen_ok]
      rw [← Array.forIn_toList]
      have e1 : ∀ {x : Sem PUnit}, x.run P w = .ok PUnit.unit w → (x.run P w).andThen (fun _ w' => (pure () : Sem Unit).run P w') = .ok () w := by
        intro x hx; rw [hx]; rfl
      exact e1 this

theorem pu_lookup {t kt el : TypeId} {x ix : Operand} {ok : Bool} {z : V} (ho : o.op = .lookup t x ix ok) (ht : P.underlying t = some (.map kt el)) (hz : zeroT P el = some z) (hq : keyOk (eqT P kt) = true) :
    PuOk P o fun e h => lookV h (eqT P kt) z ((cO x).ev e) ((cO ix).ev e) ok := by
  intro C α Λ h ls w e ρ v hC s hρ hv
  obtain ⟨i, zv, hi, hzi, rfl⟩ := zeroT_some hz
  dsimp only at hv
  unfold lookV at hv
  have hx := hρ x
  have hk := hρ ix
  generalize (cO x).ev e = a at hx hv
  generalize (cO ix).ev e = k at hk hv
  cases hm : h.mapOf a with
  | none => simp [hm] at hv
  | some es =>
    simp only [hm] at hv
    cases hf : fits (eqT P kt) k with
    | false => simp [hf] at hv
    | true =>
      simp only [hf, cond_true] at hv
      cases hr : findK (eqT P kt) k es 0 with
      | none => simp [hr] at hv
      | some r =>
        simp only [hr] at hv
        have ents : ∃ ents : Array MapEntry, EntR α es ents.toList ∧ ((ρ x = .map none ∧ ents = #[]) ∨ ∃ b clock, ρ x = .map (some b) ∧ w.heap[b]? = some (.map ents clock)) := by
          cases a <;> simp only [Heap.mapOf] at hm <;> (try (cases hm; done))
          · rename_i nk
            cases nk <;> simp only at hm <;> (try (cases hm; done))
            simp only [Option.some.injEq] at hm; subst hm
            generalize ρ x = d at hx ⊢
            cases hx
            exact ⟨#[], ⟨rfl, fun i t ht => by simp at ht⟩, .inl ⟨rfl, rfl⟩⟩
          · rename_i r
            cases hg : h.get r with
            | none => simp [hg] at hm
            | some b =>
              cases b <;> simp only [hg] at hm <;> (try (cases hm; done))
              simp only [Option.some.injEq] at hm; subst hm
              generalize ρ x = d at hx ⊢
              cases hx with
              | map _ L ha =>
                have hΛ : Λ r := by
                  rcases s.live r L _ ha hg with h1 | ⟨m, h1⟩
                  · exact h1
                  · cases h1
                obtain ⟨b', g1, g2⟩ := s.blk r L ha hΛ
                rw [hg] at g1; cases g1
                obtain ⟨ents, e1, e2, e3⟩ := g2
                refine ⟨ents, ⟨by simpa using e2, fun i t ht => by
                  obtain ⟨x, k1, k2⟩ := e3 i t ht
                  exact ⟨x, by simpa using k1, k2⟩⟩, .inr ⟨_, _, rfl, e1⟩⟩
        obtain ⟨ents, he, hrun⟩ := ents
        obtain ⟨r', g1, g2⟩ := findKey_sound (P := P) (w := w) hk he hr hq
        have goal : ∀ c, (r' = none → c = (if ok then .tuple #[zv, .bool false] else zv)) → (∀ j u, r' = some (j, u) → c = (if ok then .tuple #[u, .bool true] else u)) →
            (Instr.lookup t (ρ x) (ρ ix) ok).run P w = .ok c w := by
          intro c h1 h2
          have chk : ∀ b, (Instr.checkKey b 10000 kt (ρ ix)).run P w = .ok () w := fun b => fits_check hk hf b
          rcases hrun with ⟨hx0, rfl⟩ | ⟨b, clock, hx0, hb⟩
          · cases r' with
            | none => rw [h1 rfl]; simp only [Instr.lookup, Sem.run_bind, r_und ht, Result.andThen_ok, hx0, Sem.run_pure, chk, g1, r_zero hi hzi]
            | some p => rw [h2 p.1 p.2 rfl]; simp only [Instr.lookup, Sem.run_bind, r_und ht, Result.andThen_ok, hx0, Sem.run_pure, chk, g1]
          · have hgo : (getObj b).run P w = .ok (.map ents clock) w := by simp [getObj, Sem.run, hb]
            cases r' with
            | none => rw [h1 rfl]; simp only [Instr.lookup, Sem.run_bind, r_und ht, Result.andThen_ok, hx0, hgo, Sem.run_pure, chk, g1, r_zero hi hzi]
            | some p => rw [h2 p.1 p.2 rfl]; simp only [Instr.lookup, Sem.run_bind, r_und ht, Result.andThen_ok, hx0, hgo, Sem.run_pure, chk, g1]
        cases r with
        | none =>
          simp only [Option.some.injEq] at hv; subst hv
          cases r' with
          | none => exact ⟨_, by simp only [execOp, ho]; exact r_val (goal _ (fun _ => rfl) (fun _ _ e => by cases e)), withOk_R (ofV_R α zv)⟩
          | some p => exact g2.elim
        | some p =>
          obtain ⟨j, u⟩ := p
          simp only [Option.some.injEq] at hv; subst hv
          cases r' with
          | none => exact g2.elim
          | some p' =>
            obtain ⟨j', u'⟩ := p'
            exact ⟨_, by simp only [execOp, ho]; exact r_val (goal _ (fun e => by cases e) (fun _ _ e => by cases e; rfl)), withOk_R g2.2⟩
end Go.Ev

namespace Go.Ev
variable {P : Program} {o : Oper}

theorem all_sizes {fs : Array Field} {t : TypeId} {z : V} (h : (bif fs.toList.all (fun f => (sizeT P f.type).isSome) then zeroT P t else none) = some z) :
    fs.toList.all (fun f => (sizeT P f.type).isSome) = true ∧ zeroT P t = some z := by
  cases hh : fs.toList.all (fun f => (sizeT P f.type).isSome) with
  | false => rw [hh] at h; cases h
  | true => rw [hh] at h; exact ⟨rfl, h⟩

theorem list_one {l : List Operand} {x : Od} (h : l.map cO = [x]) : ∃ y, l = [y] ∧ x = cO y := by
  cases l with
  | nil => cases h
  | cons a l => cases l with
    | nil => cases h; exact ⟨a, rfl, rfl⟩
    | cons b l => cases h
theorem list_more {l : List Operand} {x : Od} {r : List Od} (h : l.map cO = x :: r) : ∃ y m, l = y :: m ∧ x = cO y ∧ r = m.map cO := by
  cases l with
  | nil => cases h
  | cons a l => cases h; exact ⟨a, l, rfl, rfl, rfl⟩

theorem pu_builtin {b : Builtin} {c : Call} {f : T V → Hp → Option V} (ho : o.op = .call c) (hb : c.callee = .builtin b) (hc : cBuiltin P b (c.args.toList.map cO) c.argTypes = .pu f) : PuOk P o f := by
  cases b <;> simp only [cBuiltin] at hc <;> (try (cases hc; done))
  case append =>
    repeat' (first | (cases hc; done) | split at hc)
  case clear =>
    repeat' (first | (cases hc; done) | split at hc)
  case copy =>
    repeat' (first | (cases hc; done) | split at hc)
  case panic =>
    repeat' (first | (cases hc; done) | split at hc)
  case len =>
    split at hc
    · rename_i x hx
      obtain ⟨y, hy, rfl⟩ := list_one hx
      split at hc
      · rename_i el hu
        cases hc
        rw [Option.bind_eq_some_iff] at hu
        obtain ⟨t, ht, hu⟩ := hu
        exact pu_lenSl ho hb hy ht hu
      · rename_i hu
        cases hc
        rw [Option.bind_eq_some_iff] at hu
        obtain ⟨t, ht, hu⟩ := hu
        exact pu_lenStr ho hb hy ht hu
      · cases hc
    · cases hc
  case cap =>
    split at hc
    · rename_i x hx
      obtain ⟨y, hy, rfl⟩ := list_one hx
      split at hc
      · rename_i el hu
        cases hc
        rw [Option.bind_eq_some_iff] at hu
        obtain ⟨t, ht, hu⟩ := hu
        exact pu_cap ho hb hy ht hu
      · cases hc
    · cases hc
  case max =>
    split at hc
    · rename_i x r hx
      obtain ⟨y, m, hy, rfl, rfl⟩ := list_more hx
      cases hc
      exact pu_mm true ho hb hy
    · cases hc
  case min =>
    split at hc
    · rename_i x r hx
      obtain ⟨y, m, hy, rfl, rfl⟩ := list_more hx
      cases hc
      exact pu_mm false ho hb hy
    · cases hc

theorem pu_sound {f : T V → Hp → Option V} (hc : cOp P o.op = .pu f) : PuOk P o f := by
  cases hop : o.op <;> rw [hop] at hc <;> simp only [cOp] at hc <;> (try (cases hc; done))
  case move x => cases hc; exact pu_mv (.inl hop)
  case assign x => cases hc; exact pu_mv (.inr hop)
  case pick c a b => cases hc; exact pu_pick hop
  case alloc t => split at hc <;> cases hc
  case build t ps =>
    split at hc
    · rename_i fs hu
      split at hc
      · rename_i z hz
        split at hc
        · rename_i l hl
          cases hc
          obtain ⟨h1, h2⟩ := all_sizes hz
          exact pu_build hop hu h1 h2 hl
        · cases hc
      · cases hc
    · rename_i len el hu
      split at hc
      · rename_i z hz
        split at hc
        · rename_i n hn
          split at hc
          · rename_i l hl
            cases hc
            obtain ⟨i, hi, rfl⟩ := sizeT_some hn
            exact pu_buildArr hop hu hi hz hl
          · cases hc
        · cases hc
      · cases hc
    · cases hc
  case buildSlice t len ps => repeat' (first | (cases hc; done) | split at hc)
  case load t a =>
    split at hc
    · rename_i n hn; cases hc; exact pu_load hop hn
    · cases hc
  case store t a v => split at hc <;> cases hc
  case nilCheck x => cases hc; exact pu_nil hop
  case binOp op t x y yt =>
    split at hc
    · rename_i hq
      cases hcc : (isC x || isC y) with
      | false => rw [hcc] at hc; cases hc
      | true =>
        rw [hcc] at hc; cases hc
        rw [← hq]
        exact pu_bin hop (fun _ => hcc)
    · rename_i hq
      cases hc
      exact pu_bin hop (fun e => absurd e hq)
  case unOp op t x => cases hc; exact pu_un hop
  case convert s d x =>
    unfold cConv at hc
    split at hc
    · rename_i k hk
      split at hc
      · rename_i k' hk'; cases hc; exact pu_convInt hop hk' hk
      · cases hc
    · rename_i hd
      split at hc
      · rename_i hs; cases hc; exact pu_convSame hop hs hd
      · rename_i el hs
        split at hc
        · rename_i he; cases hc; exact pu_convStr hop hs he hd
        · cases hc
      · cases hc
    · repeat' (first | (cases hc; done) | split at hc)
      all_goals (cases hb : Nat.beq s d <;> rw [hb] at hc <;> cases hc)
    · cases hc
  case makeInterface t x =>
    split at hc
    · cases hc
    · rename_i d hn hd
      cases hc
      exact pu_mkI hop hd (fun m e => hn m (by rw [← e]; first | done | exact hd))
    · cases hc
  case makeFunc fn first caps =>
    cases fn <;> simp only at hc <;> (try (cases hc; done))
    split at hc
    · rename_i hf; cases hc; exact pu_mkF hop hf
    · cases hc
  case makeMap t r => cases r <;> cases hc
  case makeSlice t l c => repeat' (first | (cases hc; done) | split at hc)
  case slice t x lo hi mx =>
    split at hc
    · rename_i n el hu
      cases mx with
      | none =>
        simp only at hc
        split at hc
        · rename_i s hs
          obtain ⟨i, hi', rfl⟩ := sizeT_some hs
          cases hc; exact pu_sliceArr hop hu hi'
        · cases hc
      | some m => cases hc
    · rename_i hu
      cases mx with
      | none => cases hc; exact pu_sliceStr hop hu
      | some m => cases hc
    · rename_i el hu
      split at hc
      · rename_i s hs
        obtain ⟨i, hi', rfl⟩ := sizeT_some hs
        cases hm : (mx.isSome && hi.isNone) with
        | true => rw [hm] at hc; cases hc
        | false =>
          rw [hm] at hc; cases hc
          refine pu_sliceSX hop hu hi' (fun h1 => ?_)
          rw [h1] at hm
          cases hi with
          | none => simp at hm
          | some _ => rfl
      · cases hc
    · cases hc
  case fieldAddr t x k =>
    split at hc
    · rename_i fs hu
      split at hc
      · rename_i g hg
        split at hc
        · rename_i n hn; cases hc; exact pu_fAddr hop hu hg hn
        · cases hc
      · cases hc
    · cases hc
  case field t x k =>
    split at hc
    · rename_i fs hu
      split at hc
      · rename_i g hg
        split at hc
        · rename_i n hn; cases hc; exact pu_field hop hu hg hn
        · cases hc
      · cases hc
    · cases hc
  case indexAddr t x i =>
    split at hc
    · rename_i n el hu
      split at hc
      · rename_i s hs
        obtain ⟨i, hi, rfl⟩ := sizeT_some hs
        cases hc; exact pu_iAddrA hop hu hi
      · cases hc
    · rename_i el hu
      split at hc
      · rename_i s hs
        obtain ⟨i, hi, rfl⟩ := sizeT_some hs
        cases hc; exact pu_iAddrS hop hu hi
      · cases hc
    · cases hc
  case index t x i =>
    split at hc
    · rename_i hu; cases hc; exact pu_indexS hop hu
    · rename_i len el hu
      split at hc
      · rename_i s hs
        obtain ⟨i, hi, rfl⟩ := sizeT_some hs
        split at hc
        · rename_i sh hsh; cases hc; exact pu_indexA hop hu hi hsh
        · cases hc
      · cases hc
    · cases hc
  case lookup t x i ok =>
    split at hc
    · rename_i k el hu
      split at hc
      · rename_i z hz
        cases hq : keyOk (eqT P k) with
        | false => rw [hq] at hc; cases hc
        | true => rw [hq] at hc; cases hc; exact pu_lookup hop hu hz hq
      · cases hc
    · cases hc
  case mapUpdate t m k v =>
    split at hc
    · rename_i kt el hu
      cases hq : keyOk (eqT P kt) <;> rw [hq] at hc <;> cases hc
    · cases hc
  case mapEntry t m k =>
    split at hc
    · rename_i kt el hu
      split at hc
      · cases hq : keyOk (eqT P kt) <;> rw [hq] at hc <;> cases hc
      · cases hc
    · cases hc
  case typeAssert x xt t ok =>
    split at hc
    · cases hc
    · rename_i d hn hd
      split at hc
      · rename_i z hz
        cases hc
        exact pu_assert hop hd (fun m e => hn m (by rw [← e]; first | done | exact hd)) hz
      · cases hc
    · cases hc
  case extract x i => cases hc; exact pu_ext hop
  case call c =>
    split at hc
    · rename_i b hb; exact pu_builtin hop hb hc
    · rename_i g hg
      cases g <;> cases hc
    · cases hc
  case defer c => repeat' (first | (cases hc; done) | split at hc)
end Go.Ev

namespace Go.Ev
variable {α : AM} {w : World} {e : T V} {ρ : Operand → Value} {P : Program} {o : Oper}

/-- an operation that makes memory makes it in the world too -/
def AlOk (P : Program) (o : Oper) (f : T V → Option (Blk × (Pa → V))) : Prop :=
  ∀ (α : AM) (w : World) (e : T V) (ρ : Operand → Value) (b : Blk) (mk : Pa → V), OdR α e ρ → f e = some (b, mk) →
    ∃ c w' top md, (execOp ρ o).run P w = .ok (.value c) w' ∧ Grew w w' ∧ b.live = true ∧ b.isRo = false ∧
      ∀ (α' : AM) (ls : List LE) (a : Pa), α.le α' → α' a = some ⟨w.heap.size, 0, top, md⟩ → BR P α' ls a b ⟨w.heap.size, 0, top, md⟩ w' ∧ VR α' (mk a) c

theorem CellsR.of_list {l : List V} {cs : Array Value} (h : VRs α l cs.toList) : CellsR α l cs 0 := by
  refine ⟨by have := h.length; simp at this; omega, fun i v hv => ?_⟩
  obtain ⟨c, h1, h2⟩ := h.get hv
  exact ⟨c, by simpa using h1, h2⟩

theorem Grew.push (w : World) (ob : Obj) : Grew w { w with heap := w.heap.push ob } := by
  refine ⟨by simp, fun i hi => ?_, rfl, rfl⟩
  simp only [Array.getElem?_push]
  rw [if_neg (by omega)]

theorem r_newRow {t : TypeId} {cs : Array Value} : (newRow t cs).run P w = .ok ⟨w.heap.size, 0, none⟩ { w with heap := w.heap.push (.cells cs t) } := by
  simp [newRow]

theorem BR_push {l : List V} {cs : Array Value} {t : TypeId} {ls : List LE} {a : Pa} (h : VRs α l cs.toList) :
    BR P α ls a (.cells l false) ⟨w.heap.size, 0, cs.size, false⟩ { w with heap := w.heap.push (.cells cs t) } :=
  ⟨cs, t, (0, 0), by simp, rfl, .inl rfl, CellsR.of_list h, fun _ => Nat.le_refl 0⟩

theorem al_alloc {t : TypeId} {z : V} (ho : o.op = .alloc t) (hz : zeroT P t = some z) : AlOk P o fun _ => some (.cells z.cells false, fun a => .ptr a 0) := by
  intro α w e ρ b mk hρ hv
  cases hv
  obtain ⟨i, zv, hi, hzi, rfl⟩ := zeroT_some hz
  refine ⟨_, _, zv.cells.size, false, ?_, Grew.push w _, rfl, rfl, fun α' ls a hle ha => ⟨BR_push (t := t) (ofV_cells zv), .ptr a 0 _ ha⟩⟩
  simp only [execOp, ho]
  exact r_val (by simp [Instr.alloc, r_zero hi hzi, newVar, r_newRow])

theorem al_box {t : TypeId} {x : Operand} (ho : o.op = .box t x) : AlOk P o fun e => bif allScalar ((cO x).ev e).cells then some (.cells ((cO x).ev e).cells false, fun a => .ptr a 0) else none := by
  intro α w e ρ b mk hρ hv
  dsimp only at hv
  cases hs : allScalar ((cO x).ev e).cells with
  | false => rw [hs] at hv; cases hv
  | true =>
    rw [hs] at hv; cases hv
    have hc := cells_R (hρ x) hs
    refine ⟨_, _, (ρ x).cells.size, false, ?_, Grew.push w _, rfl, rfl, fun α' ls a hle ha => ⟨BR_push (t := t) (hc.mono hle), .ptr a 0 _ ha⟩⟩
    simp only [execOp, ho]
    exact r_val (by simp [Instr.box, newVar, r_newRow])

theorem repL_get (z : List V) (n i : Nat) (h : i < n * z.length) : (repL z n)[i]? = z[i % z.length]? := by
  induction n generalizing i with
  | zero => simp at h
  | succ n ih =>
    simp only [repL]
    by_cases hi : i < z.length
    · rw [List.getElem?_append_left hi, Nat.mod_eq_of_lt hi]
    · rw [List.getElem?_append_right (by omega), ih _ (by rw [Nat.add_mul] at h; omega)]
      rw [Nat.mod_eq_sub_mod (by omega : z.length ≤ i)]
theorem repL_length (z : List V) (n : Nat) : (repL z n).length = n * z.length := by
  induction n with
  | zero => simp [repL]
  | succ n ih => simp [repL, ih, Nat.add_mul, Nat.add_comm]

theorem repL_R {z : List V} {zc : Array Value} (hz : VRs α z zc.toList) (n : Nat) :
    VRs α (repL z n) ((Array.range (n * z.length)).map (fun i => zc[i % zc.size]!)).toList := by
  have hl := hz.length
  simp at hl
  refine VRs.of_get (by simp [repL_length]) fun i v hv => ?_
  have hi : i < n * z.length := by
    have := (List.getElem?_eq_some_iff.1 hv).1
    rwa [repL_length] at this
  rw [repL_get z n i hi] at hv
  obtain ⟨c, h1, h2⟩ := hz.get hv
  refine ⟨c, ?_, h2⟩
  have h1' : zc[i % zc.size]? = some c := by rw [← hl]; simpa using h1
  have : zc[i % zc.size]! = c := by rw [getElem!_def, h1']
  simp [hi, this]

theorem al_buildSl {t : TypeId} {i : TypeInfo} {zv : Value} {el : TypeId} {len : Nat} {ps : Array (Nat × Operand)} {l : List (Nat × Nat × Od)} (ho : o.op = .buildSlice t len ps)
    (ht : P.underlying t = some (.slice el)) (hi : P.info? el = some i) (hz : i.zero = some zv) (hlen : len * i.size ≤ 16777216) (hzl : (ofV zv).cells.length = i.size)
    (hl : partsT (fun j => some (j * i.size, i.size)) ps.toList = some l) :
    AlOk P o fun e => match fillP e l (repL (ofV zv).cells len) with
      | some l => bif allScalar l then some (.cells l false, fun a => .sl a 0 len (.ex len)) else none
      | none => none := by
  intro α w e ρ b mk hρ hv
  dsimp only at hv
  cases hf : fillP e l (repL (ofV zv).cells len) with
  | none => rw [hf] at hv; cases hv
  | some l' =>
    rw [hf] at hv; dsimp only at hv
    cases hs : allScalar l' with
    | false => rw [hs] at hv; cases hv
    | true =>
      rw [hs] at hv; cases hv
      have hzr : VRs α (ofV zv).cells zv.cells.toList := ofV_cells zv
      have hrep := repL_R hzr len
      rw [hzl] at hrep
      obtain ⟨zc', k1, k2⟩ := fill_sound hρ ps.toList l _ l' _ hl hf hrep
      refine ⟨_, _, zc'.toArray.size, false, ?_, Grew.push w (.cells zc'.toArray el), rfl, rfl, fun α' ls a hle ha => ⟨BR_push (t := el) (by simpa using k2.mono hle), .sl a 0 len _ _ len ha (Nat.le_refl _) rfl⟩⟩
      simp only [execOp, ho]
      refine r_val ?_
      have h24 : ¬ (len * i.size > 2 ^ 24) := by omega
      have hfill : ∀ z0 : Array Value, ((Array.range (len * i.size)).map (fun i => z0[i % z0.size]!)) = ((Array.range (len * i.size)).map (fun i => zv.cells[i % zv.cells.size]!)) →
          Instr.fill (fun j => some (j * i.size, i.size)) ((Array.range (len * i.size)).map (fun i => z0[i % z0.size]!)) (ps.map fun (p : Nat × Operand) => (p.1, ρ p.2)).toList = some zc'.toArray := by
        intro z0 hz0
        have e1 : (ps.map fun (p : Nat × Operand) => (p.1, ρ p.2)).toList = ps.toList.map fun p => (p.1, ρ p.2) := by simp
        rw [Array.toArray_toList] at k1
        rw [hz0, e1]; exact k1
      simp only [Instr.buildSlice, Sem.run_bind, r_und ht, Result.andThen_ok, r_size hi, if_neg h24]
      by_cases h0 : len * i.size = 0
      · simp only [h0, if_true]
        have := hfill #[] (by rw [h0]; simp)
        rw [h0] at this
        simp only [this, Sem.run_bind, r_newRow, Result.andThen_ok, Sem.run_pure]
      · simp only [h0, if_false, Sem.run_bind, r_zero hi hz, Result.andThen_ok, Sem.run_pure]
        simp only [hfill zv.cells rfl, Sem.run_bind, r_newRow, Result.andThen_ok, Sem.run_pure]

theorem al_mkMap {t : TypeId} (ho : o.op = .makeMap t none) : AlOk P o fun _ => some (.map [] 0, fun a => .map a) := by
  intro α w e ρ b mk hρ hv
  cases hv
  refine ⟨.map (some w.heap.size), _, 0, false, ?_, Grew.push w (.map #[] 0), rfl, rfl, fun α' ls a hle ha => ⟨⟨#[], by simp, rfl, fun i t ht => by simp at ht⟩, .map a _ ha⟩⟩
  simp only [execOp, ho]
  exact r_val (by simp [Instr.makeMap])

theorem al_mkSl {t el : TypeId} {i : TypeInfo} {zv : Value} {x y : Operand} (ho : o.op = .makeSlice t x y) (ht : P.underlying t = some (.slice el)) (hi : P.info? el = some i) (hz : i.zero = some zv)
    (hzl : (ofV zv).cells.length = i.size) :
    AlOk P o fun e => match natOf ((cO x).ev e) with
      | some l => match natOf ((cO y).ev e) with
        | some c => bif Nat.ble l c && (Nat.ble c 281474976710656 && Nat.ble (i.bytes * c) 281474976710656) then some (.cells (repL (ofV zv).cells c) false, fun a => .sl a 0 l (.ex c)) else none
        | none => none
      | none => none := by
  intro α w e ρ b mk hρ hv
  dsimp only at hv
  have nat : ∀ {a : V} {c : Value} {n : Nat}, VR α a c → natOf a = some n → ∃ k, c = .int k (.ofNat n) := by
    intro a c n hac hn
    cases a with
    | int k j =>
      cases j with
      | ofNat j => simp [natOf] at hn; subst hn; cases hac; exact ⟨k, rfl⟩
      | negSucc j => simp [natOf] at hn
    | _ => simp [natOf] at hn
  cases hx : natOf ((cO x).ev e) with
  | none => rw [hx] at hv; cases hv
  | some l =>
    rw [hx] at hv; dsimp only at hv
    cases hy : natOf ((cO y).ev e) with
    | none => rw [hy] at hv; cases hv
    | some c =>
      rw [hy] at hv; dsimp only at hv
      cases hb : (Nat.ble l c && (Nat.ble c 281474976710656 && Nat.ble (i.bytes * c) 281474976710656)) with
      | false => rw [hb] at hv; cases hv
      | true =>
        rw [hb] at hv; cases hv
        simp only [Bool.and_eq_true] at hb
        obtain ⟨h1, h2, h3⟩ := hb
        have h1 := Nat.le_of_ble_eq_true h1
        have h2 := Nat.le_of_ble_eq_true h2
        have h3 := Nat.le_of_ble_eq_true h3
        obtain ⟨kx, hx'⟩ := nat (hρ x) hx
        obtain ⟨ky, hy'⟩ := nat (hρ y) hy
        have hrep := repL_R (ofV_cells (α := α) zv) c
        rw [hzl] at hrep
        refine ⟨.slice (some ⟨w.heap.size, 0, none⟩) l c, _, ((Array.range (c * i.size)).map (fun j => zv.cells[j % zv.cells.size]!)).size, false, ?_, Grew.push w (.cells ((Array.range (c * i.size)).map (fun j => zv.cells[j % zv.cells.size]!)) el), rfl, rfl,
          fun α' ls a hle ha => ⟨BR_push (t := el) (hrep.mono hle), .sl a 0 l _ _ c ha h1 rfl⟩⟩
        simp only [execOp, ho]
        refine r_val ?_
        have wl : IntKind.i64.wrap (Int.ofNat l) = Int.ofNat l := wrap_nat .i64 l (show l ≤ 9223372036854775807 by omega)
        have wc : IntKind.i64.wrap (Int.ofNat c) = Int.ofNat c := wrap_nat .i64 c (show c ≤ 9223372036854775807 by omega)
        have a1 : decide (Int.ofNat c < 0) = false := decide_eq_false (by simp)
        have a2 : decide ((i.bytes : Int) * Int.ofNat c > 2 ^ 48) = false := decide_eq_false (by
          have e1 : (i.bytes : Int) * Int.ofNat c = ((i.bytes * c : Nat) : Int) := (Int.natCast_mul _ _).symm
          rw [e1]; omega)
        have a3 : decide (Int.ofNat l < 0) = false := decide_eq_false (by simp)
        have a4 : decide (Int.ofNat l > Int.ofNat c) = false := decide_eq_false (by simpa using h1)
        have t1 : ¬ ((decide (Int.ofNat c < 0) || decide ((i.bytes : Int) * Int.ofNat c > 2 ^ 48)) || decide (Int.ofNat l < 0) || decide (Int.ofNat l > Int.ofNat c)) = true := by
          rw [a1, a2, a3, a4]; decide
        simp only [Instr.makeSlice, Sem.run_bind, r_und ht, Result.andThen_ok, asInt, asIntOf, hx', hy', Sem.run_pure, r_info hi, wl, wc, if_neg t1, run_askRoom, r_size hi]
        have e1 : (Int.ofNat c).toNat = c := rfl
        have e2 : (Int.ofNat l).toNat = l := rfl
        rw [e1, e2]
        by_cases h0 : c * i.size = 0
        · have z0 : Array.range 0 = #[] := rfl
          rw [if_pos h0, h0, z0]
          simp [newRow]
        · rw [if_neg h0]
          simp [newRow, r_zero hi hz]

theorem r_choose (q : Question) (h : q.forced = false) : (choose q).run P w = .ok (q.cut (w.tape w.drawn q)) { w with drawn := w.drawn + 1 } := by
  simp [h]

theorem freeze_at {b off : Nat} {cs : Array Value} {el : TypeId} (hb : w.heap[b]? = some (.cells cs el (0, 0))) :
    (w.freeze ⟨b, off, none⟩ 1).heap[b]? = some (.cells cs el (off, off + 1)) := by
  unfold World.freeze
  rw [if_neg (by decide)]
  simp only [Array.getElem?_modify, hb, if_true]
  simp
theorem freeze_ne {b off i : Nat} (h : i ≠ b) : (w.freeze ⟨b, off, none⟩ 1).heap[i]? = w.heap[i]? := by
  unfold World.freeze
  rw [if_neg (by decide)]
  simp only [Array.getElem?_modify]
  rw [if_neg (fun e => h e.symm)]
theorem freeze_size {b off : Nat} : (w.freeze ⟨b, off, none⟩ 1).heap.size = w.heap.size := by
  unfold World.freeze
  rw [if_neg (by decide)]
  simp

theorem freeze_still (w : World) (a : Addr) (n : Nat) : Still w (w.freeze a n) := by
  unfold World.freeze
  split <;> exact ⟨rfl, rfl⟩

theorem al_conv {sT dT el : TypeId} {x : Operand} (ho : o.op = .convert sT dT x) (hs : P.underlying sT = some .string) (hd : P.underlying dT = some (.slice el)) (he : P.underlying el = some (.int .u8)) :
    AlOk P o fun e => match (cO x).ev e with
      | .str s => some (.cells (s.map byteV) false, fun a => .sl a 0 s.length (.un 1))
      | _ => none := by
  intro α w e ρ b mk hρ hv
  dsimp only at hv
  have hx := hρ x
  generalize (cO x).ev e = a at hx hv
  cases a <;> simp only at hv <;> (try (cases hv; done))
  cases hv
  generalize hc : ρ x = d at hx
  cases hx with
  | str s =>
    obtain ⟨cap, hcap0⟩ : ∃ cap, cap = (Question.appendCap s.size 0 el).cut (w.tape w.drawn (.appendCap s.size 0 el)) := ⟨_, rfl⟩
    have hcap : s.size ≤ cap := by rw [hcap0]; exact Nat.le_add_right _ _
    obtain ⟨cs, hcs0⟩ : ∃ cs : Array Value, cs = (s.data.map fun b => .int .u8 b.toNat) ++ Array.replicate (cap - s.size) (.int .u8 0) := ⟨_, rfl⟩
    have hcs : cs.size = cap := by
      have : s.data.size = s.size := rfl
      rw [hcs0]
      simp only [Array.size_append, Array.size_map, Array.size_replicate, this]; omega
    obtain ⟨w1, hw1⟩ : ∃ w1 : World, w1 = { w with drawn := w.drawn + 1 } := ⟨_, rfl⟩
    obtain ⟨w2, hw2⟩ : ∃ w2 : World, w2 = { w1 with heap := w1.heap.push (.cells cs el) } := ⟨_, rfl⟩
    have e2 : w1.heap = w.heap := by rw [hw1]
    have hsz2 : w2.heap.size = w.heap.size + 1 := by rw [hw2, e2]; simp
    have hb2 : w2.heap[w.heap.size]? = some (.cells cs el (0, 0)) := by rw [hw2, e2]; simp
    have hw3 : (w2.freeze ⟨w.heap.size, cap, none⟩ 1).heap[w.heap.size]? = some (.cells cs el (cap, cap + 1)) := freeze_at hb2
    have hgrew : Grew w (w2.freeze ⟨w.heap.size, cap, none⟩ 1) := by
      refine ⟨by rw [freeze_size, hsz2], fun i hi => ?_, ?_⟩
      case refine_2 => exact ⟨by rw [(freeze_still _ _ _).1, hw2, hw1], by rw [(freeze_still _ _ _).2, hw2, hw1]⟩
      rw [freeze_ne (by omega), hw2, e2, Array.getElem?_push, if_neg (by omega)]
    refine ⟨.slice (some ⟨w.heap.size, 0, none⟩) s.size cap, _, cap, true, ?_, hgrew, rfl, rfl, fun α' ls a hle ha => ⟨⟨cs, el, (cap, cap + 1), hw3, hcs, .inr (by rw [hcs]; exact Nat.le_refl _), ?_, fun h => by cases h⟩, ?_⟩⟩
    · simp only [execOp, ho, hc]
      refine r_val ?_
      have hm : w2.shape? w.heap.size = some (el, cap) := by
        simp [World.shape?, hb2, hcs]
      simp only [convert, Sem.run_bind, r_und hs, r_und hd, Result.andThen_ok, r_und he, Conv.stringToBytes]
      rw [r_choose _ rfl, ← hcap0, ← hw1, Result.andThen_ok, ← hcs0, r_newRow, Result.andThen_ok, ← hw2, e2]
      simp only [markStringish, Sem.run_bind, run_shape, Result.andThen_ok, hm, run_freeze, Sem.run_pure]
    · refine ⟨by rw [List.length_map, len_data, hcs]; show 0 + s.size ≤ cap; omega, fun i v hv => ?_⟩
      rw [List.getElem?_map] at hv
      cases hb : s.data.toList[i]? with
      | none => rw [hb] at hv; cases hv
      | some b =>
        rw [hb] at hv; cases hv
        have hi : i < s.data.toList.length := (List.getElem?_eq_some_iff.1 hb).1
        have hi2 : i < s.data.size := by simpa using hi
        refine ⟨.int .u8 b.toNat, ?_, .int _ _⟩
        have hb' : s.data[i]? = some b := by simpa using hb
        rw [hcs0, Nat.zero_add, Array.getElem?_append_left (by simpa using hi2), Array.getElem?_map, hb']
        rfl
    · have h1 := VR.sl (α := α') a 0 s.size (.un 1) _ cap ha hcap (by simp [CapR])
      rwa [← len_data s] at h1

theorem al_sound {f : T V → Option (Blk × (Pa → V))} (hc : cOp P o.op = .al f) : AlOk P o f := by
  cases hop : o.op <;> rw [hop] at hc <;> simp only [cOp] at hc <;> (try (cases hc; done))
  case alloc t =>
    split at hc
    · rename_i z hz; cases hc; exact al_alloc hop hz
    · cases hc
  case box t x => cases hc; exact al_box hop
  case build t ps => repeat' (first | (cases hc; done) | split at hc)
  case buildSlice t len ps =>
    split at hc
    · rename_i i hi
      unfold elemOf? at hi
      split at hi
      · rename_i el hu
        split at hc
        · rename_i z hz
          split at hc
          · rename_i hlen
            split at hc
            · rename_i l hl
              cases hc
              exact al_buildSl hop hu hi hz hlen.1 hlen.2 hl
            · cases hc
          · cases hc
        · cases hc
      · cases hi
    · cases hc
  case load t a => split at hc <;> cases hc
  case store t a v => split at hc <;> cases hc
  case binOp op t x y yt =>
    split at hc
    · cases hcc : (isC x || isC y) <;> rw [hcc] at hc <;> cases hc
    · cases hc
  case convert s d x =>
    unfold cConv at hc
    split at hc
    · repeat' (first | (cases hc; done) | split at hc)
    · repeat' (first | (cases hc; done) | split at hc)
    · rename_i el hd
      split at hc
      · rename_i hs
        split at hc
        · rename_i he; cases hc; exact al_conv hop hs hd he
        · cases hc
      · cases hb : Nat.beq s d with
        | false => rw [hb] at hc; cases hc
        | true =>
          rw [hb] at hc
          simp only [cond_true] at hc
          split at hc <;> cases hc
      · cases hc
    · cases hc
  case makeInterface t x => repeat' (first | (cases hc; done) | split at hc)
  case makeFunc fn first caps =>
    cases fn <;> simp only at hc <;> (try (cases hc; done))
    repeat' (first | (cases hc; done) | split at hc)
  case makeMap t r =>
    cases r with
    | none => cases hc; exact al_mkMap hop
    | some r => cases hc
  case makeSlice t l c =>
    split at hc
    · rename_i i hi
      unfold elemOf? at hi
      split at hi
      · rename_i el hu
        split at hc
        · rename_i z hz
          split at hc
          · rename_i hzl; cases hc; exact al_mkSl hop hu hi hz hzl
          · cases hc
        · cases hc
      · cases hi
    · cases hc
  case slice t x lo hi mx =>
    split at hc
    · cases mx with
      | none => simp only at hc; split at hc <;> cases hc
      | some m => cases hc
    · cases mx <;> cases hc
    · split at hc
      · cases hm : (mx.isSome && hi.isNone) <;> rw [hm] at hc <;> cases hc
      · cases hc
    · cases hc
  case fieldAddr t x k => repeat' (first | (cases hc; done) | split at hc)
  case field t x k => repeat' (first | (cases hc; done) | split at hc)
  case indexAddr t x i => repeat' (first | (cases hc; done) | split at hc)
  case index t x i => repeat' (first | (cases hc; done) | split at hc)
  case lookup t x i ok =>
    split at hc
    · rename_i k el hu
      split at hc
      · cases hq : keyOk (eqT P k) <;> rw [hq] at hc <;> cases hc
      · cases hc
    · cases hc
  case mapUpdate t m k v =>
    split at hc
    · rename_i kt el hu
      cases hq : keyOk (eqT P kt) <;> rw [hq] at hc <;> cases hc
    · cases hc
  case mapEntry t m k =>
    split at hc
    · rename_i kt el hu
      split at hc
      · cases hq : keyOk (eqT P kt) <;> rw [hq] at hc <;> cases hc
      · cases hc
    · cases hc
  case typeAssert x xt t ok => repeat' (first | (cases hc; done) | split at hc)
  case call c =>
    split at hc
    · rename_i b hb
      cases b <;> simp only [cBuiltin] at hc <;> (try (cases hc; done)) <;> repeat' (first | (cases hc; done) | split at hc)
    · rename_i g hg
      cases g <;> cases hc
    · cases hc
  case defer c => repeat' (first | (cases hc; done) | split at hc)
end Go.Ev
