/- A program of this law is run by an evaluator that is proved right: the run of a region. It holds for every program of the model. -/
import Derived.Test.YtilaoinonapokaaEvD
import Derived.Calls
namespace Go.Ev
variable {P : Program}

/-! ## the machine's frames -/
structure CK where
  fn : Nat
  kind : CallKind
  round : Option Nat
def CK.fr (K : CK) (tmps : Array Value) (todo : List Go.Item) (ds : List Deferred) (m : FrameMode) : Frame :=
  { fn := K.fn, tmps, todo, defers := ds, mode := m, kind := K.kind, roundOf := K.round }
def evC (tmps : Array Value) : Operand → Value
  | .tmp t => tmps.getD t undef
  | .const v => v
  | .global g => .pointer (some ⟨g, 0, none⟩)
  | .func f => .func (.func f) #[] #[]
theorem CK.eval (K : CK) (tmps : Array Value) (todo : List Go.Item) (ds : List Deferred) (m : FrameMode) : (K.fr tmps todo ds m).eval = evC tmps := by
  funext x; cases x <;> rfl
def putC (tmps : Array Value) (dst : Option Tmp) (c : Value) : Array Value :=
  match dst with
  | some d => tmps.setIfInBounds d c
  | none => tmps
theorem putC_size (tmps : Array Value) (dst : Option Tmp) (c : Value) : (putC tmps dst c).size = tmps.size := by cases dst <;> simp [putC]

section
variable {K : CK} {tmps : Array Value} {ds : List Deferred} {k : List Go.Item} {cs : List Frame} {w w' : World} {ops : Array Oper} {i : Nat} {rest : List Nat} {o : Oper}

theorem fin_fr (ho : ops[i]? = some o) (v : Value) : (K.fr tmps (.inRegion ops (i :: rest) :: k) ds .run).finish v = K.fr (putC tmps o.dst v) (.inRegion ops rest :: k) ds .run := by
  cases h : o.dst <;> simp [Frame.finish, CK.fr, putC, ho, h]

theorem stepG_fr (ho : ops[i]? = some o) (hw : Region.wanted o (yielded ops tmps) = true) (hnd : K.round = none ∨ ∀ c, o.op ≠ .defer c) :
    stepG P true { frame := K.fr tmps (.inRegion ops (i :: rest) :: k) ds .run, callers := cs, status := .running, dying := none } w =
      stepG.apply P true (K.fr tmps (.inRegion ops (i :: rest) :: k) ds .run) cs none (execOp (evC tmps) o) w := by
  have he := CK.eval K tmps (.inRegion ops (i :: rest) :: k) ds .run
  simp only [CK.fr] at he
  simp only [stepG, stepG.exec, CK.fr, ho, Option.map_some, hw, Option.getD_some, if_true, stepG.oper, Frame.oper?, he]
  rcases hnd with h | h
  · rw [h]
  · split
    · exact absurd (by assumption) (h _)
    · rfl

theorem step_val (ho : ops[i]? = some o) (hw : Region.wanted o (yielded ops tmps) = true) (hnd : ∀ c, o.op ≠ .defer c) {n : Next} {c : Value} (hr : (execOp (evC tmps) o).run P w = .ok n w') (hn : NextR n c) :
    Go.step P (lone (K.fr tmps (.inRegion ops (i :: rest) :: k) ds .run) cs w) = .next (lone (K.fr (putC tmps o.dst c) (.inRegion ops rest :: k) ds .run) cs w') := by
  refine step_lone_go ?_
  rw [stepG_fr ho hw (.inr hnd), ← fin_fr ho]
  rcases hn with rfl | ⟨rfl, rfl⟩ <;> simp [stepG.apply, hr]

theorem step_no (ho : ops[i]? = some o) (hw : Region.wanted o (yielded ops tmps) = false) :
    Go.step P (lone (K.fr tmps (.inRegion ops (i :: rest) :: k) ds .run) cs w) = .next (lone (K.fr (putC tmps o.dst undef) (.inRegion ops rest :: k) ds .run) cs w) := by
  refine step_lone_go ?_
  rw [← fin_fr ho]
  simp only [CK.fr]
  simp [stepG, stepG.exec, ho, hw]

theorem step_regEnd : Go.step P (lone (K.fr tmps (.inRegion ops [] :: k) ds .run) cs w) = .next (lone (K.fr tmps k ds .run) cs w) :=
  step_lone_go (by simp [stepG, stepG.exec, CK.fr])
end

/-! ## slots, some of which are ahead -/
def EnvX (α : AM) (e : T V) (tmps : Array Value) (X : Nat → Prop) : Prop :=
  ∀ p v, e.get p = some v → ¬ X p.toNat → ∃ c, tmps[p.toNat]? = some c ∧ VR α v c

theorem EnvX.mono {α α' : AM} (hle : α.le α') {e : T V} {tmps : Array Value} {X : Nat → Prop} (h : EnvX α e tmps X) : EnvX α' e tmps X :=
  fun p v hp hx => let ⟨c, h1, h2⟩ := h p v hp hx; ⟨c, h1, h2.mono hle⟩

theorem EnvX.all {α : AM} {e : T V} {tmps : Array Value} {X : Nat → Prop} (h : EnvX α e tmps X) (hx : ∀ t, ¬ X t) : EnvR α e tmps :=
  fun p v hp => h p v hp (hx _)

theorem pa_of (p : Pa) : pa p.toNat = p := Pa.toNat_inj (pa_toNat _)

theorem pa_inj {i j : Nat} (h : pa i = pa j) : i = j := by rw [← pa_toNat i, h, pa_toNat]

theorem put_get (e : T V) (v : V) (dst : Option Nat) (p : Pa) : (e.put v (dst.map pa)).get p = if dst = some p.toNat then some v else e.get p := by
  cases dst with
  | none => simp [T.put]
  | some d =>
    simp only [Option.map_some, T.put, T.get_set, Option.some.injEq]
    by_cases h : pa d = p
    · have : d = p.toNat := by rw [← h, pa_toNat]
      rw [if_pos h, if_pos this]
    · rw [if_neg h, if_neg (fun e1 => h (by rw [e1, pa_of]))]

/-- both put -/
theorem EnvX.put {α : AM} {e : T V} {tmps : Array Value} {X : Nat → Prop} (h : EnvX α e tmps X) {v : V} {c : Value} (hv : VR α v c) {dst : Option Nat} (hd : ∀ d, dst = some d → d < tmps.size) :
    EnvX α (e.put v (dst.map pa)) (putC tmps dst c) X := by
  intro p u hp hx
  rw [put_get] at hp
  cases dst with
  | none => simp at hp; exact h p u hp hx
  | some d =>
    simp only [putC]
    by_cases hdp : d = p.toNat
    · rw [if_pos (by rw [hdp])] at hp
      cases hp
      exact ⟨c, by rw [← hdp, Array.getElem?_setIfInBounds_self_of_lt (hd d rfl)], hv⟩
    · rw [if_neg (by simpa using hdp)] at hp
      rw [Array.getElem?_setIfInBounds_ne hdp]
      exact h p u hp hx

/-- the world's slot is put, which was ahead -/
theorem EnvX.fill {α : AM} {e : T V} {tmps : Array Value} {X Y : Nat → Prop} (h : EnvX α e tmps X) {d : Nat} {v : V} {c : Value} (he : e.get (pa d) = some v) (hv : VR α v c) (hd : d < tmps.size) (hY : ∀ t, X t → Y t ∨ t = d) :
    EnvX α e (putC tmps (some d) c) Y := by
  intro p u hp hx
  simp only [putC]
  by_cases hdp : d = p.toNat
  · rw [hdp, pa_of] at he
    rw [he] at hp; cases hp
    exact ⟨c, by rw [← hdp, Array.getElem?_setIfInBounds_self_of_lt hd], hv⟩
  · rw [Array.getElem?_setIfInBounds_ne hdp]
    exact h p u hp (fun hX => (hY _ hX).elim hx (fun e1 => hdp e1.symm))

/-- only ahead -/
theorem EnvX.ghost {α : AM} {e : T V} {tmps : Array Value} {X Y : Nat → Prop} (h : EnvX α e tmps X) (v : V) {d : Nat} (hY : ∀ t, X t ∨ t = d → Y t) : EnvX α (e.put v (some (pa d))) tmps Y := by
  intro p u hp hx
  have := put_get e v (some d) p
  rw [Option.map_some] at this
  rw [this] at hp
  by_cases hdp : d = p.toNat
  · exact absurd (hY _ (.inr hdp.symm)) hx
  · rw [if_neg (by simpa using hdp)] at hp
    exact h p u hp (fun hX => hx (hY _ (.inl hX)))

/-- an environment of but a few slots -/
noncomputable def keep (e : T V) : List Nat → T V
  | [] => .E
  | t :: l => match e.get (pa t) with
    | some v => (keep e l).set v (pa t)
    | none => keep e l
theorem keep_get (e : T V) : ∀ (l : List Nat) (p : Pa), (keep e l).get p = if p.toNat ∈ l then e.get p else none
  | [], p => by simp only [keep, List.not_mem_nil, if_false]; cases p <;> rfl
  | t :: l, p => by
    simp only [keep]
    have ih := keep_get e l p
    by_cases htp : pa t = p
    · have h1 : p.toNat = t := by rw [← htp, pa_toNat]
      rw [if_pos (by simp [h1])]
      cases hv : e.get (pa t) with
      | some v => simp only [T.get_set, htp, if_true]; rw [← htp, hv]
      | none =>
        simp only
        rw [ih]
        split
        · rfl
        · rw [← htp, hv]
    · have h1 : p.toNat ≠ t := fun h => htp (by rw [← h, pa_of])
      have h2 : (p.toNat ∈ t :: l) ↔ p.toNat ∈ l := by simp [h1]
      simp only [h2]
      cases hv : e.get (pa t) with
      | some v => simp only [T.get_set, htp, if_false]; exact ih
      | none => exact ih

theorem EnvX.keep {α : AM} {e : T V} {tmps : Array Value} {X : Nat → Prop} (h : EnvX α e tmps X) {l : List Nat} (hl : ∀ t ∈ l, ¬ X t) : EnvR α (Ev.keep e l) tmps := by
  intro p v hp
  rw [keep_get] at hp
  split at hp
  · exact h p v hp (hl _ (by assumption))
  · cases hp

theorem tmpOf_eq {x : Operand} {t : Nat} (h : tmpOf x = some t) : x = .tmp t := by
  cases x <;> simp [tmpOf] at h; exact congrArg _ h

theorem keep_same (e : T V) {l : List Nat} {xs : List Operand} (hl : ∀ t, .tmp t ∈ xs → t ∈ l) : Same (keep e l) e xs := by
  intro x hx
  cases x with
  | tmp t =>
    simp only [cO, Od.ev, T.val]
    rw [keep_get, if_pos (by rw [pa_toNat]; exact hl t hx)]
  | _ => rfl

theorem odR_tmps {α : AM} {e : T V} {tmps : Array Value} (h : EnvR α e tmps) : OdR α e (evC tmps) := by
  have := odR (a := ⟨tmps, []⟩) h
  intro x
  have h2 := this x
  cases x <;> exact h2

/-- an operation's operands are in place -/
theorem EnvX.ops {α : AM} {e : T V} {tmps : Array Value} {X : Nat → Prop} (h : EnvX α e tmps X) {xs : List Operand} (hl : ∀ t, .tmp t ∈ xs → ¬ X t) :
    ∃ e0, OdR α e0 (evC tmps) ∧ Same e0 e xs :=
  ⟨Ev.keep e (xs.filterMap tmpOf), odR_tmps (h.keep fun t ht => by
    obtain ⟨x, h1, h2⟩ := List.mem_filterMap.1 ht
    exact hl t (tmpOf_eq h2 ▸ h1)), keep_same e fun t ht => List.mem_filterMap.2 ⟨_, ht, rfl⟩⟩

/-! ## an operation, and its fellow -/
def GuardR (ops : Array Oper) (g : Option (Pa × Bool)) (c : Option (Nat × Bool)) : Prop :=
  (c = none ∧ g = none) ∨ ∃ j b d, c = some (j, b) ∧ dstOf ops j = some d ∧ g = some (pa d, b)

theorem cRO_cases (P : Program) (nt : Nat) (ops : Array Oper) (o : Oper) :
    (∃ n d, cRO P nt ops o = ⟨d, smBad n, none⟩) ∨ ∃ g, cRO P nt ops o = ⟨o.dst.map pa, cOp P o.op, g⟩ ∧ (∀ d, o.dst = some d → d < nt) ∧ GuardR ops g o.guard := by
  unfold cRO
  have hd : ∀ hb : dstOk nt o = true, ∀ d, o.dst = some d → d < nt := by
    intro hb d hd
    simp only [dstOk, hd] at hb
    exact Nat.lt_of_lt_of_le (Nat.lt_succ_self d) (Nat.le_of_ble_eq_true hb)
  cases hg : o.guard with
  | none =>
    simp only
    cases hb : dstOk nt o with
    | false => exact .inl ⟨23, _, rfl⟩
    | true => exact .inr ⟨none, rfl, hd hb, .inl ⟨rfl, rfl⟩⟩
  | some jb =>
    obtain ⟨j, b⟩ := jb
    simp only
    cases hdj : dstOf ops j with
    | none => exact .inl ⟨22, _, rfl⟩
    | some d =>
      simp only
      cases hb : dstOk nt o with
      | false => exact .inl ⟨23, _, rfl⟩
      | true => exact .inr ⟨_, rfl, hd hb, .inr ⟨j, b, d, rfl, hdj, rfl⟩⟩

theorem bEq_iff (a b : Bool) : bEq a b = (a == b) := by cases a <;> cases b <;> rfl

theorem wanted_sound {α : AM} {e : T V} {tmps : Array Value} {X : Nat → Prop} (h : EnvX α e tmps X) {ops : Array Oper} {o : Oper} {g : Option (Pa × Bool)} (hg : GuardR ops g o.guard)
    (hX : ∀ j b d, o.guard = some (j, b) → dstOf ops j = some d → ¬ X d) :
    (wantedV e g = .yes → Region.wanted o (yielded ops tmps) = true) ∧ (wantedV e g = .no → Region.wanted o (yielded ops tmps) = false) := by
  rcases hg with ⟨h1, rfl⟩ | ⟨j, b, d, h1, h2, rfl⟩
  · simp [wantedV, Region.wanted, h1]
  · simp only [wantedV, Region.wanted, h1]
    cases hv : e.get (pa d) with
    | none => simp
    | some v =>
      obtain ⟨c, k1, k2⟩ := h _ _ hv (by rw [pa_toNat]; exact hX j b d h1 h2)
      rw [pa_toNat] at k1
      unfold dstOf at h2
      cases v <;> simp only <;> (try (simp; done))
      · cases k2
        simp only [yielded, h2, Option.bind_some, k1, bEq_iff]
        rename_i b'
        cases b' <;> cases b <;> simp
      · cases k2
        simp [yielded, h2, k1]

theorem names_ops {ops : Array Oper} {o : Oper} {t : Nat} (h : .tmp t ∈ o.op.operands.toList) : t ∈ namesOf ops o := by
  have : t ∈ o.op.operands.toList.filterMap tmpOf := List.mem_filterMap.2 ⟨_, h, rfl⟩
  unfold namesOf
  split
  · exact this
  · split
    · exact List.mem_cons_of_mem _ this
    · exact this
theorem names_guard {ops : Array Oper} {o : Oper} {j : Nat} {b : Bool} {d : Nat} (h : o.guard = some (j, b)) (hd : dstOf ops j = some d) : d ∈ namesOf ops o := by
  unfold namesOf
  simp [h, hd]
end Go.Ev

namespace Go.Ev
variable {P : Program} {nt : Nat} {ops : Array Oper} {A : Nat → Prop}

/-! ## what may be looked at anew -/
theorem sEq_same {a b : List UInt8} (h : sEq a b = true) : a = b := by rw [sEq_eq] at h; simpa using h

theorem capEq_eq {a b : Cap} (h : capEq a b = true) : a = b := by
  cases a <;> cases b <;> simp [capEq] at h <;> rw [h]
theorem nkEq_eq {a b : NK} (h : nkEq a b = true) : a = b := by cases a <;> cases b <;> simp [nkEq] at h <;> rfl
theorem sameS_eq {a b : V} (h : sameS a b = true) : a = b := by
  cases a <;> cases b <;> simp only [sameS, Bool.and_eq_true] at h <;> (try (cases h; done))
  · rw [bEq_iff] at h; simp at h; rw [h]
  · obtain ⟨h1, h2⟩ := h
    rw [iEq_eq] at h2
    simp at h2; rw [kEq_iff h1, h2]
  · rw [sEq_same h]
  · obtain ⟨h1, h2⟩ := h
    rw [(Pa.beq_iff _ _).1 h1, Nat.eq_of_beq_eq_true h2]
  · obtain ⟨⟨h1, h2⟩, h3, h4⟩ := h
    rw [(Pa.beq_iff _ _).1 h1, Nat.eq_of_beq_eq_true h2, Nat.eq_of_beq_eq_true h3, capEq_eq h4]
  · rw [nkEq_eq h]
  · rw [(Pa.beq_iff _ _).1 h]
theorem sameL_eq : ∀ {a b : List V}, sameL a b = true → a = b
  | [], b, h => by cases b <;> simp [sameL] at h; rfl
  | x :: a, b, h => by
    cases b with
    | nil => simp [sameL] at h
    | cons y b =>
      simp only [sameL] at h
      cases hs : sameS x y with
      | false => simp [hs] at h
      | true => simp only [hs, cond_true] at h; rw [sameS_eq hs, sameL_eq h]
theorem same_eq {a b : V} (h : same a b = true) : a = b := by
  cases a <;> simp only [same] at h <;> (try exact sameS_eq h)
  · cases b <;> simp only at h <;> (try (cases h; done))
    rw [sameL_eq h]
  · cases b <;> simp only at h <;> (try (cases h; done))
    rw [sameL_eq h]
theorem sameB_eq {a b : Blk} (h : sameB a b = true) : a = b := by
  cases a <;> simp only [sameB] at h <;> (try (cases h; done))
  · rename_i l d
    cases b <;> simp only at h <;> (try (cases h; done))
    rename_i m d'
    cases d <;> cases d' <;> simp at h
    rw [sameL_eq h]
  · rename_i es c
    cases b <;> simp only at h <;> (try (cases h; done))
    rename_i fs k
    cases hk : Nat.beq c k with
    | false => simp [hk] at h
    | true =>
      simp only [hk, cond_true] at h
      cases es <;> cases fs <;> simp at h
      rw [Nat.eq_of_beq_eq_true hk]

theorem al_blk {o : Oper} {f : T V → Option (Blk × (Pa → V))} (hc : cOp P o.op = .al f) {e : T V} {b : Blk} {mk : Pa → V} (hf : f e = some (b, mk)) (a : Pa) : blkId (mk a) = some a ∧ isLook o.op = true := by
  cases hop : o.op <;> rw [hop] at hc <;> simp only [cOp] at hc <;> (try (cases hc; done))
  case alloc t =>
    split at hc
    · cases hc; simp at hf; obtain ⟨_, rfl⟩ := hf; exact ⟨rfl, rfl⟩
    · cases hc
  case box t x =>
    cases hc
    simp only at hf
    cases hs : allScalar ((cO x).ev e).cells <;> simp [hs] at hf
    obtain ⟨_, rfl⟩ := hf; exact ⟨rfl, rfl⟩
  case build t ps => repeat' (first | (cases hc; done) | split at hc)
  case buildSlice t len ps =>
    split at hc
    · split at hc
      · split at hc
        · split at hc
          · cases hc
            simp only at hf
            split at hf
            · rename_i l _
              cases hs : allScalar l <;> simp [hs] at hf
              obtain ⟨_, rfl⟩ := hf; exact ⟨rfl, rfl⟩
            · cases hf
          · cases hc
        · cases hc
      · cases hc
    · cases hc
  case load t a => split at hc <;> cases hc
  case store t a v => split at hc <;> cases hc
  case binOp op t x y yt =>
    split at hc
    · cases hcc : (isC x || isC y) <;> rw [hcc] at hc <;> cases hc
    · cases hc
  case convert s d x =>
    unfold cConv at hc
    split at hc
    · repeat' (first | (cases hc; done) | split at hc)
    · repeat' (first | (cases hc; done) | split at hc)
    · split at hc
      · split at hc
        · cases hc
          simp only at hf
          split at hf
          · simp at hf; obtain ⟨_, rfl⟩ := hf; exact ⟨rfl, rfl⟩
          · cases hf
        · cases hc
      · cases hb : Nat.beq s d with
        | false => rw [hb] at hc; cases hc
        | true =>
          rw [hb] at hc
          simp only [cond_true] at hc
          split at hc <;> cases hc
      · cases hc
    · cases hc
  case makeInterface t x => repeat' (first | (cases hc; done) | split at hc)
  case makeFunc fn first caps =>
    cases fn <;> simp only at hc <;> (try (cases hc; done))
    repeat' (first | (cases hc; done) | split at hc)
  case makeMap t r =>
    cases r with
    | none => cases hc; simp at hf; obtain ⟨_, rfl⟩ := hf; exact ⟨rfl, rfl⟩
    | some r => cases hc
  case makeSlice t l c =>
    split at hc
    · split at hc
      · split at hc
        · cases hc
          simp only at hf
          split at hf
          · split at hf
            · rename_i c' _
              rename_i l' _ _
              revert hf
              generalize (Nat.ble _ _ && _) = q
              intro hf
              cases q <;> simp at hf
              obtain ⟨_, rfl⟩ := hf; exact ⟨rfl, rfl⟩
            · cases hf
          · cases hf
        · cases hc
      · cases hc
    · cases hc
  case slice t x lo hi mx =>
    split at hc
    · cases mx with
      | none => simp only at hc; split at hc <;> cases hc
      | some m => cases hc
    · cases mx <;> cases hc
    · split at hc
      · cases hm : (mx.isSome && hi.isNone) <;> rw [hm] at hc <;> cases hc
      · cases hc
    · cases hc
  case fieldAddr t x k => repeat' (first | (cases hc; done) | split at hc)
  case field t x k => repeat' (first | (cases hc; done) | split at hc)
  case indexAddr t x i => repeat' (first | (cases hc; done) | split at hc)
  case index t x i => repeat' (first | (cases hc; done) | split at hc)
  case lookup t x i ok =>
    split at hc
    · rename_i k el hu
      split at hc
      · cases hq : keyOk (eqT P k) <;> rw [hq] at hc <;> cases hc
      · cases hc
    · cases hc
  case mapUpdate t m k v =>
    split at hc
    · rename_i kt el hu
      cases hq : keyOk (eqT P kt) <;> rw [hq] at hc <;> cases hc
    · cases hc
  case mapEntry t m k =>
    split at hc
    · rename_i kt el hu
      split at hc
      · cases hq : keyOk (eqT P kt) <;> rw [hq] at hc <;> cases hc
      · cases hc
    · cases hc
  case typeAssert x xt t ok => repeat' (first | (cases hc; done) | split at hc)
  case call c =>
    split at hc
    · rename_i b hb
      cases b <;> simp only [cBuiltin] at hc <;> (try (cases hc; done)) <;> repeat' (first | (cases hc; done) | split at hc)
    · rename_i g hg
      cases g <;> cases hc
    · cases hc
  case defer c => repeat' (first | (cases hc; done) | split at hc)

/-! ## a region whose order is drawn: what the memory is ahead of the world with -/
inductive Weave (P : Program) (nt : Nat) (ops : Array Oper) (A : Nat → Prop) : List (RS Blk) → List Nat → (Nat → Prop) → Prop
  | done {p : Nat → Prop} (hp : ∀ j, ¬ p j) : Weave P nt ops A [] [] p
  | stop {rs : List (RS Blk)} {L : List Nat} {p : Nat → Prop} (n : Nat) (d : Option Pa) : Weave P nt ops A (.op ⟨d, smBad n, none⟩ :: rs) L p
  | ghost {rs : List (RS Blk)} {L : List Nat} {p q : Nat → Prop} (i d : Nat) (o : Oper) (ho : ops[i]? = some o) (hN : isN P nt ops o = true) (hd : o.dst = some d) (hself : d ∉ namesOf ops o) (hav : A d) (hp : ¬ p i)
      (hdist : ∀ j oj, p j → ops[j]? = some oj → oj.dst ≠ some d ∧ d ∉ namesOf ops oj) (hq : ∀ j, q j ↔ (j = i ∨ p j)) (next : Weave P nt ops A rs L q) : Weave P nt ops A (.op (cRO P nt ops o) :: rs) L p
  | fill {rs : List (RS Blk)} {L : List Nat} {p q : Nat → Prop} (i : Nat) (o : Oper) (ho : ops[i]? = some o) (hp : p i)
      (hn : ∀ j oj t, p j → ops[j]? = some oj → oj.dst = some t → t ∉ namesOf ops o) (hq : ∀ j, q j ↔ (j ≠ i ∧ p j)) (next : Weave P nt ops A rs L q) : Weave P nt ops A rs (i :: L) p
  | eff {rs : List (RS Blk)} {chks : List (RO Blk)} {L : List Nat} {p : Nat → Prop} (i : Nat) (o : Oper) (ho : ops[i]? = some o)
      (hn : ∀ j oj t, p j → ops[j]? = some oj → oj.dst = some t → t ∉ namesOf ops o ∧ o.dst ≠ some t)
      (hk : ∀ j oj, p j → ops[j]? = some oj → cRO P nt ops oj ∈ chks ∨ (isLook oj.op = false ∧ ∀ d, o.dst = some d → d ∉ namesOf ops oj)) (next : Weave P nt ops A rs L p) :
      Weave P nt ops A (.op (cRO P nt ops o) :: (chks.map .chk ++ rs)) (i :: L) p

/-- the slots that are ahead -/
def XOf (ops : Array Oper) (p : Nat → Prop) (t : Nat) : Prop := ∃ j oj, p j ∧ ops[j]? = some oj ∧ oj.dst = some t

/-- of an operation that is ahead: where it is, and what it makes, which the world has not got yet -/
structure Base (P : Program) (nt : Nat) (ops : Array Oper) (A : Nat → Prop) (j : Nat) (o : Oper) (d : Nat) (g : Option (Pa × Bool)) : Prop where
  at_ : ops[j]? = some o
  dst : o.dst = some d
  lt : d < nt
  ro : cRO P nt ops o = ⟨some (pa d), cOp P o.op, g⟩
  guard : GuardR ops g o.guard
  nas : ∀ x, o.op ≠ .assign x
  may : A d

def Ghost (P : Program) (α : AM) (e : T V) (h : Hp) (m : Nat) (o : Oper) (d : Nat) : Prop :=
  ∀ f v a, cOp P o.op = .al f → e.get (pa d) = some v → blkId v = some a → α a = none ∧ m ≤ a.toNat ∧ a.toNat < h.next.toNat

/-- it would come to the same -/
def Again (P : Program) (e : T V) (h : Hp) (o : Oper) (d : Nat) (g : Option (Pa × Bool)) : Prop :=
  (wantedV e g = .no ∧ e.get (pa d) = some undefV) ∨
  (wantedV e g = .yes ∧ ((∃ f v, cOp P o.op = .pu f ∧ f e h = some v ∧ e.get (pa d) = some v) ∨
    (∃ f b mk a, cOp P o.op = .al f ∧ f e = some (b, mk) ∧ e.get (pa d) = some (mk a) ∧ h.get a = some b)))

def PendOk (P : Program) (nt : Nat) (ops : Array Oper) (A : Nat → Prop) (α : AM) (e : T V) (h : Hp) (m j : Nat) : Prop :=
  ∃ o d g, Base P nt ops A j o d g ∧ Ghost P α e h m o d ∧ Again P e h o d g

def PendS (P : Program) (nt : Nat) (ops : Array Oper) (A : Nat → Prop) (chks : List (RO Blk)) (α : AM) (e : T V) (h : Hp) (m j : Nat) : Prop :=
  ∃ o d g, Base P nt ops A j o d g ∧ Ghost P α e h m o d ∧ (cRO P nt ops o ∈ chks ∨ (isLook o.op = false ∧ Again P e h o d g))

/-- no two make the same -/
def Apart (P : Program) (ops : Array Oper) (e : T V) (p : Nat → Prop) : Prop :=
  ∀ i j oi oj di dj fi fj vi vj a, p i → p j → i ≠ j → ops[i]? = some oi → ops[j]? = some oj → oi.dst = some di → oj.dst = some dj → cOp P oi.op = .al fi → cOp P oj.op = .al fj →
    e.get (pa di) = some vi → e.get (pa dj) = some vj → blkId vi = some a → blkId vj ≠ some a

theorem isN_base {j : Nat} {o : Oper} {d : Nat} (hj : ops[j]? = some o) (hN : isN P nt ops o = true) (hd : o.dst = some d) (hav : A d) :
    ∃ g, Base P nt ops A j o d g ∧ ((∃ f, cOp P o.op = .pu f) ∨ ∃ f, cOp P o.op = .al f) := by
  have hbad : ∀ n d', cRO P nt ops o ≠ ⟨d', smBad n, none⟩ := by
    intro n d' he
    unfold isN at hN
    split at hN
    · cases hN
    · rw [he] at hN; simp [smBad] at hN
  have has : ∀ x, o.op ≠ .assign x := by
    intro x he
    unfold isN at hN
    rw [he] at hN; cases hN
  rcases cRO_cases P nt ops o with ⟨n, d', he⟩ | ⟨g, h1, h2, h3⟩
  · exact absurd he (hbad n d')
  · refine ⟨g, ⟨hj, hd, h2 d hd, by rw [h1, hd]; rfl, h3, has, hav⟩, ?_⟩
    unfold isN at hN
    split at hN
    · cases hN
    · rw [h1] at hN
      simp only at hN
      split at hN
      · exact .inl ⟨_, by assumption⟩
      · exact .inr ⟨_, by assumption⟩
      · cases hN
      · cases hN

/-- what an operation's slots and guard see is the same in another environment -/
theorem seen_same {e e' : T V} {o : Oper} {g : Option (Pa × Bool)} (hg : GuardR ops g o.guard) (h : ∀ t ∈ namesOf ops o, e'.get (pa t) = e.get (pa t)) :
    wantedV e' g = wantedV e g ∧ Same e' e o.op.operands.toList := by
  refine ⟨?_, fun x hx => ?_⟩
  · rcases hg with ⟨_, rfl⟩ | ⟨j, b, d, h1, h2, rfl⟩
    · rfl
    · simp only [wantedV, h d (names_guard h1 h2)]
  · cases x with
    | tmp t => simp only [cO, Od.ev, T.val, h t (names_ops hx)]
    | _ => rfl

theorem Again.move {e e' : T V} {h h' : Hp} {o : Oper} {d : Nat} {g : Option (Pa × Bool)} (hg : GuardR ops g o.guard) (hs : ∀ t ∈ namesOf ops o, e'.get (pa t) = e.get (pa t)) (hd : e'.get (pa d) = e.get (pa d))
    (hh : isLook o.op = true → ∀ a b, (h.get a = some b → h'.get a = some b)) (hl : isLook o.op = true → h = h' ∨ ∃ f, cOp P o.op = .al f) (ha : Again P e h o d g) : Again P e' h' o d g := by
  obtain ⟨w1, w2⟩ := seen_same hg hs
  rcases ha with ⟨h1, h2⟩ | ⟨h1, h2⟩
  · exact .inl ⟨by rw [w1]; exact h1, by rw [hd]; exact h2⟩
  · refine .inr ⟨by rw [w1]; exact h1, ?_⟩
    rcases h2 with ⟨f, v, k1, k2, k3⟩ | ⟨f, b, mk, a, k1, k2, k3, k4⟩
    · refine .inl ⟨f, v, k1, ?_, by rw [hd]; exact k3⟩
      rw [pu_congr k1 w2 (h' := h) (fun hlk => ?_), ← k2]
      rcases hl hlk with h5 | ⟨f', h5⟩
      · exact h5.symm
      · rw [k1] at h5; cases h5
    · have hlk := (al_blk k1 k2 a).2
      exact .inr ⟨f, b, mk, a, k1, by rw [al_congr k1 w2]; exact k2, by rw [hd]; exact k3, hh hlk a b k4⟩

/-- what was looked at anew is in order -/
theorem chk_again {e : T V} {h : Hp} {o : Oper} {j d : Nat} {g : Option (Pa × Bool)} (hb : Base P nt ops A j o d g) (hc : chkOp e h (cRO P nt ops o) = true) : Again P e h o d g := by
  rw [hb.ro] at hc
  simp only [chkOp] at hc
  cases hw : wantedV e g with
  | no =>
    simp only [hw] at hc
    split at hc
    · exact .inl ⟨hw, by assumption⟩
    · cases hc
  | bad => simp [hw] at hc
  | yes =>
    simp only [hw] at hc
    refine .inr ⟨hw, ?_⟩
    cases hv : e.get (pa d) with
    | none => simp [hv] at hc
    | some v =>
      simp only [hv] at hc
      cases hs : cOp P o.op with
      | pu f =>
        simp only [hs] at hc
        cases hf : f e h with
        | none => simp [hf] at hc
        | some u =>
          simp only [hf] at hc
          have := same_eq hc; subst this
          exact .inl ⟨f, v, rfl, hf, rfl⟩
      | al f =>
        simp only [hs] at hc
        cases hf : f e with
        | none => simp [hf] at hc
        | some bm =>
          obtain ⟨b, mk⟩ := bm
          simp only [hf] at hc
          cases ha : blkId v with
          | none => simp [ha] at hc
          | some a =>
            simp only [ha] at hc
            cases hg : h.get a with
            | none => simp [hg] at hc
            | some b' =>
              simp only [hg] at hc
              cases hsm : same v (mk a) with
              | false => simp [hsm] at hc
              | true =>
                simp only [hsm, cond_true] at hc
                have h1 := same_eq hsm
                have h2 := sameB_eq hc; subst h2
                exact .inr ⟨f, b, mk, a, rfl, hf, by rw [h1], hg⟩
      | st f => simp [hs] at hc
      | ct f => simp [hs] at hc

theorem Ghost.mono {α α' : AM} {e e' : T V} {h h' : Hp} {m : Nat} {o : Oper} {d : Nat} (hg : Ghost P α e h m o d) (he : e'.get (pa d) = e.get (pa d))
    (hα : ∀ a, a.toNat < h.next.toNat → α a = none → α' a = none) (hn : h.next.toNat ≤ h'.next.toNat) : Ghost P α' e' h' m o d := by
  intro f v a hf hv ha
  rw [he] at hv
  obtain ⟨h1, h2, h3⟩ := hg f v a hf hv ha
  exact ⟨hα a h3 h1, h2, Nat.lt_of_lt_of_le h3 hn⟩
end Go.Ev

namespace Go.Ev
variable {P : Program} {nt : Nat} {ops : Array Oper} {A : Nat → Prop}

/-! ## memory that has only grown -/
def HLe (h h' : Hp) : Prop := ∀ a b, h.get a = some b → h'.get a = some b

theorem HLe.cells {h h' : Hp} (hl : HLe h h') {a : Pa} {l : List V} (hc : h.cells a = some l) : h'.cells a = some l := by
  unfold Heap.cells at hc ⊢
  cases hg : h.get a with
  | none => simp [hg] at hc
  | some b => rw [hl a b hg]; rw [hg] at hc; exact hc
theorem HLe.loadN {h h' : Hp} (hl : HLe h h') {a : Pa} {o n : Nat} {l : List V} (hc : h.loadN a o n = some l) : h'.loadN a o n = some l := by
  unfold Heap.loadN at hc ⊢
  cases hg : h.cells a with
  | none => simp [hg] at hc
  | some b => rw [hl.cells hg]; rw [hg] at hc; exact hc
theorem HLe.mapOf {h h' : Hp} (hl : HLe h h') {v : V} {es : List (V × V × Nat)} (hc : h.mapOf v = some es) : h'.mapOf v = some es := by
  cases v <;> simp only [Heap.mapOf] at hc ⊢ <;> (try (exact hc))
  rename_i r
  cases hg : h.get r with
  | none => simp [hg] at hc
  | some b => rw [hl r b hg]; rw [hg] at hc; exact hc
theorem HLe.loadV {h h' : Hp} (hl : HLe h h') {n : Option Nat} {x v : V} (hc : loadV h n x = some v) : loadV h' n x = some v := by
  cases x <;> simp only [Ev.loadV] at hc ⊢ <;> (try (cases hc; done))
  rename_i a o
  cases n with
  | none =>
    simp only at hc ⊢
    cases hg : h.cells a with
    | none => simp [hg] at hc
    | some b => rw [hl.cells hg]; rw [hg] at hc; exact hc
  | some n =>
    simp only at hc ⊢
    cases hg : h.loadN a o n with
    | none => simp [hg] at hc
    | some b => rw [hl.loadN hg]; rw [hg] at hc; exact hc
theorem HLe.alloc {C : Cx} {α : AM} {Λ : Pa → Prop} {h : Hp} {ls : List LE} {w : World} (s : Sim C α Λ h ls w) (b : Blk) : HLe h (h.alloc b) := by
  intro a c hg
  simp only [Heap.alloc, Heap.get, T.get_set]
  rw [if_neg]
  · exact hg
  · intro e; subst e
    rw [s.fresh _ (Nat.le_refl _)] at hg; cases hg

theorem sbounds_grow {n N N' : Nat} {lo hi : Option V} {l hh m : Nat} (h : sbounds n N lo hi none = some (l, hh, m)) (hle : N ≤ N') : ∃ m', sbounds n N' lo hi none = some (l, hh, m') := by
  unfold sbounds at h ⊢
  have q1 : ∀ d y, sbound d y none = some d := fun _ _ => rfl
  simp only [q1] at h ⊢
  cases h2 : sbound n N hi with
  | none => rw [h2] at h; cases h
  | some h' =>
    have h2' : sbound n N' hi = some h' := sbound_more h2 hle
    rw [h2] at h
    simp only [h2']
    simp only at h
    cases h3 : sbound 0 h' lo with
    | none => rw [h3] at h; cases h
    | some l' => rw [h3] at h; simp at h; exact ⟨N', by simp [h]⟩
theorem HLe.ext {h h' : Hp} (hl : HLe h h') (z : Nat) (a : Pa) (o : Nat) : extOf h z a o ≤ extOf h' z a o := by
  unfold extOf
  cases hg : h.get a with
  | none => exact Nat.zero_le _
  | some b => rw [hl a b hg]; exact Nat.le_refl _
theorem HLe.sliceX {h h' : Hp} (hl : HLe h h') {z : Nat} {x : V} {lo hi : Option V} {v : V} (hv : sliceX h z x lo hi = some v) : Ev.sliceX h' z x lo hi = some v := by
  cases x <;> simp only [Ev.sliceX] at hv ⊢ <;> (try (cases hv; done))
  rename_i a o n c
  cases c with
  | ex c => simp at hv
  | un s =>
    simp only at hv ⊢
    cases hse : Nat.beq s z with
    | false => simp [hse] at hv
    | true =>
      simp only [hse, cond_true] at hv ⊢
      cases hle : Nat.ble n (extOf h z a o) with
      | false => simp [hle] at hv
      | true =>
        simp only [hle, cond_true] at hv
        have h1 := hl.ext z a o
        have h2 : Nat.ble n (extOf h' z a o) = true := Nat.ble_eq_true_of_le (Nat.le_trans (Nat.le_of_ble_eq_true hle) h1)
        simp only [h2, cond_true]
        cases hb : sbounds n (extOf h z a o) lo hi none with
        | none => simp [hb] at hv
        | some p =>
          obtain ⟨l, hh, m⟩ := p
          obtain ⟨m', h3⟩ := sbounds_grow hb h1
          rw [h3]
          rw [hb] at hv
          exact hv
theorem HLe.orSliceX {h h' : Hp} (hl : HLe h h') {z : Nat} {x : V} {lo hi mx r : Option V} {v : V} (hv : orSliceX h z x lo hi mx r = some v) : Ev.orSliceX h' z x lo hi mx r = some v := by
  cases mx with
  | some m => exact hv
  | none => cases r with
    | some u => exact hv
    | none => exact hl.sliceX hv

theorem pu_grow {o : Oper} {f : T V → Hp → Option V} (hc : cOp P o.op = .pu f) {e : T V} {h h' : Hp} (hl : HLe h h') {v : V} (hv : f e h = some v) : f e h' = some v := by
  cases hk : isLook o.op with
  | false => rw [← hv]; exact pu_congr hc (fun _ _ => rfl) (fun h1 => by rw [hk] at h1; cases h1)
  | true =>
    cases hop : o.op <;> rw [hop] at hc hk <;> simp only [isLook] at hk <;> (try (cases hk; done)) <;> simp only [cOp] at hc <;> (try (cases hc; done))
    case alloc t => split at hc <;> cases hc
    case buildSlice t len ps => repeat' (first | (cases hc; done) | split at hc)
    case makeMap t r => cases r <;> cases hc
    case makeSlice t l c => repeat' (first | (cases hc; done) | split at hc)
    case load t a =>
      split at hc
      · cases hc; exact hl.loadV hv
      · cases hc
    case lookup t x i ok =>
      split at hc
      · rename_i k el hu
        split at hc
        · rename_i z hz
          cases hq : keyOk (eqT P k) with
          | false => rw [hq] at hc; cases hc
          | true =>
            rw [hq] at hc; cases hc
            simp only [lookV] at hv ⊢
            cases hm : h.mapOf ((cO x).ev e) with
            | none => simp [hm] at hv
            | some es => rw [hl.mapOf hm]; rw [hm] at hv; exact hv
        · cases hc
      · cases hc
    case slice t x lo hi mx =>
      split at hc
      · cases mx with
        | none =>
          simp only at hc
          split at hc
          · cases hc; exact hv
          · cases hc
        | some m => cases hc
      · cases mx with
        | none => cases hc; exact hv
        | some m => cases hc
      · split at hc
        · cases hm : (mx.isSome && hi.isNone) with
          | true => rw [hm] at hc; cases hc
          | false => rw [hm] at hc; cases hc; exact hl.orSliceX hv
        · cases hc
      · cases hc
    case convert s d x =>
      unfold cConv at hc
      split at hc
      · split at hc
        · cases hc; exact hv
        · cases hc
      · split at hc
        · cases hc; exact hv
        · split at hc
          · cases hc
            simp only at hv ⊢
            split at hv
            · rename_i a o n c hx
              cases hm : h.loadN a o n with
              | none => simp [hm] at hv
              | some l => rw [hl.loadN hm]; rw [hm] at hv; exact hv
            · exact hv
            · cases hv
          · cases hc
        · cases hc
      · repeat' (first | (cases hc; done) | split at hc)
        all_goals (cases hb : Nat.beq s d <;> rw [hb] at hc <;> cases hc)
      · cases hc

theorem Again.grow {e : T V} {h h' : Hp} {o : Oper} {d : Nat} {g : Option (Pa × Bool)} (hl : HLe h h') (ha : Again P e h o d g) : Again P e h' o d g := by
  rcases ha with h1 | ⟨h1, ⟨f, v, k1, k2, k3⟩ | ⟨f, b, mk, a, k1, k2, k3, k4⟩⟩
  · exact .inl h1
  · exact .inr ⟨h1, .inl ⟨f, v, k1, pu_grow k1 hl k2, k3⟩⟩
  · exact .inr ⟨h1, .inr ⟨f, b, mk, a, k1, k2, k3, hl _ _ k4⟩⟩

/-- in another environment of the same memory -/
theorem Again.env {e e' : T V} {h : Hp} {o : Oper} {d : Nat} {g : Option (Pa × Bool)} (hg : GuardR ops g o.guard) (hs : ∀ t ∈ namesOf ops o, e'.get (pa t) = e.get (pa t)) (hd : e'.get (pa d) = e.get (pa d))
    (ha : Again P e h o d g) : Again P e' h o d g :=
  ha.move hg hs hd (fun _ _ _ h => h) (fun _ => .inl rfl)
/-- of what does not look at memory -/
theorem Again.any {e e' : T V} {h h' : Hp} {o : Oper} {d : Nat} {g : Option (Pa × Bool)} (hg : GuardR ops g o.guard) (hs : ∀ t ∈ namesOf ops o, e'.get (pa t) = e.get (pa t)) (hd : e'.get (pa d) = e.get (pa d))
    (hk : isLook o.op = false) (ha : Again P e h o d g) : Again P e' h' o d g :=
  ha.move hg hs hd (fun h => by rw [hk] at h; cases h) (fun h => by rw [hk] at h; cases h)

theorem PendOk.S {chks : List (RO Blk)} {α : AM} {e : T V} {h : Hp} {m j : Nat} (hp : PendOk P nt ops A α e h m j) (hk : ∀ oj, ops[j]? = some oj → cRO P nt ops oj ∈ chks ∨ isLook oj.op = false) :
    PendS P nt ops A chks α e h m j := by
  obtain ⟨o, d, g, hb, hg, ha⟩ := hp
  exact ⟨o, d, g, hb, hg, (hk o hb.at_).imp id fun h => ⟨h, ha⟩⟩

theorem PendS.put {chks : List (RO Blk)} {α α' : AM} {e : T V} {h h' : Hp} {m j : Nat} {o : Oper} (hp : PendS P nt ops A chks α e h m j) (hdst : ∀ oj t, ops[j]? = some oj → oj.dst = some t → o.dst ≠ some t)
    (hk : ∀ oj, ops[j]? = some oj → cRO P nt ops oj ∈ chks ∨ (isLook oj.op = false ∧ ∀ d, o.dst = some d → d ∉ namesOf ops oj)) (hα : ∀ a, a.toNat < h.next.toNat → α a = none → α' a = none) (hn : h.next.toNat ≤ h'.next.toNat) (v : V) :
    PendS P nt ops A chks α' (e.put v (o.dst.map pa)) h' m j := by
  obtain ⟨oj, d, g, hb, hg, ha⟩ := hp
  have hd : (e.put v (o.dst.map pa)).get (pa d) = e.get (pa d) := by
    rw [put_get, pa_toNat, if_neg (hdst oj d hb.at_ hb.dst)]
  refine ⟨oj, d, g, hb, hg.mono hd hα hn, ?_⟩
  rcases hk oj hb.at_ with h1 | ⟨h1, h2⟩
  · exact .inl h1
  · rcases ha with h3 | ⟨_, h3⟩
    · exact .inl h3
    · refine .inr ⟨h1, h3.any hb.guard (fun t ht => ?_) hd h1⟩
      rw [put_get, pa_toNat, if_neg (fun e1 => h2 t e1 ht)]

theorem PendS.ok {chks : List (RO Blk)} {α : AM} {e : T V} {h : Hp} {m j : Nat} (hp : PendS P nt ops A chks α e h m j) (hc : ∀ c ∈ chks, chkOp e h c = true) : PendOk P nt ops A α e h m j := by
  obtain ⟨oj, d, g, hb, hg, ha⟩ := hp
  refine ⟨oj, d, g, hb, hg, ?_⟩
  rcases ha with h1 | ⟨_, h1⟩
  · exact chk_again hb (hc _ h1)
  · exact h1

theorem Apart.put {e : T V} {p : Nat → Prop} (ha : Apart P ops e p) {o : Oper} (hdst : ∀ j oj t, p j → ops[j]? = some oj → oj.dst = some t → o.dst ≠ some t) (v : V) : Apart P ops (e.put v (o.dst.map pa)) p := by
  intro i j oi oj di dj fi fj vi vj a hi hj hij h1 h2 h3 h4 h5 h6 h7 h8 h9
  rw [put_get, pa_toNat, if_neg (hdst i oi di hi h1 h3)] at h7
  rw [put_get, pa_toNat, if_neg (hdst j oj dj hj h2 h4)] at h8
  exact ha i j oi oj di dj fi fj vi vj a hi hj hij h1 h2 h3 h4 h5 h6 h7 h8 h9

/-! ## a run of a region -/
theorem runOps_no {o : RO Blk} {rs : List (RS Blk)} {e : T V} {h : Hp} (hw : wantedV e o.guard = .no) : runOps (.op o :: rs) e h = runOps rs (e.put undefV o.dst) h := by
  change (W3.rec (motive := fun _ => OR) _ _ _ (wantedV e o.guard)) = _
  rw [hw]; rfl
theorem runOps_bad {o : RO Blk} {rs : List (RS Blk)} {e : T V} {h : Hp} (hw : wantedV e o.guard = .bad) : runOps (.op o :: rs) e h = .bad 87 := by
  change (W3.rec (motive := fun _ => OR) _ _ _ (wantedV e o.guard)) = _
  rw [hw]
theorem runOps_yes {o : RO Blk} {rs : List (RS Blk)} {e : T V} {h : Hp} (hw : wantedV e o.guard = .yes) : runOps (.op o :: rs) e h =
    match o.sem with
    | .pu f => match f e h with
      | some v => runOps rs (e.put v o.dst) h
      | none => .bad 70
    | .al f => match f e with
      | some p => runOps rs (e.put (p.2 h.next) o.dst) (h.alloc p.1)
      | none => .bad 71
    | .st f => match f e h with
      | some p => runOps rs (e.put p.1 o.dst) p.2
      | none => .bad 72
    | .ct f => .ctl (f e) o rs e h := by
  change (W3.rec (motive := fun _ => OR) _ _ _ (wantedV e o.guard)) = _
  rw [hw]
  obtain ⟨d, s, g⟩ := o
  cases s with
  | pu f => simp only; cases f e h <;> rfl
  | al f => simp only; cases f e <;> rfl
  | st f => simp only; cases f e h <;> rfl
  | ct f => rfl
theorem runOps_chks {rs : List (RS Blk)} {e : T V} {h : Hp} : ∀ (chks : List (RO Blk)), (∃ n, runOps (chks.map .chk ++ rs) e h = .bad n) ∨ ((∀ c ∈ chks, chkOp e h c = true) ∧ runOps (chks.map .chk ++ rs) e h = runOps rs e h)
  | [] => .inr ⟨fun c hc => (by cases hc), rfl⟩
  | c :: chks => by
    have h0 : runOps ((c :: chks).map .chk ++ rs) e h = Bool.rec (motive := fun _ => OR) (.bad 92) (runOps (chks.map .chk ++ rs) e h) (chkOp e h c) := rfl
    cases hc : chkOp e h c with
    | false => rw [hc] at h0; exact .inl ⟨_, h0⟩
    | true =>
      rw [hc] at h0
      rcases runOps_chks (rs := rs) (e := e) (h := h) chks with ⟨n, h1⟩ | ⟨h1, h2⟩
      · exact .inl ⟨n, h0.trans h1⟩
      · exact .inr ⟨fun x hx => by
          cases hx with
          | head => exact hc
          | tail _ hx => exact h1 x hx, h0.trans h2⟩

structure Ext (m : Nat) (α α' : AM) (h h' : Hp) : Prop where
  le : α.le α'
  keep : ∀ a, a.toNat < m → α a = none → α' a = none
  next : h.next.toNat ≤ h'.next.toNat
theorem Ext.refl (m : Nat) (α : AM) (h : Hp) : Ext m α α h h := ⟨AM.le_refl α, fun _ _ h => h, Nat.le_refl _⟩
theorem Ext.trans {m : Nat} {α β γ : AM} {h h1 h2 : Hp} (a : Ext m α β h h1) (b : Ext m β γ h1 h2) : Ext m α γ h h2 :=
  ⟨AM.le_trans a.le b.le, fun x hx h => b.keep x hx (a.keep x hx h), Nat.le_trans a.next b.next⟩

/-- a frame that waits in a region for what an operation comes to -/
structure Wait (P : Program) (nt : Nat) (ops : Array Oper) (A : Nat → Prop) (m : Nat) (α : AM) (e : T V) (h : Hp) (tmps : Array Value) (o : RO Blk) (rs : List (RS Blk)) (i : Nat) (L : List Nat) (oi : Oper) : Prop where
  size : nt ≤ tmps.size
  at_ : ops[i]? = some oi
  ro : ∃ g, o = ⟨oi.dst.map pa, cOp P oi.op, g⟩
  lt : ∀ d, oi.dst = some d → d < nt
  rest : ∃ chks rs1 p, rs = chks.map .chk ++ rs1 ∧ Weave P nt ops A rs1 L p ∧ (∀ j, p j → PendS P nt ops A chks α e h m j) ∧ Apart P ops e p ∧ EnvX α e tmps (XOf ops p) ∧
    (∀ j oj t, p j → ops[j]? = some oj → oj.dst = some t → oi.dst ≠ some t) ∧
    (∀ j oj, p j → ops[j]? = some oj → cRO P nt ops oj ∈ chks ∨ (isLook oj.op = false ∧ ∀ d, oi.dst = some d → d ∉ namesOf ops oj))

section
variable (C : Cx) (nt : Nat) (ops : Array Oper) (A : Nat → Prop) (K : CK) (ds : List Deferred) (k : List Go.Item) (cs : List Frame) (ls : List LE) (m : Nat)

def OkFin (M : Machine) (α : AM) (h : Hp) (e' : T V) (h' : Hp) : Prop :=
  ∃ α' Λ' w' tmps', Steps C.P M (lone (K.fr tmps' k ds .run) cs w') ∧ Ext m α α' h h' ∧ Sim C α' Λ' h' ls w' ∧ EnvR α' e' tmps' ∧ nt ≤ tmps'.size
def OkCtl (M : Machine) (α : AM) (h : Hp) (c : Ctl) (o : RO Blk) (rs : List (RS Blk)) (e' : T V) (h' : Hp) : Prop :=
  (∃ n, c = .bad n) ∨ ∃ α' Λ' w' tmps' i L oi f, Steps C.P M (lone (K.fr tmps' (.inRegion ops (i :: L) :: k) ds .run) cs w') ∧ Ext m α α' h h' ∧ Sim C α' Λ' h' ls w' ∧ Wait C.P nt ops A m α' e' h' tmps' o rs i L oi ∧
    cOp C.P oi.op = .ct f ∧ c = f e' ∧ Region.wanted oi (yielded ops tmps') = true ∧ ∃ e0, OdR α' e0 (evC tmps') ∧ Same e0 e' oi.op.operands.toList
def ORel (M : Machine) (α : AM) (h : Hp) : OR → Prop
  | .fin e' h' => OkFin C nt K ds k cs ls m M α h e' h'
  | .ctl c o rs e' h' => OkCtl C nt ops A K ds k cs ls m M α h c o rs e' h'
  | .bad _ => True
theorem ORel.of_steps {M M' : Machine} {α α' : AM} {h h' : Hp} {r : OR} (hs : Steps C.P M M') (hx : Ext m α α' h h') (hr : ORel C nt ops A K ds k cs ls m M' α' h' r) : ORel C nt ops A K ds k cs ls m M α h r := by
  cases r with
  | fin e1 h1 =>
    obtain ⟨α1, Λ1, w1, t1, a1, a2, a3⟩ := hr
    exact ⟨α1, Λ1, w1, t1, hs.trans a1, hx.trans a2, a3⟩
  | ctl c o rs e1 h1 =>
    rcases hr with hr | ⟨α1, Λ1, w1, t1, i, L, oi, f, a1, a2, a3⟩
    · exact .inl hr
    · exact .inr ⟨α1, Λ1, w1, t1, i, L, oi, f, hs.trans a1, hx.trans a2, a3⟩
  | bad n => trivial
end
end Go.Ev

namespace Go.Ev
variable {C : Cx} {nt : Nat} {ops : Array Oper} {A : Nat → Prop} {K : CK} {ds : List Deferred} {k : List Go.Item} {cs : List Frame} {ls : List LE} {m : Nat}

theorem PendOk.dst {P : Program} {α : AM} {e : T V} {h : Hp} {j : Nat} (hp : PendOk P nt ops A α e h m j) {o : Oper} (ho : ops[j]? = some o) :
    ∃ d g, Base P nt ops A j o d g ∧ Ghost P α e h m o d ∧ Again P e h o d g := by
  obtain ⟨o', d, g, hb, hg, ha⟩ := hp
  have := hb.at_
  rw [ho] at this; cases this
  exact ⟨d, g, hb, hg, ha⟩

theorem not_defer {P : Program} {o : Oper} (hc : ∀ f, cOp P o.op ≠ .ct f) : ∀ c, o.op ≠ .defer c := by
  intro c hop
  rw [hop] at hc
  simp only [cOp] at hc
  split at hc
  · exact hc _ rfl
  · exact hc _ rfl

theorem not_X {X : Nat → Prop} {o : Oper} (hn : ∀ t ∈ namesOf ops o, ¬ X t) : (∀ t, .tmp t ∈ o.op.operands.toList → ¬ X t) ∧ ∀ j b d, o.guard = some (j, b) → dstOf ops j = some d → ¬ X d :=
  ⟨fun t ht => hn t (names_ops ht), fun _ _ d h1 h2 => hn d (names_guard h1 h2)⟩

theorem PendOk.put {P : Program} {α : AM} {e : T V} {h : Hp} {j : Nat} (hp : PendOk P nt ops A α e h m j) {d : Nat} {h' : Hp} (hl : HLe h h') (hn : h.next.toNat ≤ h'.next.toNat)
    (hd : ∀ oj, ops[j]? = some oj → oj.dst ≠ some d ∧ d ∉ namesOf ops oj) (v : V) : PendOk P nt ops A α (e.put v (some (pa d))) h' m j := by
  obtain ⟨oj, dj, g, hb, hg, ha⟩ := hp
  obtain ⟨h1, h2⟩ := hd oj hb.at_
  have hget : ∀ t, t ≠ d → (e.put v (some (pa d))).get (pa t) = e.get (pa t) := fun t ht => by
    have := put_get e v (some d) (pa t)
    rw [Option.map_some] at this
    rw [this, pa_toNat, if_neg (by simpa using Ne.symm ht)]
  have hdj : dj ≠ d := fun e1 => h1 (by rw [hb.dst, e1])
  refine ⟨oj, dj, g, hb, hg.mono (hget dj hdj) (fun _ _ h => h) hn, ?_⟩
  exact (ha.env hb.guard (fun t ht => hget t fun e1 => h2 (e1 ▸ ht)) (hget dj hdj)).grow hl

theorem put_self (e : T V) (v : V) (d : Nat) : (e.put v (some (pa d))).get (pa d) = some v := by
  have := put_get e v (some d) (pa d)
  rw [Option.map_some] at this
  rw [this, pa_toNat, if_pos rfl]

theorem run_ops {rs : List (RS Blk)} {L : List Nat} {p : Nat → Prop} (hw : Weave C.P nt ops A rs L p) : ∀ (α : AM) (Λ : Pa → Prop) (h : Hp) (w : World) (e : T V) (tmps : Array Value),
    Sim C α Λ h ls w → m ≤ h.next.toNat → nt ≤ tmps.size → EnvX α e tmps (XOf ops p) → (∀ j, p j → PendOk C.P nt ops A α e h m j) → Apart C.P ops e p →
    ORel C nt ops A K ds k cs ls m (lone (K.fr tmps (.inRegion ops L :: k) ds .run) cs w) α h (runOps rs e h) := by
  induction hw with
  | done hp =>
    intro α Λ h w e tmps s hm hsz he hpe hap
    exact ⟨α, Λ, w, tmps, .one step_regEnd, Ext.refl m α h, s, he.all (fun t ⟨j, _, h1, _⟩ => hp j h1), hsz⟩
  | stop n d =>
    intro α Λ h w e tmps s hm hsz he hpe hap
    rw [runOps_yes rfl]
    exact .inl ⟨n, rfl⟩
  | @ghost rs L p q i d o ho hN hd hself hav hp hdist hq next ih =>
    intro α Λ h w e tmps s hm hsz he hpe hap
    obtain ⟨g, hb, hpa⟩ := isN_base ho hN hd hav
    have hX : ∀ t, XOf ops p t ∨ t = d → XOf ops q t := by
      rintro t (⟨j, oj, h1, h2, h3⟩ | rfl)
      · exact ⟨j, oj, (hq j).2 (.inr h1), h2, h3⟩
      · exact ⟨i, o, (hq i).2 (.inl rfl), ho, hd⟩
    have hget : ∀ v t, t ≠ d → (e.put v (some (pa d))).get (pa t) = e.get (pa t) := fun v t ht => by
      have := put_get e v (some d) (pa t)
      rw [Option.map_some] at this
      rw [this, pa_toNat, if_neg (by simpa using Ne.symm ht)]
    have seen : ∀ v, ∀ t ∈ namesOf ops o, (e.put v (some (pa d))).get (pa t) = e.get (pa t) := fun v t ht => hget v t fun e1 => hself (e1 ▸ ht)
    -- the ones that were ahead before are still in order
    have old : ∀ v h', HLe h h' → h.next.toNat ≤ h'.next.toNat → ∀ j, p j → PendOk C.P nt ops A α (e.put v (some (pa d))) h' m j := fun v h' hl hn j hj =>
      (hpe j hj).put hl hn (fun oj hoj => hdist j oj hj hoj) v
    have apOld : ∀ v, (∀ fi vi a, cOp C.P o.op = .al fi → v = vi → blkId vi = some a → ∀ j oj dj vj, p j → ops[j]? = some oj → oj.dst = some dj → (∃ fj, cOp C.P oj.op = .al fj) → e.get (pa dj) = some vj → blkId vj ≠ some a) →
        Apart C.P ops (e.put v (some (pa d))) q := by
      intro v hnew i' j' oi oj di dj fi fj vi vj a hi hj hij h1 h2 h3 h4 h5 h6 h7 h8 h9
      rcases (hq i').1 hi with rfl | hi'
      · rw [ho] at h1; cases h1
        rw [hd] at h3; cases h3
        rw [put_self] at h7; cases h7
        have hj' := ((hq j').1 hj).resolve_left (Ne.symm hij)
        have hdj : dj ≠ d := fun e1 => (hdist j' oj hj' h2).1 (by rw [h4, e1])
        rw [hget v dj hdj] at h8
        exact hnew fi v a h5 rfl h9 j' oj dj vj hj' h2 h4 ⟨fj, h6⟩ h8
      · have hdi : di ≠ d := fun e1 => (hdist i' oi hi' h1).1 (by rw [h3, e1])
        rw [hget v di hdi] at h7
        rcases (hq j').1 hj with rfl | hj'
        · rw [ho] at h2; cases h2
          rw [hd] at h4; cases h4
          rw [put_self] at h8; cases h8
          intro hva
          exact hnew fj v a h6 rfl hva i' oi di vi hi' h1 h3 ⟨fi, h5⟩ h7 h9
        · have hdj : dj ≠ d := fun e1 => (hdist j' oj hj' h2).1 (by rw [h4, e1])
          rw [hget v dj hdj] at h8
          exact hap i' j' oi oj di dj fi fj vi vj a hi' hj' hij h1 h2 h3 h4 h5 h6 h7 h8 h9
    rw [hb.ro]
    cases hwt : wantedV e g with
    | bad => rw [runOps_bad hwt]; trivial
    | no =>
      rw [runOps_no hwt]
      refine ih α Λ h w _ tmps s hm hsz (he.ghost undefV hX) (fun j hj => ?_) (apOld undefV ?_)
      · rcases (hq j).1 hj with rfl | hj'
        · refine ⟨o, d, g, hb, fun f v a hf hv ha => ?_, .inl ⟨?_, put_self e undefV d⟩⟩
          · rw [put_self] at hv; cases hv; cases ha
          · rw [(seen_same hb.guard (seen undefV)).1]; exact hwt
        · exact old undefV h (fun _ _ h => h) (Nat.le_refl _) j hj'
      · intro fi vi a _ hv ha; subst hv; cases ha
    | yes =>
      rw [runOps_yes hwt]
      simp only
      rcases hpa with ⟨f, hf⟩ | ⟨f, hf⟩
      · rw [hf]
        simp only
        cases hfe : f e h with
        | none => trivial
        | some v =>
          simp only
          refine ih α Λ h w _ tmps s hm hsz (he.ghost v hX) (fun j hj => ?_) (apOld v ?_)
          · rcases (hq j).1 hj with rfl | hj'
            · refine ⟨o, d, g, hb, fun f' v a hf' hv ha => ?_, .inr ⟨?_, .inl ⟨f, v, hf, ?_, put_self e v d⟩⟩⟩
              · rw [hf] at hf'; cases hf'
              · rw [(seen_same hb.guard (seen v)).1]; exact hwt
              · rw [pu_congr hf (seen_same hb.guard (seen v)).2 (fun _ => rfl)]; exact hfe
            · exact old v h (fun _ _ h => h) (Nat.le_refl _) j hj'
          · intro fi vi a hfi; rw [hf] at hfi; cases hfi
      · rw [hf]
        simp only
        cases hfe : f e with
        | none => trivial
        | some bm =>
          obtain ⟨b, mk⟩ := bm
          simp only
          have hnx : h.next.toNat < (h.alloc b).next.toNat := by show _ < h.next.succ.toNat; rw [Pa.toNat_succ]; omega
          have hblk := (al_blk hf hfe h.next).1
          refine ORel.of_steps C nt ops A K ds k cs ls m (Steps.refl _ _) ⟨AM.le_refl α, fun _ _ h => h, Nat.le_of_lt hnx⟩ ?_
          refine ih α Λ _ w _ tmps (s.ghost b) (by omega) hsz (he.ghost (mk h.next) hX) (fun j hj => ?_) (apOld (mk h.next) ?_)
          · rcases (hq j).1 hj with rfl | hj'
            · refine ⟨o, d, g, hb, fun f' v a hf' hv ha => ?_, .inr ⟨?_, .inr ⟨f, b, mk, h.next, hf, ?_, put_self e _ d, ?_⟩⟩⟩
              · rw [put_self] at hv; cases hv
                rw [hblk] at ha; cases ha
                exact ⟨s.next_none, hm, hnx⟩
              · rw [(seen_same hb.guard (seen _)).1]; exact hwt
              · rw [al_congr hf (seen_same hb.guard (seen _)).2]; exact hfe
              · simp [Heap.alloc, Heap.get, T.get_set]
            · exact old _ _ (HLe.alloc s b) (Nat.le_of_lt hnx) j hj'
          · intro fi vi a hfi hv ha j oj dj vj hj hoj hdj hal hvj hva
            subst hv
            rw [hblk] at ha; cases ha
            obtain ⟨d', g', hb', hg', _⟩ := (hpe j hj).dst hoj
            obtain ⟨fj, hfj⟩ := hal
            have : d' = dj := by have := hb'.dst; rw [hdj] at this; cases this; rfl
            subst this
            have := (hg' fj vj h.next hfj hvj hva).2.2
            omega
  | @fill rs L p q i o ho hp hn hq next ih =>
    intro α Λ h w e tmps s hm hsz he hpe hap
    obtain ⟨d, g, hb, hgh, hag⟩ := (hpe i hp).dst ho
    have hX : ∀ t ∈ namesOf ops o, ¬ XOf ops p t := fun t ht ⟨j, oj, h1, h2, h3⟩ => hn j oj t h1 h2 h3 ht
    obtain ⟨hX1, hX2⟩ := not_X hX
    have hXd : ∀ t, XOf ops p t → XOf ops q t ∨ t = d := by
      rintro t ⟨j, oj, h1, h2, h3⟩
      by_cases hji : j = i
      · subst hji
        rw [ho] at h2; cases h2
        rw [hb.dst] at h3; cases h3
        exact .inr rfl
      · exact .inl ⟨j, oj, (hq j).2 ⟨hji, h1⟩, h2, h3⟩
    have hlt : d < tmps.size := Nat.lt_of_lt_of_le hb.lt hsz
    have hapq : Apart C.P ops e q := fun i' j' oi oj di dj fi fj vi vj a hi hj => hap i' j' oi oj di dj fi fj vi vj a ((hq i').1 hi).2 ((hq j').1 hj).2
    obtain ⟨wy, wn⟩ := wanted_sound he hb.guard hX2
    rcases hag with ⟨h1, h2⟩ | ⟨h1, ⟨f, v, k1, k2, k3⟩ | ⟨f, b, mk, a, k1, k2, k3, k4⟩⟩
    · refine ORel.of_steps C nt ops A K ds k cs ls m (.one (step_no ho (wn h1))) (Ext.refl m α h) ?_
      rw [hb.dst]
      exact ih α Λ h w e _ s hm (by rw [putC_size]; exact hsz) (he.fill h2 (undef_R α) hlt hXd) (fun j hj => hpe j ((hq j).1 hj).2) hapq
    · obtain ⟨e0, o1, o2⟩ := he.ops hX1
      have hf0 : f e0 h = some v := by rw [pu_congr k1 o2 (fun _ => rfl)]; exact k2
      obtain ⟨c, r1, r2⟩ := pu_sound k1 C α Λ h ls w e0 _ v rfl s o1 hf0
      refine ORel.of_steps C nt ops A K ds k cs ls m (.one (step_val ho (wy h1) (not_defer (fun f' h' => by rw [k1] at h'; cases h')) r1 (.inl rfl))) (Ext.refl m α h) ?_
      rw [hb.dst]
      exact ih α Λ h w e _ s hm (by rw [putC_size]; exact hsz) (he.fill k3 r2 hlt hXd) (fun j hj => hpe j ((hq j).1 hj).2) hapq
    · obtain ⟨e0, o1, o2⟩ := he.ops hX1
      have hf0 : f e0 = some (b, mk) := by rw [al_congr k1 o2]; exact k2
      obtain ⟨c, w', top, md, r1, r2, r3, r4, r5⟩ := al_sound k1 α w e0 _ b mk o1 hf0
      have hblk := (al_blk k1 k2 a).1
      obtain ⟨g1, g2, g3⟩ := hgh f _ a k1 k3 hblk
      have hle := AM.le_put (α := α) (a := a) (L := ⟨w.heap.size, 0, top, md⟩) g1
      obtain ⟨b1, b2⟩ := r5 (α.put a ⟨w.heap.size, 0, top, md⟩) ls a hle (AM.put_self _ _ _)
      have s' := s.fill (top := top) (md := md) g1 k4 r2 b1
      refine ORel.of_steps C nt ops A K ds k cs ls m (.one (step_val ho (wy h1) (not_defer (fun f' h' => by rw [k1] at h'; cases h')) r1 (.inl rfl))) (α' := α.put a ⟨w.heap.size, 0, top, md⟩) (h' := h)
        ⟨hle, fun x hx hn' => ?_, Nat.le_refl _⟩ ?_
      · have : x ≠ a := fun e1 => by subst e1; omega
        simp [AM.put, this, hn']
      · rw [hb.dst]
        refine ih _ _ h w' e _ s' hm (by rw [putC_size]; exact hsz) ((he.mono hle).fill k3 b2 hlt hXd) (fun j hj => ?_) hapq
        obtain ⟨hji, hj'⟩ := (hq j).1 hj
        obtain ⟨oj, dj, gj, hbj, hgj, haj⟩ := hpe j hj'
        refine ⟨oj, dj, gj, hbj, fun f' v' a' hf' hv' ha' => ?_, haj⟩
        obtain ⟨q1, q2, q3⟩ := hgj f' v' a' hf' hv' ha'
        refine ⟨?_, q2, q3⟩
        have : a' ≠ a := fun e1 => by
          subst e1
          exact hap j i oj o dj d f' f v' (mk a') a' hj' hp hji hbj.at_ ho hbj.dst hb.dst hf' k1 hv' k3 ha' hblk
        simp [AM.put, this, q1]
  | @eff rs chks L p i o ho hn hk next ih =>
    intro α Λ h w e tmps s hm hsz he hpe hap
    have hX : ∀ t ∈ namesOf ops o, ¬ XOf ops p t := fun t ht ⟨j, oj, h1, h2, h3⟩ => (hn j oj t h1 h2 h3).1 ht
    obtain ⟨hX1, hX2⟩ := not_X hX
    rcases cRO_cases C.P nt ops o with ⟨n, d', hro⟩ | ⟨g, hro, hlt, hgr⟩
    · rw [hro, runOps_yes rfl]
      exact .inl ⟨n, rfl⟩
    · rw [hro]
      obtain ⟨wy, wn⟩ := wanted_sound he hgr hX2
      have hS : ∀ j, p j → PendS C.P nt ops A chks α e h m j := fun j hj => (hpe j hj).S fun oj hoj => (hk j oj hj hoj).imp id And.left
      have hdst : ∀ j oj t, p j → ops[j]? = some oj → oj.dst = some t → o.dst ≠ some t := fun j oj t h1 h2 h3 => (hn j oj t h1 h2 h3).2
      -- behind the effect
      have after : ∀ (α' : AM) (Λ' : Pa → Prop) (h' : Hp) (w' : World) (v : V) (c : Value), Steps C.P (lone (K.fr tmps (.inRegion ops (i :: L) :: k) ds .run) cs w) (lone (K.fr (putC tmps o.dst c) (.inRegion ops L :: k) ds .run) cs w') →
          Sim C α' Λ' h' ls w' → α.le α' → (∀ a, a.toNat < h.next.toNat → α a = none → α' a = none) → h.next.toNat ≤ h'.next.toNat → VR α' v c →
          ORel C nt ops A K ds k cs ls m (lone (K.fr tmps (.inRegion ops (i :: L) :: k) ds .run) cs w) α h (runOps (chks.map .chk ++ rs) (e.put v (o.dst.map pa)) h') := by
        intro α' Λ' h' w' v c hst s' hle hkeep hnx hv
        rcases runOps_chks (rs := rs) (e := e.put v (o.dst.map pa)) (h := h') chks with ⟨n, hbad⟩ | ⟨hc1, hc2⟩
        · rw [hbad]; trivial
        · rw [hc2]
          refine ORel.of_steps C nt ops A K ds k cs ls m hst (α' := α') (h' := h') ⟨hle, fun a ha hna => hkeep a (by omega) hna, hnx⟩ ?_
          refine ih α' Λ' h' w' _ _ s' (by omega) (by rw [putC_size]; exact hsz) ((he.mono hle).put hv (fun d hd => Nat.lt_of_lt_of_le (hlt d hd) hsz)) (fun j hj => ?_) (hap.put hdst v)
          exact ((hS j hj).put (fun oj t h1 h2 => hdst j oj t hj h1 h2) (fun oj hoj => hk j oj hj hoj) hkeep hnx v).ok hc1
      cases hwt : wantedV e g with
      | bad => rw [runOps_bad hwt]; trivial
      | no =>
        rw [runOps_no hwt]
        exact after α Λ h w undefV undef (.one (step_no ho (wn hwt))) s (AM.le_refl α) (fun _ _ h => h) (Nat.le_refl _) (undef_R α)
      | yes =>
        rw [runOps_yes hwt]
        simp only
        obtain ⟨e0, o1, o2⟩ := he.ops hX1
        cases hs : cOp C.P o.op with
        | pu f =>
          simp only
          cases hf : f e h with
          | none => trivial
          | some v =>
            simp only
            have hf0 : f e0 h = some v := by rw [pu_congr hs o2 (fun _ => rfl)]; exact hf
            obtain ⟨c, r1, r2⟩ := pu_sound hs C α Λ h ls w e0 _ v rfl s o1 hf0
            exact after α Λ h w v c (.one (step_val ho (wy hwt) (not_defer (fun f' h' => by rw [hs] at h'; cases h')) r1 (.inl rfl))) s (AM.le_refl α) (fun _ _ h => h) (Nat.le_refl _) r2
        | al f =>
          simp only
          cases hf : f e with
          | none => trivial
          | some bm =>
            obtain ⟨b, mk⟩ := bm
            simp only
            have hf0 : f e0 = some (b, mk) := by rw [al_congr hs o2]; exact hf
            obtain ⟨c, w', top, md, r1, r2, r3, r4, r5⟩ := al_sound hs α w e0 _ b mk o1 hf0
            have hle := AM.le_put (α := α) (a := h.next) (L := ⟨w.heap.size, 0, top, md⟩) s.next_none
            obtain ⟨b1, b2⟩ := r5 (α.put h.next ⟨w.heap.size, 0, top, md⟩) ls h.next hle (AM.put_self _ _ _)
            have s' := (s.ghost b).fill (top := top) (md := md) (a := h.next) s.next_none (by simp [Heap.alloc, Heap.get, T.get_set]) r2 b1
            refine after _ _ (h.alloc b) w' (mk h.next) c (.one (step_val ho (wy hwt) (not_defer (fun f' h' => by rw [hs] at h'; cases h')) r1 (.inl rfl))) s' hle (fun a ha hna => ?_) ?_ b2
            · have : a ≠ h.next := fun e1 => by subst e1; omega
              simp [AM.put, this, hna]
            · show _ ≤ h.next.succ.toNat; rw [Pa.toNat_succ]; omega
        | st f =>
          simp only
          cases hf : f e h with
          | none => trivial
          | some vh =>
            obtain ⟨v, h'⟩ := vh
            simp only
            have hf0 : f e0 h = some (v, h') := by rw [st_congr hs o2]; exact hf
            obtain ⟨n, c, w', α', Λ', r1, r2, r3, r4, r5, r6, r7⟩ := st_sound hs C α Λ h ls w e0 _ v h' rfl s o1 hf0
            refine after α' Λ' h' w' v c (.one (step_val ho (wy hwt) (not_defer (fun f' h' => by rw [hs] at h'; cases h')) r1 r2)) r4 r3 (fun a ha hna => ?_) r7 r5
            cases hx : α' a with
            | none => rfl
            | some L => exact absurd (r6 a hna (by rw [hx]; simp)) (by omega)
        | ct f =>
          simp only
          refine .inr ⟨α, Λ, w, tmps, i, L, o, f, Steps.refl _ _, Ext.refl m α h, s, ⟨hsz, ho, ⟨g, by rw [hs]⟩, hlt, chks, rs, p, rfl, next, hS, hap, he, hdst, hk⟩, hs, rfl, wy hwt, e0, o1, o2⟩
end Go.Ev
