/- A program of this law is run by an evaluator that is proved right: steps. It holds for every program of the model. -/
import Derived.Test.YtilaoinonapokaaEvE
import GoSem.Machine.Exec
namespace Go.Ev
variable {C : Cx} {nt : Nat} {ops : Array Oper} {K : CK} {ds : List Deferred} {ls : List LE} {m : Nat}

/-! ## what is still to be done -/
inductive ItemR (P : Program) (α : AM) (nt : Nat) (av : List Nat) : Item → Go.Item → Prop
  | code (c : Code) : ItemR P α nt av (.code (cCode P nt av c)) (.code c)
  | inBlock (id : Nat) : ItemR P α nt av (.inBlock id) (.inBlock id)
  | inLoop (c : Code) : ItemR P α nt av (.inLoop (cCode P nt av c)) (.inLoop c)
  | inRF (l : Pa) (L : Loc) (h : α l = some L) : ItemR P α nt av (.inRF l) (.inRangeFunc L.blk)
  | endRF (l : Pa) (L : Loc) (h : α l = some L) : ItemR P α nt av (.endRF l) (.endRangeFunc L.blk)
  | begin : ItemR P α nt av .begin .beginRound

theorem ItemR.mono {P : Program} {α α' : AM} (hle : α.le α') {nt : Nat} {av : List Nat} {i : Item} {c : Go.Item} (h : ItemR P α nt av i c) : ItemR P α' nt av i c := by
  cases h with
  | code c => exact .code c
  | inBlock id => exact .inBlock id
  | inLoop c => exact .inLoop c
  | inRF l L h => exact .inRF l L (hle l L h)
  | endRF l L h => exact .endRF l L (hle l L h)
  | begin => exact .begin

inductive TodoR (P : Program) (α : AM) (nt : Nat) (av : List Nat) : List Item → List Go.Item → Prop
  | nil : TodoR P α nt av [] []
  | cons {i : Item} {c : Go.Item} {k : List Item} {ck : List Go.Item} (h : ItemR P α nt av i c) (t : TodoR P α nt av k ck) : TodoR P α nt av (i :: k) (c :: ck)
theorem TodoR.mono {P : Program} {α α' : AM} (hle : α.le α') {nt : Nat} {av : List Nat} {k : List Item} {ck : List Go.Item} (h : TodoR P α nt av k ck) : TodoR P α' nt av k ck := by
  induction h with
  | nil => exact .nil
  | cons h _ ih => exact .cons (h.mono hle) ih

theorem exit_R {P : Program} {α : AM} {nt : Nat} {av : List Nat} {id : Nat} : ∀ {k : List Item} {ck : List Go.Item}, TodoR P α nt av k ck → (∀ {k' : List Item}, exitTo id k = some k' → ∃ ck', Go.exitTo id ck = some ck' ∧ TodoR P α nt av k' ck') ∧
    (exitTo id k = none → Go.exitTo id ck = none)
  | _, _, .nil => ⟨fun h => by simp [exitTo] at h, fun _ => rfl⟩
  | _, _, .cons hi ht => by
    have ih := exit_R (id := id) ht
    cases hi with
    | code c => exact ih
    | inLoop c => exact ih
    | inRF l L h => exact ih
    | endRF l L h => exact ih
    | begin => exact ih
    | inBlock j =>
      simp only [exitTo]
      cases hb : Nat.beq j id with
      | true =>
        have := Nat.eq_of_beq_eq_true hb; subst this
        refine ⟨fun h => ?_, fun h => by simp at h⟩
        simp only [cond_true, Option.some.injEq] at h; subst h
        exact ⟨_, by simp [Go.exitTo], ht⟩
      | false =>
        have hne : (j == id) = false := by
          simp only [beq_eq_false_iff_ne]
          intro e; subst e; simp at hb
        simp only [cond_false]
        refine ⟨fun h => ?_, fun h => ?_⟩
        · obtain ⟨ck', h1, h2⟩ := ih.1 h
          exact ⟨ck', by simp [Go.exitTo, hne, h1], h2⟩
        · simp [Go.exitTo, hne, ih.2 h]

inductive DefsR (α : AM) : List Def → List Deferred → Prop
  | nil : DefsR α [] []
  | call {f : Nat} {args : List V} {A : Array Value} {ds : List Def} {Ds : List Deferred} (caps : List Value) (ha : VRs α args (A.toList ++ caps)) (h : DefsR α ds Ds) : DefsR α (.call f args :: ds) ({ target := .fn (.func f) ⟨caps⟩, args := A } :: Ds)
  | mark {a : Pa} {L : Loc} {A : Array Value} {ds : List Def} {Ds : List Deferred} (ha : α a = some L) (h : DefsR α ds Ds) : DefsR α (.mark a :: ds) ({ target := .collected L.blk, args := A } :: Ds)
theorem DefsR.mono {α α' : AM} (hle : α.le α') {ds : List Def} {Ds : List Deferred} (h : DefsR α ds Ds) : DefsR α' ds Ds := by
  induction h with
  | nil => exact .nil
  | call caps ha _ ih => exact .call caps (VRs.mono hle ha) ih
  | mark ha _ ih => exact .mark (hle _ _ ha) ih

/-- of a loop's round: which -/
def RoundR (α : AM) : Option Pa → Option Nat → Prop
  | none, r => r = none
  | some l, r => ∃ L, α l = some L ∧ r = some L.blk
theorem RoundR.mono {α α' : AM} (hle : α.le α') {a : Option Pa} {r : Option Nat} (h : RoundR α a r) : RoundR α' a r := by
  cases a with
  | none => exact h
  | some l => obtain ⟨L, h1, h2⟩ := h; exact ⟨L, hle _ _ h1, h2⟩

structure KR (α : AM) (k : FK) (K : CK) : Prop where
  fn : k.fn = K.fn
  kind : K.kind = if k.deferred then .deferred else .normal
  round : RoundR α k.round K.round
theorem KR.mono {α α' : AM} (hle : α.le α') {k : FK} {K : CK} (h : KR α k K) : KR α' k K := ⟨h.fn, h.kind, h.round.mono hle⟩

inductive ModeR (α : AM) : Mode → FrameMode → Prop
  | ret : ModeR α .returning .returning
  | pan {v : V} {c : Value} (r : Bool) (h : VR α v c) : ModeR α (.panicking v r) (.panicking [{ v := c, recovered := r, goexit := false }])
theorem ModeR.mono {α α' : AM} (hle : α.le α') {m : Mode} {c : FrameMode} (h : ModeR α m c) : ModeR α' m c := by
  cases h with
  | ret => exact .ret
  | pan r h => exact .pan r (h.mono hle)

/-- the slots that a region may run ahead with -/
def May (P : Program) (f : Nat) (t : Nat) : Prop := t ∉ avAt P f

theorem EnvX.weak {α : AM} {e : T V} {tmps : Array Value} {X Y : Nat → Prop} (h : EnvX α e tmps X) (hXY : ∀ t, X t → Y t) : EnvX α e tmps Y := fun p v hp hy => h p v hp fun hx => hy (hXY _ hx)
theorem EnvR.X {α : AM} {e : T V} {tmps : Array Value} (h : EnvR α e tmps) (X : Nat → Prop) : EnvX α e tmps X := fun p v hp _ => h p v hp

/-- a frame that runs, or is on its way out -/
inductive FrR (P : Program) (α : AM) (h : Hp) (m : Nat) : Fr → Frame → Prop
  | run {k : FK} {K : CK} {e : T V} {tmps : Array Value} {todo : List Item} {ctodo : List Go.Item} {ds : List Def} {Ds : List Deferred} (hk : KR α k K) (hd : DefsR α ds Ds)
      (he : EnvR α e tmps) (hs : k.nt ≤ tmps.size) (ht : TodoR P α k.nt (avAt P k.fn) todo ctodo) : FrR P α h m ⟨k, e, todo, ds, .run⟩ (K.fr tmps ctodo Ds .run)
  | reg {k : FK} {K : CK} {e : T V} {tmps : Array Value} {todo : List Item} {ctodo : List Go.Item} {ds : List Def} {Ds : List Deferred} {ops : Array Oper} {chks : List (RO Blk)} {rs : List (RS Blk)} {L : List Nat}
      {p : Nat → Prop} (hk : KR α k K) (hd : DefsR α ds Ds) (hw : Weave P k.nt ops (May P k.fn) rs L p) (hp : ∀ j, p j → PendS P k.nt ops (May P k.fn) chks α e h m j) (ha : Apart P ops e p)
      (he : EnvX α e tmps (XOf ops p)) (hs : k.nt ≤ tmps.size) (ht : TodoR P α k.nt (avAt P k.fn) todo ctodo) :
      FrR P α h m ⟨k, e, .reg (chks.map .chk ++ rs) :: todo, ds, .run⟩ (K.fr tmps (.inRegion ops L :: ctodo) Ds .run)
  | out {k : FK} {K : CK} {e : T V} {tmps : Array Value} {todo : List Item} {ctodo : List Go.Item} {ds : List Def} {Ds : List Deferred} {md : Mode} {cm : FrameMode} (hk : KR α k K) (hd : DefsR α ds Ds)
      (he : EnvX α e tmps (May P k.fn)) (hm : ModeR α md cm) : FrR P α h m ⟨k, e, todo, ds, md⟩ (K.fr tmps ctodo Ds cm)

/-- a frame that waits: for what a call hands back; for a function that is ranged over; or, on its way out, for a deferred call -/
inductive CalR (P : Program) (α : AM) (h : Hp) (m : Nat) : Bool → Fr → Frame → Prop
  | wait {k : FK} {K : CK} {e : T V} {tmps : Array Value} {todo : List Item} {ctodo : List Go.Item} {ds : List Def} {Ds : List Deferred} {ops : Array Oper} {o : RO Blk} {rs : List (RS Blk)} {i : Nat} {L : List Nat} {oi : Oper}
      (hk : KR α k K) (hd : DefsR α ds Ds) (hw : Wait P k.nt ops (May P k.fn) m α e h tmps o rs i L oi) (ht : TodoR P α k.nt (avAt P k.fn) todo ctodo) :
      CalR P α h m false ⟨k, e, .reg (.op o :: rs) :: todo, ds, .run⟩ (K.fr tmps (.inRegion ops (i :: L) :: ctodo) Ds .run)
  | rf {k : FK} {K : CK} {e : T V} {tmps : Array Value} {todo : List Item} {ctodo : List Go.Item} {ds : List Def} {Ds : List Deferred} {l : Pa} {L : Loc} (hk : KR α k K) (hd : DefsR α ds Ds)
      (he : EnvR α e tmps) (hs : k.nt ≤ tmps.size) (ht : TodoR P α k.nt (avAt P k.fn) todo ctodo) (hl : α l = some L) :
      CalR P α h m false ⟨k, e, .inRF l :: todo, ds, .run⟩ (K.fr tmps (.inRangeFunc L.blk :: ctodo) Ds .run)
  | out {k : FK} {K : CK} {e : T V} {tmps : Array Value} {todo : List Item} {ctodo : List Go.Item} {ds : List Def} {Ds : List Deferred} {md : Mode} {cm : FrameMode} (hk : KR α k K) (hd : DefsR α ds Ds)
      (he : EnvX α e tmps (May P k.fn)) (hm : ModeR α md cm) : CalR P α h m true ⟨k, e, todo, ds, md⟩ (K.fr tmps ctodo Ds cm)

inductive StkR (P : Program) (α : AM) (cs0 : List Frame) (f0 : Nat) : Nat → Bool → Nat → List Fr → List Frame → Prop
  | nil (m : Nat) : StkR P α cs0 f0 m false f0 [] cs0
  | cons {m m' : Nat} {d : Bool} {f : Nat} {c : Fr} {cc : Frame} {cs : List Fr} {ccs : List Frame} (h0 : Hp) (hc : CalR P α h0 m' d c cc) (h1 : m' ≤ h0.next.toNat) (h2 : h0.next.toNat ≤ m)
      (hs : StkR P α cs0 f0 m' c.k.deferred c.k.fn cs ccs) : StkR P α cs0 f0 m d f (c :: cs) (cc :: ccs)

variable {A : Nat → Prop}
theorem PendS.mono {P : Program} {chks : List (RO Blk)} {α α' : AM} {e : T V} {h : Hp} {m j : Nat} (hp : PendS P nt ops A chks α e h m j) (hα : ∀ a, a.toNat < h.next.toNat → α a = none → α' a = none) : PendS P nt ops A chks α' e h m j := by
  obtain ⟨oj, d, g, hb, hg, ha⟩ := hp
  exact ⟨oj, d, g, hb, hg.mono rfl hα (Nat.le_refl _), ha⟩

theorem Wait.mono {P : Program} {α α' : AM} (hle : α.le α') {e : T V} {h : Hp} {tmps : Array Value} {o : RO Blk} {rs : List (RS Blk)} {i : Nat} {L : List Nat} {oi : Oper} (hα : ∀ a, a.toNat < h.next.toNat → α a = none → α' a = none)
    (hw : Wait P nt ops A m α e h tmps o rs i L oi) : Wait P nt ops A m α' e h tmps o rs i L oi := by
  obtain ⟨chks, rs1, p, h1, h2, h3, h4, h5, h6⟩ := hw.rest
  exact ⟨hw.size, hw.at_, hw.ro, hw.lt, chks, rs1, p, h1, h2, fun j hj => (h3 j hj).mono hα, h4, h5.mono hle, h6⟩

/-- what is ahead is of no result -/
theorem pend_may {P : Program} {chks : List (RO Blk)} {α : AM} {e : T V} {h : Hp} {tmps : Array Value} {p : Nat → Prop} (hp : ∀ j, p j → PendS P nt ops A chks α e h m j) (he : EnvX α e tmps (XOf ops p)) : EnvX α e tmps A :=
  he.weak fun t ⟨j, oj, h1, h2, h3⟩ => by
    obtain ⟨o, d, g, hb, _⟩ := hp j h1
    have e1 := hb.at_
    rw [h2] at e1; cases e1
    have e2 := hb.dst
    rw [h3] at e2; cases e2
    exact hb.may

theorem CalR.mono {P : Program} {α α' : AM} (hle : α.le α') {h : Hp} {d : Bool} {c : Fr} {cc : Frame} (hα : ∀ a, a.toNat < h.next.toNat → α a = none → α' a = none) (hc : CalR P α h m d c cc) : CalR P α' h m d c cc := by
  cases hc with
  | wait hk hd hw ht => exact .wait (hk.mono hle) (hd.mono hle) (hw.mono hle hα) (ht.mono hle)
  | rf hk hd he hs ht hl => exact .rf (hk.mono hle) (hd.mono hle) (he.mono hle) hs (ht.mono hle) (hle _ _ hl)
  | out hk hd he hm => exact .out (hk.mono hle) (hd.mono hle) (he.mono hle) (hm.mono hle)

theorem StkR.mono {P : Program} {α α' : AM} {cs0 : List Frame} {f0 : Nat} (hle : α.le α') : ∀ {m : Nat} {d : Bool} {f : Nat} {cs : List Fr} {ccs : List Frame}, (∀ a, a.toNat < m → α a = none → α' a = none) →
    StkR P α cs0 f0 m d f cs ccs → StkR P α' cs0 f0 m d f cs ccs
  | _, _, _, _, _, _, .nil m => .nil m
  | _, _, _, _, _, hα, .cons h0 hc h1 h2 hs => .cons h0 (hc.mono hle fun a ha hn => hα a (by omega) hn) h1 h2 (StkR.mono hle (fun a ha hn => hα a (by omega) hn) hs)

/-- the memory's machine, and the world's -/
structure Rel (C : Cx) (cs0 : List Frame) (f0 : Nat) (fr : Fr) (cs : List Fr) (h : Hp) (ls : List LE) (M : Machine) : Prop where
  it : ∃ α Λ w m cfr ccs, M = lone cfr ccs w ∧ Sim C α Λ h ls w ∧ m ≤ h.next.toNat ∧ FrR C.P α h m fr cfr ∧ StkR C.P α cs0 f0 m fr.k.deferred fr.k.fn cs ccs

/-- where a step leads -/
def NRel (C : Cx) (cs0 : List Frame) (f0 : Nat) (M : Machine) : Nx → Prop
  | .go fr cs h ls => ∃ M', Steps C.P M M' ∧ Rel C cs0 f0 fr cs h ls M'
  | .done v h => ∃ cfr w c α Λ ls, Steps C.P M (lone cfr cs0 w) ∧ cfr.fn = f0 ∧ cfr.leaving C.P w (.returned c) ∧ Sim C α Λ h ls w ∧ VR α v c
  | .bad _ _ => True

theorem NRel.of_steps {cs0 : List Frame} {f0 : Nat} {M M' : Machine} {n : Nx} (hs : Steps C.P M M') (h : NRel C cs0 f0 M' n) : NRel C cs0 f0 M n := by
  cases n with
  | go fr cs h ls => obtain ⟨M2, h1, h2⟩ := h; exact ⟨M2, hs.trans h1, h2⟩
  | done v h => obtain ⟨a, b, c, d, e, f, h1, h2⟩ := h; exact ⟨a, b, c, d, e, f, hs.trans h1, h2⟩
  | bad a b => trivial

section moves
variable {P : Program} {tmps : Array Value} {k : List Go.Item} {cs : List Frame} {w : World}
theorem mv_skip : Go.step P (lone (K.fr tmps (.code .skip :: k) ds .run) cs w) = .next (lone (K.fr tmps k ds .run) cs w) :=
  step_lone_go (by simp [stepG, stepG.exec, CK.fr])
theorem mv_label {l : Nat} : Go.step P (lone (K.fr tmps (.code (.label l) :: k) ds .run) cs w) = .next (lone (K.fr tmps k ds .run) cs w) :=
  step_lone_go (by simp [stepG, stepG.exec, CK.fr])
theorem mv_inBlock {id : Nat} : Go.step P (lone (K.fr tmps (.inBlock id :: k) ds .run) cs w) = .next (lone (K.fr tmps k ds .run) cs w) :=
  step_lone_go (by simp [stepG, stepG.exec, CK.fr])
theorem mv_seq {x y : Code} : Go.step P (lone (K.fr tmps (.code (.seq x y) :: k) ds .run) cs w) = .next (lone (K.fr tmps (.code x :: .code y :: k) ds .run) cs w) :=
  step_lone_go (by simp [stepG, stepG.exec, CK.fr])
theorem mv_cond {c : Operand} {x y : Code} {t : Bool} (h : evC tmps c = .bool t) :
    Go.step P (lone (K.fr tmps (.code (.cond c x y) :: k) ds .run) cs w) = .next (lone (K.fr tmps (.code (if t then x else y) :: k) ds .run) cs w) :=
  step_lone_go (by
    have he := CK.eval K tmps (.code (.cond c x y) :: k) ds .run
    simp only [CK.fr] at he
    simp [stepG, stepG.exec, CK.fr, he, h])
theorem mv_block {id : Nat} {c : Code} : Go.step P (lone (K.fr tmps (.code (.block id c) :: k) ds .run) cs w) = .next (lone (K.fr tmps (.code c :: .inBlock id :: k) ds .run) cs w) :=
  step_lone_go (by simp [stepG, stepG.exec, CK.fr])
theorem mv_loop {c : Code} : Go.step P (lone (K.fr tmps (.code (.loop c) :: k) ds .run) cs w) = .next (lone (K.fr tmps (.code c :: .inLoop c :: k) ds .run) cs w) :=
  step_lone_go (by simp [stepG, stepG.exec, CK.fr])
theorem mv_inLoop {c : Code} : Go.step P (lone (K.fr tmps (.inLoop c :: k) ds .run) cs w) = .next (lone (K.fr tmps (.code c :: .inLoop c :: k) ds .run) cs w) :=
  step_lone_go (by simp [stepG, stepG.exec, CK.fr])
theorem mv_exit {id : Nat} {k' : List Go.Item} (h : Go.exitTo id k = some k') : Go.step P (lone (K.fr tmps (.code (.exit id) :: k) ds .run) cs w) = .next (lone (K.fr tmps k' ds .run) cs w) :=
  step_lone_go (by simp [stepG, stepG.exec, CK.fr, h])
theorem mv_ret (hr : K.round = none) : Go.step P (lone (K.fr tmps (.code .ret :: k) ds .run) cs w) = .next (lone (K.fr tmps (.code .ret :: k) ds .returning) cs w) :=
  step_lone_go (by simp [stepG, stepG.exec, CK.fr, hr])
theorem mv_end (hr : K.round = none) : Go.step P (lone (K.fr tmps [] ds .run) cs w) = .next (lone (K.fr tmps [] ds .returning) cs w) :=
  step_lone_go (by simp [stepG, stepG.exec, CK.fr, hr])
theorem mv_region {id : Nat} {ops : Array Oper} : Go.step P (lone (K.fr tmps (.code (.region id ops false) :: k) ds .run) cs w) = .next (lone (K.fr tmps (.inRegion ops (List.range ops.size) :: k) ds .run) cs w) :=
  step_lone_go (by simp [stepG, stepG.exec, CK.fr])
theorem mv_draw {id : Nat} {ops : Array Oper} : Go.step P (lone (K.fr tmps (.code (.region id ops true) :: k) ds .run) cs w) =
    .next (lone (K.fr tmps (.inRegion ops (Region.schedule (P.follows .mixedOrders) ops (w.tape w.drawn (.order K.fn id))) :: k) ds .run) cs { w with drawn := w.drawn + 1 }) :=
  step_lone_go (by simp [stepG, stepG.exec, CK.fr, choose, Sem.run, Question.forced, Question.cut])
end moves

theorem lin_weave {P : Program} {nt : Nat} {ops : Array Oper} {A : Nat → Prop} : ∀ (l : List Oper) (i : Nat), (∀ (j : Nat) o, l[j]? = some o → ops[i + j]? = some o) →
    Weave P nt ops A (l.map fun o => .op (cRO P nt ops o)) (List.range' i l.length) (fun _ => False)
  | [], i, _ => .done (fun _ h => h)
  | o :: l, i, h => by
    have ih := lin_weave (P := P) (nt := nt) (ops := ops) (A := A) l (i + 1) (fun j o' hj => by have := h (j + 1) o' (by simpa using hj); rw [← this]; congr 1; omega)
    have := Weave.eff (P := P) (nt := nt) (ops := ops) (A := A) (chks := []) i o (h 0 o (by simp)) (fun _ _ _ h => h.elim) (fun _ _ h => h.elim) ih
    simpa [List.range'_succ] using this

theorem undrawn {P : Program} {nt : Nat} {ops : Array Oper} {A : Nat → Prop} : Weave P nt ops A (ops.toList.map fun o => .op (cRO P nt ops o)) (List.range ops.size) (fun _ => False) := by
  have := lin_weave (P := P) (nt := nt) (ops := ops) (A := A) ops.toList 0 (fun j o h => by simpa using h)
  rw [List.range_eq_range']
  simpa using this

/-- the theorem on plans, that is proved apart -/
def PlanOk (P : Program) : Prop := ∀ (nt : Nat) (av : List Nat) (ops : Array Oper) (rs : List (RS Blk)) (t : Nat), drawn P nt av ops (dOps P nt ops ops.toList 0 []) = .region rs →
  Weave P nt ops (fun t => t ∉ av) rs (Region.schedule (P.follows .mixedOrders) ops t) (fun _ => False)

variable {cs0 : List Frame} {f0 : Nat}

theorem noPend {P : Program} {nt : Nat} {ops : Array Oper} {α : AM} {e : T V} {h : Hp} {tmps : Array Value} (he : EnvR α e tmps) :
    (∀ j, (fun _ => False) j → PendS P nt ops A [] α e h m j) ∧ Apart P ops e (fun _ => False) ∧ EnvX α e tmps (XOf ops fun _ => False) :=
  ⟨fun _ h => h.elim, fun _ _ _ _ _ _ _ _ _ _ _ h => h.elim, fun p v hp _ => he p v hp⟩

/-- a code that is begun -/
theorem push_R (hpl : PlanOk C.P) {α : AM} {Λ : Pa → Prop} {h : Hp} {fk : FK} {e : T V} {tmps : Array Value} {defs : List Def} (hk : KR α fk K) (hd : DefsR α defs ds) (he : EnvR α e tmps) (hs : fk.nt ≤ tmps.size) {ccs : List Frame} :
    ∀ (c : Code) (k : List Item) (ck : List Go.Item) (w : World), Sim C α Λ h ls w → TodoR C.P α fk.nt (avAt C.P fk.fn) k ck →
      ∃ cfr w', Steps C.P (lone (K.fr tmps (.code c :: ck) ds .run) ccs w) (lone cfr ccs w') ∧ Sim C α Λ h ls w' ∧ FrR C.P α h m ⟨fk, e, pushC (cCode C.P fk.nt (avAt C.P fk.fn) c) k, defs, .run⟩ cfr
  | .skip, k, ck, w, s, ht => ⟨_, w, .one mv_skip, s, .run hk hd he hs ht⟩
  | .label l, k, ck, w, s, ht => ⟨_, w, .one mv_label, s, .run hk hd he hs ht⟩
  | .seq a b, k, ck, w, s, ht => by
    obtain ⟨cfr, w', h1, h2, h3⟩ := push_R hpl (ccs := ccs) hk hd he hs a (.code (cCode C.P fk.nt (avAt C.P fk.fn) b) :: k) (.code b :: ck) w s (.cons (.code b) ht)
    exact ⟨cfr, w', .head mv_seq h1, h2, h3⟩
  | .region id ops draw, k, ck, w, s, ht => by
    cases draw with
    | false =>
      obtain ⟨n1, n2, n3⟩ := noPend (P := C.P) (nt := fk.nt) (ops := ops) (A := May C.P fk.fn) (m := m) (h := h) he
      have hc : cCode C.P fk.nt (avAt C.P fk.fn) (.region id ops false) = .region (ops.toList.map fun o => .op (cRO C.P fk.nt ops o)) := rfl
      rw [hc]
      exact ⟨_, w, .one mv_region, s, .reg (chks := []) hk hd undrawn n1 n2 n3 hs ht⟩
    | true =>
      have hc : cCode C.P fk.nt (avAt C.P fk.fn) (.region id ops true) = drawn C.P fk.nt (avAt C.P fk.fn) ops (dOps C.P fk.nt ops ops.toList 0 []) := rfl
      have hor : (∃ rs, drawn C.P fk.nt (avAt C.P fk.fn) ops (dOps C.P fk.nt ops ops.toList 0 []) = .region rs) ∨ drawn C.P fk.nt (avAt C.P fk.fn) ops (dOps C.P fk.nt ops ops.toList 0 []) = .bad := by
        unfold drawn
        cases (C.P.follows .mixedOrders && (regionOk ops (dOps C.P fk.nt ops ops.toList 0 []) && avoids (avAt C.P fk.fn) (dOps C.P fk.nt ops ops.toList 0 []))) with
        | true => exact .inl ⟨_, rfl⟩
        | false => exact .inr rfl
      rcases hor with ⟨rs, hr⟩ | hr
      · rw [hc, hr]
        obtain ⟨n1, n2, n3⟩ := noPend (P := C.P) (nt := fk.nt) (ops := ops) (A := May C.P fk.fn) (m := m) (h := h) he
        exact ⟨_, _, .one mv_draw, s.same rfl ⟨rfl, rfl⟩, .reg (chks := []) hk hd (hpl fk.nt _ ops rs _ hr) n1 n2 n3 hs ht⟩
      · have hp : pushC (cCode C.P fk.nt (avAt C.P fk.fn) (.region id ops true)) k = .code (cCode C.P fk.nt (avAt C.P fk.fn) (.region id ops true)) :: k := by rw [hc, hr]; rfl
        rw [hp]
        exact ⟨_, w, .refl _ _, s, .run hk hd he hs (.cons (.code _) ht)⟩
  | .cond c a b, k, ck, w, s, ht => ⟨_, w, .refl _ _, s, .run hk hd he hs (.cons (.code (.cond c a b)) ht)⟩
  | .block id b, k, ck, w, s, ht => ⟨_, w, .refl _ _, s, .run hk hd he hs (.cons (.code (.block id b)) ht)⟩
  | .loop b, k, ck, w, s, ht => ⟨_, w, .refl _ _, s, .run hk hd he hs (.cons (.code (.loop b)) ht)⟩
  | .exit id, k, ck, w, s, ht => ⟨_, w, .refl _ _, s, .run hk hd he hs (.cons (.code (.exit id)) ht)⟩
  | .ret, k, ck, w, s, ht => ⟨_, w, .refl _ _, s, .run hk hd he hs (.cons (.code .ret) ht)⟩
  | .scope b, k, ck, w, s, ht => ⟨_, w, .refl _ _, s, .run hk hd he hs (.cons (.code (.scope b)) ht)⟩
  | .goto l, k, ck, w, s, ht => ⟨_, w, .refl _ _, s, .run hk hd he hs (.cons (.code (.goto l)) ht)⟩
  | .refuse y, k, ck, w, s, ht => ⟨_, w, .refl _ _, s, .run hk hd he hs (.cons (.code (.refuse y)) ht)⟩
  | .rangeFunc f ps a b, k, ck, w, s, ht => by
    have : pushC (cCode C.P fk.nt (avAt C.P fk.fn) (.rangeFunc f ps a b)) k = .code (cCode C.P fk.nt (avAt C.P fk.fn) (.rangeFunc f ps a b)) :: k := by
      simp only [cCode]
      cases (ps.toList.all fun t => Nat.blt t fk.nt) <;> rfl
    rw [this]
    exact ⟨_, w, .refl _ _, s, .run hk hd he hs (.cons (.code (.rangeFunc f ps a b)) ht)⟩
end Go.Ev

namespace Go.Ev
variable {C : Cx} {K : CK} {ls : List LE} {m : Nat} {cs0 : List Frame} {f0 : Nat} {α : AM} {Λ : Pa → Prop} {h : Hp} {w : World}

/-! ## a frame is entered -/
theorem cFn_some {P : Program} {f : Nat} {i : IFn} (h : cFn P f = some i) : ∃ fn c, P.funcs[f]? = some fn ∧ fn.body = some c ∧ cRes P fn.results.toList = some i.res ∧ i.body = cCode P fn.ntmps (avAt P f) c ∧ i.nt = fn.ntmps := by
  unfold cFn at h
  cases hf : P.funcs[f]? with
  | none => simp [hf] at h
  | some fn =>
    simp only [hf] at h
    cases hb : fn.body with
    | none => simp [hb] at h
    | some c =>
      simp only [hb] at h
      cases hr : cRes P fn.results.toList with
      | none => simp [hr] at h
      | some res =>
        simp only [hr, Option.some.injEq] at h
        subst h
        exact ⟨fn, c, rfl, hb, hr, by simp [avAt, hf], rfl⟩

theorem putArgs_get : ∀ (l : List V) (i : Pa) (e : T V) (p : Pa), (putArgs l i e).get p = if i.toNat ≤ p.toNat ∧ p.toNat < i.toNat + l.length then l[p.toNat - i.toNat]? else e.get p
  | [], i, e, p => by rw [if_neg (by simp)]; rfl
  | v :: l, i, e, p => by
    simp only [putArgs]
    rw [putArgs_get l i.succ (e.set v i) p, Pa.toNat_succ, T.get_set]
    simp only [List.length_cons]
    by_cases hip : i = p
    · subst hip
      rw [if_neg (by omega), if_pos rfl, if_pos (by omega)]
      simp
    · have hne : i.toNat ≠ p.toNat := fun e => hip (Pa.toNat_inj e)
      rw [if_neg hip]
      by_cases h1 : i.toNat + 1 ≤ p.toNat ∧ p.toNat < i.toNat + 1 + l.length
      · rw [if_pos h1, if_pos (by omega)]
        have : p.toNat - i.toNat = (p.toNat - (i.toNat + 1)) + 1 := by omega
        rw [this]; simp
      · rw [if_neg h1, if_neg (by omega)]

theorem enter_R {f : Nat} {i : IFn} (hc : cFn C.P f = some i) {args : List V} {cargs : List Value} (ha : VRs α args cargs) (d : Bool) :
    FrR C.P α h m (enter i f args d) (Frame.enter C.P f cargs.toArray (if d then .deferred else .normal)) ∧ (enter i f args d).k.deferred = d ∧ (enter i f args d).k.fn = f := by
  obtain ⟨fn, c, h1, h2, h3, h4, h5⟩ := cFn_some hc
  refine ⟨?_, rfl, rfl⟩
  have hfr : Frame.enter C.P f cargs.toArray (if d then .deferred else .normal) =
      (CK.mk f (if d then .deferred else .normal) none).fr (cargs.toArray ++ Array.replicate (fn.ntmps - cargs.toArray.size) undef) [.code c] [] .run := by
    simp [Frame.enter, CK.fr, h1, h2]
  rw [hfr]
  have hen : enter i f args d = ⟨⟨f, i.nt, d, none⟩, putArgs args .z .E, [.code (cCode C.P i.nt (avAt C.P f) c)], [], .run⟩ := by
    simp only [enter]; rw [h4, h5]
  rw [hen]
  refine .run ⟨rfl, rfl, rfl⟩ .nil (fun p v hp => ?_) (by simp [h5]; omega) (.cons (.code c) .nil)
  rw [putArgs_get] at hp
  have hE : (T.E : T V).get p = none := by cases p <;> rfl
  simp only [Pa.toNat, Nat.zero_le, true_and, Nat.zero_add, Nat.sub_zero, hE] at hp
  split at hp
  · rename_i hlt
    obtain ⟨c', k1, k2⟩ := ha.get hp
    refine ⟨c', ?_, k2⟩
    rw [Array.getElem?_append_left (by have := ha.length; simp; omega)]
    simpa using k1
  · cases hp

theorem run_callFunc {P : Program} {f : Nat} {fn : Func} {c : Code} (hf : P.funcs[f]? = some fn) (hb : fn.body = some c) (hn : (fn.name == "runtime.NumGoroutine") = false) (args : Array Value) (w : World) :
    (callFunc f args).run P w = .ok (.enter f args) w := by
  have hn' : ¬ fn.name = "runtime.NumGoroutine" := by simpa using hn
  simp [callFunc, hf, hb, hn']

/-- no function with a text bears the one name that is a thing apart -/
def NamesOk (P : Program) : Prop := ∀ (f : Nat) (fn : Func) (c : Code), P.funcs[f]? = some fn → fn.body = some c → (fn.name == "runtime.NumGoroutine") = false

/-! ## what leaves the frame -/
theorem ct_cases {P : Program} {o : Oper} {f : T V → Ctl} (hc : cOp P o.op = .ct f) :
    (∃ n, f = fun _ => .bad n) ∨ (∃ c x, o.op = .call c ∧ c.callee = .value x ∧ ((∃ g, x = .func g ∧ f = fun e => .call g (evL e (c.args.toList.map cO))) ∨
      f = fun e => match (cO x).ev e with | .fn g caps => .call g (evL e (c.args.toList.map cO) ++ caps) | .yld l => .yield l (evL e (c.args.toList.map cO)) | _ => .bad 59)) ∨
    (∃ c x, o.op = .defer c ∧ c.callee = .value x ∧ f = fun e => match (cO x).ev e with | .fn g caps => .defer (.call g (evL e (c.args.toList.map cO) ++ caps)) | _ => .bad 60) ∨
    (∃ c, o.op = .call c ∧ c.callee = .builtin .recover ∧ f = fun _ => .recover) ∨
    (∃ x, (o.op = .panic x ∨ ∃ c, o.op = .call c ∧ c.callee = .builtin .panic ∧ c.args.toList = [x]) ∧ f = fun e => match (cO x).ev e with | .iface t v => .panic (.iface t v) | _ => .bad 61) := by
  have bad : ∀ n, (smBad n : Sem1) = .ct f → ∃ n, f = fun _ => .bad n := fun n hb => by unfold smBad at hb; cases hb; exact ⟨n, rfl⟩
  cases hop : o.op <;> rw [hop] at hc <;> simp only [cOp] at hc <;> (try (exact .inl (bad _ hc))) <;> (try (cases hc; done))
  case alloc t => split at hc <;> first | (exact .inl (bad _ hc)) | (cases hc; done)
  case build t ps => repeat' (first | (exact .inl (bad _ hc)) | (cases hc; done) | split at hc)
  case buildSlice t len ps => repeat' (first | (exact .inl (bad _ hc)) | (cases hc; done) | split at hc)
  case load t a => split at hc <;> first | (exact .inl (bad _ hc)) | (cases hc; done)
  case store t a v => split at hc <;> first | (exact .inl (bad _ hc)) | (cases hc; done)
  case binOp op t x y yt =>
    split at hc
    · cases hcc : (isC x || isC y) <;> rw [hcc] at hc <;> first | (exact .inl (bad _ hc)) | (cases hc; done)
    · cases hc
  case convert s d x =>
    unfold cConv at hc
    repeat' (first | (exact .inl (bad _ hc)) | (cases hc; done) | split at hc)
    all_goals (cases hb : Nat.beq s d <;> rw [hb] at hc <;> first | (exact .inl (bad _ hc)) | (cases hc; done))
  case makeInterface t x => repeat' (first | (exact .inl (bad _ hc)) | (cases hc; done) | split at hc)
  case makeFunc fn first caps =>
    cases fn <;> simp only at hc <;> repeat' (first | (exact .inl (bad _ hc)) | (cases hc; done) | split at hc)
  case makeMap t r => cases r <;> first | (exact .inl (bad _ hc)) | (cases hc; done)
  case makeSlice t l c => repeat' (first | (exact .inl (bad _ hc)) | (cases hc; done) | split at hc)
  case slice t x lo hi mx =>
    split at hc
    · cases mx with
      | none => simp only at hc; split at hc <;> first | (exact .inl (bad _ hc)) | (cases hc; done)
      | some m => exact .inl (bad _ hc)
    · cases mx <;> first | (exact .inl (bad _ hc)) | (cases hc; done)
    · split at hc
      · cases hm : (mx.isSome && hi.isNone) <;> rw [hm] at hc <;> first | (exact .inl (bad _ hc)) | (cases hc; done)
      · exact .inl (bad _ hc)
    · exact .inl (bad _ hc)
  case fieldAddr t x k => repeat' (first | (exact .inl (bad _ hc)) | (cases hc; done) | split at hc)
  case field t x k => repeat' (first | (exact .inl (bad _ hc)) | (cases hc; done) | split at hc)
  case indexAddr t x i => repeat' (first | (exact .inl (bad _ hc)) | (cases hc; done) | split at hc)
  case index t x i => repeat' (first | (exact .inl (bad _ hc)) | (cases hc; done) | split at hc)
  case lookup t x i ok =>
    split at hc
    · rename_i k el hu
      split at hc
      · cases hq : keyOk (eqT P k) <;> rw [hq] at hc <;> first | (exact .inl (bad _ hc)) | (cases hc; done)
      · exact .inl (bad _ hc)
    · exact .inl (bad _ hc)
  case mapUpdate t m k v =>
    split at hc
    · rename_i kt el hu
      cases hq : keyOk (eqT P kt) <;> rw [hq] at hc <;> first | (exact .inl (bad _ hc)) | (cases hc; done)
    · exact .inl (bad _ hc)
  case mapEntry t m k =>
    split at hc
    · rename_i kt el hu
      split at hc
      · cases hq : keyOk (eqT P kt) <;> rw [hq] at hc <;> first | (exact .inl (bad _ hc)) | (cases hc; done)
      · exact .inl (bad _ hc)
    · exact .inl (bad _ hc)
  case typeAssert x xt t ok => repeat' (first | (exact .inl (bad _ hc)) | (cases hc; done) | split at hc)
  case panic x => cases hc; exact .inr (.inr (.inr (.inr ⟨x, .inl rfl, rfl⟩)))
  case call c =>
    split at hc
    · rename_i b hb
      cases b <;> simp only [cBuiltin] at hc
      case recover => cases hc; exact .inr (.inr (.inr (.inl ⟨c, rfl, hb, rfl⟩)))
      case panic =>
        split at hc
        · rename_i x hx
          obtain ⟨y, hy, rfl⟩ := list_one hx
          cases hc
          exact .inr (.inr (.inr (.inr ⟨y, .inr ⟨c, rfl, hb, hy⟩, rfl⟩)))
        · exact .inl (bad _ hc)
      all_goals repeat' (first | (exact .inl (bad _ hc)) | (cases hc; done) | split at hc)
    · rename_i x hx
      refine .inr (.inl ⟨c, x, rfl, hx, ?_⟩)
      cases x <;> simp only at hc <;> cases hc
      · exact .inr rfl
      · exact .inr rfl
      · exact .inr rfl
      · exact .inl ⟨_, rfl, rfl⟩
    · exact .inl (bad _ hc)
  case defer c =>
    split at hc
    · rename_i x hx
      cases hc
      exact .inr (.inr (.inl ⟨c, x, rfl, hx, rfl⟩))
    · exact .inl (bad _ hc)
end Go.Ev

namespace Go.Ev
variable {C : Cx} {K : CK} {ls : List LE} {m : Nat} {cs0 : List Frame} {f0 : Nat} {α : AM} {Λ : Pa → Prop} {h : Hp} {w : World}

theorem loadVs {P : Program} (s : Sim C α Λ h ls w) {n : Option Nat} {t : TypeId} (hn : shapeT P t = some n) {x v : V} {c : Value} (hx : VR α x c) (hv : loadV h n x = some v) :
    ∃ c', (do loadVar t (← asAddr c) : Sem Value).run P w = .ok c' w ∧ VR α v c' := by
  obtain ⟨a, d, rfl, h1, h2⟩ := loadV_sound (P := P) s hn hx hv
  exact ⟨d, by simp [asAddr, h1], h2⟩

theorem EnvX.slot {e : T V} {tmps : Array Value} {X : Nat → Prop} (he : EnvX α e tmps X) {t : Nat} (ht : ¬ X t) : VR α (e.val (pa t)) (evC tmps (.tmp t)) := by
  have h1 : EnvR α (Ev.keep e [t]) tmps := he.keep (fun u hu => by simp at hu; subst hu; exact ht)
  have h2 := odR_tmps h1 (.tmp t)
  have h3 : (Ev.keep e [t]).get (pa t) = e.get (pa t) := by rw [keep_get, if_pos (by rw [pa_toNat]; simp)]
  simpa only [cO, Od.ev, T.val, h3] using h2

theorem res_R {P : Program} (s : Sim C α Λ h ls w) {e : T V} {tmps : Array Value} : ∀ (rvs : List ResultVar) (res : List (Pa × Option (Option Nat))) (l : List V), EnvX α e tmps (fun t => t ∉ slotsOf rvs) → cRes P rvs = some res → resOf e h res = some l →
    ∃ cs : List Value, VRs α l cs ∧ (rvs.mapM (fun (r : ResultVar) => match r with
      | .tmp t => (pure (tmps.getD t undef) : Sem Value)
      | .cell a t => do loadVar t (← asAddr (tmps.getD a undef)))).run P w = .ok cs w
  | [], res, l, _, h1, h2 => by
    simp [cRes] at h1; subst h1
    simp [resOf] at h2; subst h2
    exact ⟨[], .nil, by simp⟩
  | .tmp t :: r, res, l, he, h1, h2 => by
    simp only [cRes] at h1
    cases hr : cRes P r with
    | none => simp [hr] at h1
    | some res' =>
      simp only [hr, Option.some.injEq] at h1; subst h1
      simp only [resOf] at h2
      cases hl : resOf e h res' with
      | none => simp [hl] at h2
      | some l' =>
        simp only [hl, Option.some.injEq] at h2; subst h2
        obtain ⟨cs, k1, k2⟩ := res_R s r res' l' (he.weak fun u hu => by simp only [slotsOf, List.mem_cons, not_or] at hu; exact hu.2) hr hl
        have := he.slot (t := t) (by simp [slotsOf])
        refine ⟨evC tmps (.tmp t) :: cs, .cons _ _ _ _ this k1, ?_⟩
        simp only [List.mapM_cons, Sem.run_bind, Sem.run_pure, Result.andThen_ok, k2]
        rfl
  | .cell a t :: r, res, l, he, h1, h2 => by
    simp only [cRes] at h1
    cases hsh : shapeT P t with
    | none => simp [hsh] at h1
    | some n =>
      simp only [hsh] at h1
      cases hr : cRes P r with
      | none => simp [hr] at h1
      | some res' =>
        simp only [hr, Option.some.injEq] at h1; subst h1
        simp only [resOf] at h2
        cases hv : loadV h n (e.val (pa a)) with
        | none => simp [hv] at h2
        | some v =>
          simp only [hv] at h2
          cases hl : resOf e h res' with
          | none => simp [hl] at h2
          | some l' =>
            simp only [hl, Option.some.injEq] at h2; subst h2
            obtain ⟨cs, k1, k2⟩ := res_R s r res' l' (he.weak fun u hu => by simp only [slotsOf, List.mem_cons, not_or] at hu; exact hu.2) hr hl
            have := he.slot (t := a) (by simp [slotsOf])
            obtain ⟨c', q1, q2⟩ := loadVs (P := P) s hsh this hv
            refine ⟨c' :: cs, .cons _ _ _ _ q2 k1, ?_⟩
            simp only [evC] at q1
            simp only [List.mapM_cons, Sem.run_bind, q1, Result.andThen_ok, k2, Sem.run_pure]

theorem oneOf_R {l : List V} {cs : List Value} (h : VRs α l cs) : VR α (oneOf l) (if h : cs.toArray.size = 1 then cs.toArray[0] else .tuple cs.toArray) := by
  cases h with
  | nil => exact .tup _ _ .nil
  | cons v c l cs h hs =>
    cases hs with
    | nil => simpa [oneOf] using h
    | cons v' c' l' cs' h' hs' => simpa [oneOf] using VR.tup _ _ (.cons _ _ _ _ h (.cons _ _ _ _ h' hs'))

theorem results_R (s : Sim C α Λ h ls w) {e : T V} {tmps : Array Value} {fn : Func} (he : EnvX α e tmps (fun t => t ∉ avOf fn)) {res : List (Pa × Option (Option Nat))} {l : List V} (h1 : cRes C.P fn.results.toList = some res) (h2 : resOf e h res = some l) :
    ∃ c, (results fn tmps).run C.P w = .ok c w ∧ VR α (oneOf l) c := by
  obtain ⟨cs, k1, k2⟩ := res_R (P := C.P) s _ _ _ he h1 h2
  refine ⟨_, ?_, oneOf_R k1⟩
  unfold results
  simp only [Sem.run_bind]
  have : (fn.results.mapM (fun (r : ResultVar) => match r with
      | .tmp t => (pure (tmps.getD t undef) : Sem Value)
      | .cell a t => do loadVar t (← asAddr (tmps.getD a undef)))).run C.P w = .ok cs.toArray w := by
    rw [Array.mapM_eq_mapM_toList]
    simp only [map_eq_pure_bind, Sem.run_bind, k2, Result.andThen_ok, Sem.run_pure]
  exact Eq.trans (congrArg (fun r : Result (Array Value) => r.andThen _) this) rfl
end Go.Ev

namespace Go.Ev
variable {C : Cx} {K : CK} {ls : List LE} {m : Nat} {cs0 : List Frame} {f0 : Nat} {α : AM} {Λ : Pa → Prop} {h : Hp} {w : World}

theorem fin_reg {fk : FK} {e : T V} {tmps : Array Value} {todo : List Item} {ctodo : List Go.Item} {defs : List Def} {ds : List Deferred} {ops : Array Oper} {o : RO Blk} {rs : List (RS Blk)} {i : Nat} {L : List Nat} {oi : Oper}
    (hk : KR α fk K) (hd : DefsR α defs ds) {m' : Nat} {h0 : Hp} (hw : Wait C.P fk.nt ops (May C.P fk.fn) m' α e h0 tmps o rs i L oi) (ht : TodoR C.P α fk.nt (avAt C.P fk.fn) todo ctodo) (hn : h0.next.toNat ≤ h.next.toNat) {v : V} {c : Value} (hv : VR α v c) :
    FrR C.P α h m' ⟨fk, e.put v o.dst, .reg rs :: todo, defs, .run⟩ (K.fr (putC tmps oi.dst c) (.inRegion ops L :: ctodo) ds .run) := by
  obtain ⟨chks, rs1, p, rfl, h2, h3, h4, h5, h6, h7⟩ := hw.rest
  obtain ⟨g, hro⟩ := hw.ro
  have hdst : o.dst = oi.dst.map pa := by rw [hro]
  rw [hdst]
  exact .reg hk hd h2 (fun j hj => (h3 j hj).put (fun oj t q1 q2 => h6 j oj t hj q1 q2) (fun oj hoj => h7 j oj hj hoj) (fun _ _ h => h) hn v) (h4.put h6 v) (h5.put hv (fun d hd => Nat.lt_of_lt_of_le (hw.lt d hd) hw.size)) (by rw [putC_size]; exact hw.size) ht

/-- the value that a call hands back, into the frame that waits for it -/
theorem fin_R {m' : Nat} {h0 : Hp} {c : Fr} {cc : Frame} (hc : CalR C.P α h0 m' false c cc) (hn : h0.next.toNat ≤ h.next.toNat) {v : V} {cv : Value} (hv : VR α v cv) (cs : List Fr) (ls : List LE) :
    ∃ fr', finish c v cs h ls = .go fr' cs h ls ∧ FrR C.P α h m' fr' (cc.finish cv) ∧ fr'.k = c.k := by
  cases hc with
  | wait hk hd hw ht => exact ⟨_, rfl, by rw [fin_fr hw.at_]; exact fin_reg hk hd hw ht hn hv, rfl⟩
  | @rf k K e tmps todo ctodo ds Ds l L hk hd he hs ht hl =>
    refine ⟨_, rfl, ?_, rfl⟩
    have : (K.fr tmps (.inRangeFunc L.blk :: ctodo) Ds .run).finish cv = K.fr tmps (.endRangeFunc L.blk :: ctodo) Ds .run := by simp [Frame.finish, CK.fr]
    rw [this]
    exact .run hk hd he hs (.cons (.endRF l L hl) ht)

def backC (c : Frame) : Frame :=
  match c.mode with
  | .panicking ({ recovered := true, .. } :: older) =>
    match older.dropWhile (!·.goexit) with
    | [] => { c with mode := .returning }
    | rest => { c with mode := .panicking rest }
  | _ => c

/-- a frame that has come to its end -/
theorem return_R {fk : FK} (hk : KR α fk K) {v : V} {c : Value} (hv : VR α v c) (s : Sim C α Λ h ls w) (hm : m ≤ h.next.toNat) {cs : List Fr} {ccs : List Frame} (hst : StkR C.P α cs0 f0 m fk.deferred fk.fn cs ccs) {M : Machine}
    (hn : K.kind = .normal → ∀ cc r, ccs = cc :: r → Steps C.P M (lone (cc.finish c) r w)) (hb : K.kind = .deferred → ∀ cc r, ccs = cc :: r → Steps C.P M (lone (backC cc) r w))
    (hz : fk.round = none → K.kind = .normal → ∃ cfr, Steps C.P M (lone cfr ccs w) ∧ cfr.fn = K.fn ∧ cfr.leaving C.P w (.returned c)) :
    NRel C cs0 f0 M (doReturn fk cs h ls v) := by
  obtain ⟨q1, q2, q3⟩ := hk
  generalize hd : fk.deferred = d at *
  generalize hfn : fk.fn = f at *
  cases hst with
  | nil =>
    simp only [doReturn, hd, cond_false]
    cases hr : fk.round with
    | some l => trivial
    | none =>
      obtain ⟨cfr, z1, z2, z3⟩ := hz hr (by rw [q2]; rfl)
      exact ⟨cfr, w, c, α, Λ, ls, z1, by rw [z2, ← q1], z3, s, hv⟩
  | @cons _ m' _ _ cfr cc cs ccs h0 hc h1 h2 hs =>
    cases d with
    | false =>
      simp only [doReturn, hd, cond_false]
      obtain ⟨fr', e1, e2, e3⟩ := fin_R (h := h) hc (by omega) hv cs ls
      rw [e1]
      exact ⟨_, hn (by rw [q2]; rfl) cc ccs rfl, ⟨α, Λ, w, m', _, _, rfl, s, by omega, e2, by rw [e3]; exact hs⟩⟩
    | true =>
      simp only [doReturn, hd, cond_true]
      cases hc with
      | @out k' K' e' tmps' todo' ctodo' ds' Ds' md cm hk' hd' he' hm' =>
        have hst := hb (by rw [q2]; rfl) _ _ rfl
        cases hm' with
        | ret =>
          have e1 : backC (K'.fr tmps' ctodo' Ds' .returning) = K'.fr tmps' ctodo' Ds' .returning := rfl
          rw [e1] at hst
          exact ⟨_, hst, ⟨α, Λ, w, m', _, _, rfl, s, by omega, .out hk' hd' he' .ret, hs⟩⟩
        | @pan v' c' r hvc =>
          cases r with
          | true =>
            have e1 : backC (K'.fr tmps' ctodo' Ds' (.panicking [{ v := c', recovered := true, goexit := false }])) = K'.fr tmps' ctodo' Ds' .returning := rfl
            rw [e1] at hst
            exact ⟨_, hst, ⟨α, Λ, w, m', _, _, rfl, s, by omega, .out hk' hd' he' .ret, hs⟩⟩
          | false =>
            have e1 : backC (K'.fr tmps' ctodo' Ds' (.panicking [{ v := c', recovered := false, goexit := false }])) = K'.fr tmps' ctodo' Ds' (.panicking [{ v := c', recovered := false, goexit := false }]) := rfl
            rw [e1] at hst
            exact ⟨_, hst, ⟨α, Λ, w, m', _, _, rfl, s, by omega, .out hk' hd' he' (.pan false hvc), hs⟩⟩

theorem names_false {P : Program} (hN : NamesOk P) {f : Nat} {i : IFn} (hc : cFn P f = some i) : ∃ fn c, P.funcs[f]? = some fn ∧ fn.body = some c ∧ (fn.name == "runtime.NumGoroutine") = false := by
  obtain ⟨fn, c, h1, h2, _⟩ := cFn_some hc
  exact ⟨fn, c, h1, h2, hN f fn c h1 h2⟩

/-- what a function is known to do, by a contract -/
def IntrOk (P : Program) (f : Nat) (g : List V → Hp → Option (V × Hp)) : Prop :=
  ∀ (C : Cx) (α : AM) (Λ : Pa → Prop) (h : Hp) (ls : List LE) (w : World) (args : List V) (cargs : List Value) (v : V) (h' : Hp), C.P = P → Sim C α Λ h ls w → VRs α args cargs → g args h = some (v, h') →
    Calls P f cargs.toArray w fun en w' => ∃ c α' Λ', en = .returned c ∧ α.le α' ∧ Sim C α' Λ' h' ls w' ∧ VR α' v c ∧ (∀ a, α a = none → α' a ≠ none → h.next.toNat ≤ a.toNat) ∧ h.next.toNat ≤ h'.next.toNat

/-- the functions are the program's: by their texts, or by contracts -/
structure FOk (P : Program) (F : Nat → Option FnI) : Prop where
  code : ∀ f i, F f = some (.code i) → cFn P f = some i
  intr : ∀ f g, F f = some (.intr g) → (∃ i, cFn P f = some i) ∧ IntrOk P f g
theorem FOk.split {P : Program} {F : Nat → Option FnI} (h : FOk P F) (f : Nat) : F f = none ∨ (∃ g, F f = some (.intr g) ∧ (∃ i, cFn P f = some i) ∧ IntrOk P f g) ∨ ∃ i, F f = some (.code i) ∧ cFn P f = some i := by
  cases hf : F f with
  | none => exact .inl rfl
  | some x => cases x with
    | code i => exact .inr (.inr ⟨i, rfl, h.code f i hf⟩)
    | intr g => exact .inr (.inl ⟨g, rfl, h.intr f g hf⟩)
theorem fOk_code (P : Program) : FOk P fun i => (cFn P i).map .code where
  code := fun f i h => by
    cases hc : cFn P f with
    | none => simp [hc] at h
    | some j => simp [hc] at h; rw [h]
  intr := fun f g h => by
    cases hc : cFn P f with
    | none => simp [hc] at h
    | some j => simp [hc] at h

variable (F : Nat → Option FnI)

theorem run_take {P : Program} {b : Nat} (hb : w.heap[b]? = some (.deferred (some []))) : ∃ w', (Instr.takeDeferred b).run P w = .ok [] w' ∧ Turned w w' b ∧ w'.heap[b]? = some (.deferred none) := by
  have hlt := (Array.getElem?_eq_some_iff.1 hb).1
  refine ⟨{ w with heap := w.heap.setIfInBounds b (.deferred none) }, ?_, ⟨by simp, fun i hi => Array.getElem?_setIfInBounds_ne (Ne.symm hi), rfl, rfl⟩, Array.getElem?_setIfInBounds_self_of_lt hlt⟩
  simp [Instr.takeDeferred, getObj, setObj, Sem.run, hb]

theorem unwind_R (hF : FOk C.P F) (hN : NamesOk C.P) {fk : FK} {e : T V} {tmps : Array Value} {todo : List Item} {ctodo : List Go.Item} {defs : List Def} {ds : List Deferred} {md : Mode} {cm : FrameMode} (hk : KR α fk K) (hd : DefsR α defs ds)
    (he : EnvX α e tmps (May C.P fk.fn)) (hmd : ModeR α md cm) (s : Sim C α Λ h ls w) (hm : m ≤ h.next.toNat) {cs : List Fr} {ccs : List Frame} (hst : StkR C.P α cs0 f0 m fk.deferred fk.fn cs ccs) :
    NRel C cs0 f0 (lone (K.fr tmps ctodo ds cm) ccs w) (unwind F ⟨fk, e, todo, defs, md⟩ cs h ls) := by
  cases hd with
  | @mark a L A' ds' Ds' ha hds =>
    simp only [unwind]
    cases hg : h.get a with
    | none => trivial
    | some b =>
      cases b <;> (try trivial)
      rename_i l
      cases l with
      | false => trivial
      | true =>
        have hΛ : Λ a := by
          rcases s.live a L _ ha hg with h1 | ⟨m, h1⟩
          · exact h1
          · cases h1
        obtain ⟨b', g1, g2⟩ := s.blk a L ha hΛ
        rw [hg] at g1; cases g1
        obtain ⟨w', t1, t2, t3⟩ := run_take (P := C.P) g2
        have s' := s.turn (b' := .dfr false) ha hΛ hg rfl rfl t2 t3
        refine ⟨_, .one (step_lone_go (fr' := K.fr tmps ctodo Ds' cm) (cs' := ccs) (w' := w') ?_), ⟨α, Λ, w', m, _, _, rfl, s', hm, .out hk hds he hmd, hst⟩⟩
        cases hmd <;> simp [stepG, Go.unwind, CK.fr, t1]
  | @call f args A' ds' Ds' caps ha hds =>
    simp only [unwind]
    rcases hF.split f with hFf | ⟨g, hFf, _⟩ | ⟨i, hFf, hc⟩
    · rw [hFf]; trivial
    · rw [hFf]; trivial
    · rw [hFf]
      simp only
      obtain ⟨fn, c, h1, h2, h3⟩ := names_false hN hc
      have hen := enter_R (α := α) (h := h) (m := h.next.toNat) hc ha true
      have hrun : (invoke (.fn (.func f) ⟨caps⟩) A').run C.P w = .ok (.enter f (A'.toList ++ caps).toArray) w := by
        have e1 : (A' ++ (⟨caps⟩ : Array Value)) = (A'.toList ++ caps).toArray := by
          apply Array.toList_inj.1; simp
        simp only [invoke, e1]
        exact run_callFunc h1 h2 h3 _ w
      refine ⟨_, .one (step_lone_go (fr' := Frame.enter C.P f (A'.toList ++ caps).toArray .deferred) (cs' := K.fr tmps ctodo Ds' cm :: ccs) (w' := w) ?_), ⟨α, Λ, w, h.next.toNat, _, _, rfl, s, Nat.le_refl _, hen.1, ?_⟩⟩
      · cases hmd <;> simp [stepG, Go.unwind, CK.fr, callDeferred, hrun]
      · rw [hen.2.1, hen.2.2]
        exact .cons h (.out hk hds he hmd) hm (Nat.le_refl _) hst
  | nil =>
    cases hmd with
    | ret =>
      simp only [unwind]
      rcases hF.split fk.fn with hFf | ⟨g, hFf, _⟩ | ⟨i, hFf, hc⟩
      · rw [hFf]; trivial
      · rw [hFf]; trivial
      · rw [hFf]
        simp only
        cases hr : resOf e h i.res with
        | none => trivial
        | some l =>
          obtain ⟨fn, c, h1, h2, h3, h4, h5⟩ := cFn_some hc
          have hav : avAt C.P fk.fn = avOf fn := by simp [avAt, h1]
          have he' : EnvX α e tmps (fun t => t ∉ avOf fn) := by rw [← hav]; exact he
          obtain ⟨cv, k1, k2⟩ := results_R s he' h3 hr
          rw [hk.fn] at h1
          refine return_R hk k2 s hm hst (fun hn cc r e1 => ?_) (fun hb cc r e1 => ?_) (fun _ hn => ⟨_, .refl _ _, rfl, rfl, rfl, hn, fn, h1, k1⟩)
          · subst e1
            exact .one (step_leave_returned ⟨rfl, rfl, hn, fn, h1, k1⟩)
          · subst e1
            refine .one (step_lone_go ?_)
            simp [stepG, Go.unwind, CK.fr, h1, k1, Go.doReturn, hb]
            rfl
    | @pan v c r hv =>
      simp only [unwind]
      cases r with
      | true => trivial
      | false =>
        simp only [cond_false]
        have hfx : F fk.fn = none ∨ ∃ x i, F fk.fn = some x ∧ cFn C.P fk.fn = some i := by
          rcases hF.split fk.fn with hFf | ⟨g, hFf, ⟨i, hi⟩, _⟩ | ⟨i, hFf, hc⟩
          · exact .inl hFf
          · exact .inr ⟨_, i, hFf, hi⟩
          · exact .inr ⟨_, i, hFf, hc⟩
        rcases hfx with hFf | ⟨x, i, hFf, hc⟩
        · rw [hFf]; trivial
        · rw [hFf]
          simp only
          obtain ⟨fn, cc, h1, _⟩ := cFn_some hc
          rw [hk.fn] at h1
          generalize hdd : fk.deferred = d at hst
          cases hst with
          | nil => trivial
          | @cons _ m' _ _ cfr cc cs ccs h0 hc h1' h2 hs =>
            have hstep : ∀ fr', Frame.raise cc [{ v := c, recovered := false, goexit := false }] = fr' → Steps C.P (lone (K.fr tmps ctodo [] (.panicking [{ v := c, recovered := false, goexit := false }])) (cc :: ccs) w) (lone fr' ccs w) := fun fr' e1 => by
              subst e1
              exact .one (step_lone_go (by simp [stepG, Go.unwind, CK.fr, Frame.catches, h1]))
            cases hc with
            | wait hk' hd' hw' ht' =>
              obtain ⟨chks, rs1, p, q1, q2, q3, q4, q5, q6⟩ := hw'.rest
              exact ⟨_, hstep _ rfl, ⟨α, Λ, w, m', _, _, rfl, s, by omega, .out hk' hd' (pend_may q3 q5) (.pan false hv), hs⟩⟩
            | rf hk' hd' he' hs' ht' hl' => exact ⟨_, hstep _ rfl, ⟨α, Λ, w, m', _, _, rfl, s, by omega, .out hk' hd' (he'.X _) (.pan false hv), hs⟩⟩
            | out hk' hd' he' hm' => cases hm' <;> trivial
end Go.Ev

namespace Go.Ev
variable {C : Cx} {K : CK} {ls : List LE} {m : Nat} {cs0 : List Frame} {f0 : Nat} {α : AM} {Λ : Pa → Prop} {h : Hp} {w : World}
variable (F : Nat → Option FnI)

/-- whom a call calls -/
theorem resolve_R {P : Program} {ρ : Operand → Value} {e e0 : T V} (ho : OdR α e0 ρ) {c : Call} {x : Operand} (hx : c.callee = .value x) (hs : Same e0 e c.operands.toList) (ty : TypeId) {g : Nat} {caps : List V} (hv : (cO x).ev e = .fn g caps) :
    ∃ (cc : List Value) (A : List Value), (resolve ρ c ty).run P w = .ok { target := .fn (.func g) ⟨cc⟩, args := ⟨A⟩ } w ∧ VRs α (evL e (c.args.toList.map cO) ++ caps) (A ++ cc) := by
  have h1 : (cO x).ev e0 = (cO x).ev e := hs x (by simp [Call.operands, hx])
  have h2 := ho x
  rw [h1, hv] at h2
  have h3 : evL e0 (c.args.toList.map cO) = evL e (c.args.toList.map cO) := evL_congr fun y hy => hs y (by simp only [Call.operands, hx]; simp at hy ⊢; exact .inr hy)
  have h4 := ho.list c.args.toList
  rw [h3] at h4
  generalize hr : ρ x = y at h2
  cases h2 with
  | fn _ _ cc hcc =>
    refine ⟨cc, c.args.toList.map ρ, ?_, h4.append hcc⟩
    simp only [resolve, hx, hr, Deferred.ofValue, Sem.run_pure]
    congr 2
    apply Array.toList_inj.1; simp

theorem call_R (hF : FOk C.P F) (hN : NamesOk C.P) {fk : FK} {e : T V} {tmps : Array Value} {todo : List Item} {ctodo : List Go.Item} {defs : List Def} {ds : List Deferred} {ops : Array Oper} {o : RO Blk} {rs : List (RS Blk)} {i : Nat} {L : List Nat} {oi : Oper}
    (hk : KR α fk K) (hd : DefsR α defs ds) (hw : Wait C.P fk.nt ops (May C.P fk.fn) m α e h tmps o rs i L oi) (ht : TodoR C.P α fk.nt (avAt C.P fk.fn) todo ctodo) (s : Sim C α Λ h ls w) (hm : m ≤ h.next.toNat) {cs : List Fr} {ccs : List Frame} (hst : StkR C.P α cs0 f0 m fk.deferred fk.fn cs ccs)
    (hwant : Region.wanted oi (yielded ops tmps) = true) {c : Call} {x : Operand} (hop : oi.op = .call c) (hx : c.callee = .value x) {e0 : T V} (ho : OdR α e0 (evC tmps)) (hs : Same e0 e oi.op.operands.toList) {g : Nat} {caps : List V} (hv : (cO x).ev e = .fn g caps) :
    NRel C cs0 f0 (lone (K.fr tmps (.inRegion ops (i :: L) :: ctodo) ds .run) ccs w) (doCall F ⟨fk, e, .reg (.op o :: rs) :: todo, defs, .run⟩ cs h ls g (evL e (c.args.toList.map cO) ++ caps)) := by
  rw [hop] at hs
  obtain ⟨cc, A, r1, r2⟩ := resolve_R (w := w) (P := C.P) ho hx hs oi.type hv
  unfold doCall
  rcases hF.split g with hFf | ⟨gi, hFf, ⟨fi, hc⟩, hgo⟩ | ⟨fi, hFf, hc⟩
  · rw [hFf]; trivial
  · rw [hFf]
    simp only
    obtain ⟨fn, code, h1, h2, h3⟩ := names_false hN hc
    have hrun : (execOp (evC tmps) oi).run C.P w = .ok (.enter g (A ++ cc).toArray) w := by
      have e1 : ((⟨A⟩ : Array Value) ++ (⟨cc⟩ : Array Value)) = (A ++ cc).toArray := by
        apply Array.toList_inj.1; simp
      simp only [execOp, hop, Sem.run_bind, r1, Result.andThen_ok, invoke, e1]
      exact run_callFunc h1 h2 h3 _ w
    cases hg : gi (evL e (c.args.toList.map cO) ++ caps) h with
    | none => trivial
    | some p =>
      obtain ⟨v, h'⟩ := p
      simp only
      obtain ⟨en, w', fr, ⟨cv, α', Λ', rfl, hle, s', hv', hkeep, hnx⟩, hcome, hfn, hlv⟩ := hgo C α Λ h ls w _ _ v h' rfl s r2 hg (K.fr tmps (.inRegion ops (i :: L) :: ctodo) ds .run :: ccs)
      have hα : ∀ a, a.toNat < h.next.toNat → α a = none → α' a = none := fun a ha hn => by
        cases hx' : α' a with
        | none => rfl
        | some L => have := hkeep a hn (by rw [hx']; simp); omega
      obtain ⟨fr', q1, q2, q3⟩ := fin_R (h := h') (.wait (hk.mono hle) (hd.mono hle) (hw.mono hle hα) (ht.mono hle)) hnx hv' cs ls
      rw [q1]
      refine ⟨_, .head (m₁ := lone (Frame.enter C.P g (A ++ cc).toArray .normal) (K.fr tmps (.inRegion ops (i :: L) :: ctodo) ds .run :: ccs) w) ?_ (Steps.trans hcome (.one (step_leave_returned hlv))), ⟨α', Λ', w', m, _, _, rfl, s', by omega, q2, by rw [q3]; exact hst.mono hle (fun a ha hn => hα a (by omega) hn)⟩⟩
      refine step_lone_go (fr' := Frame.enter C.P g (A ++ cc).toArray .normal) (cs' := K.fr tmps (.inRegion ops (i :: L) :: ctodo) ds .run :: ccs) (w' := w) ?_
      rw [stepG_fr hw.at_ hwant (.inr fun c' hc' => by rw [hop] at hc'; cases hc')]
      simp [stepG.apply, hrun, CK.fr]
  · rw [hFf]
    simp only
    obtain ⟨fn, code, h1, h2, h3⟩ := names_false hN hc
    have hen := enter_R (α := α) (h := h) (m := h.next.toNat) hc r2 false
    have hrun : (execOp (evC tmps) oi).run C.P w = .ok (.enter g (A ++ cc).toArray) w := by
      have e1 : ((⟨A⟩ : Array Value) ++ (⟨cc⟩ : Array Value)) = (A ++ cc).toArray := by
        apply Array.toList_inj.1; simp
      simp only [execOp, hop, Sem.run_bind, r1, Result.andThen_ok, invoke, e1]
      exact run_callFunc h1 h2 h3 _ w
    refine ⟨_, .one (step_lone_go (fr' := Frame.enter C.P g (A ++ cc).toArray .normal) (cs' := K.fr tmps (.inRegion ops (i :: L) :: ctodo) ds .run :: ccs) (w' := w) ?_), ⟨α, Λ, w, h.next.toNat, _, _, rfl, s, Nat.le_refl _, hen.1, ?_⟩⟩
    · rw [stepG_fr hw.at_ hwant (.inr fun c' hc' => by rw [hop] at hc'; cases hc')]
      simp [stepG.apply, hrun, CK.fr]
    · rw [hen.2.1, hen.2.2]
      exact .cons h (.wait hk hd hw ht) hm (Nat.le_refl _) hst

theorem defer_R {fk : FK} (hrd : fk.round = none) {e : T V} {tmps : Array Value} {todo : List Item} {ctodo : List Go.Item} {defs : List Def} {ds : List Deferred} {ops : Array Oper} {o : RO Blk} {rs : List (RS Blk)} {i : Nat} {L : List Nat} {oi : Oper}
    (hk : KR α fk K) (hd : DefsR α defs ds) (hw : Wait C.P fk.nt ops (May C.P fk.fn) m α e h tmps o rs i L oi) (ht : TodoR C.P α fk.nt (avAt C.P fk.fn) todo ctodo) (s : Sim C α Λ h ls w) (hm : m ≤ h.next.toNat) {cs : List Fr} {ccs : List Frame} (hst : StkR C.P α cs0 f0 m fk.deferred fk.fn cs ccs)
    (hwant : Region.wanted oi (yielded ops tmps) = true) {c : Call} {x : Operand} (hop : oi.op = .defer c) (hx : c.callee = .value x) {e0 : T V} (ho : OdR α e0 (evC tmps)) (hs : Same e0 e oi.op.operands.toList) {g : Nat} {caps : List V} (hv : (cO x).ev e = .fn g caps) :
    NRel C cs0 f0 (lone (K.fr tmps (.inRegion ops (i :: L) :: ctodo) ds .run) ccs w) (.go ⟨fk, e.put undefV o.dst, .reg rs :: todo, .call g (evL e (c.args.toList.map cO) ++ caps) :: defs, .run⟩ cs h ls) := by
  rw [hop] at hs
  obtain ⟨cc, A, r1, r2⟩ := resolve_R (w := w) (P := C.P) ho hx hs oi.type hv
  have hrun : (execOp (evC tmps) oi).run C.P w = .ok (.defer { target := .fn (.func g) ⟨cc⟩, args := ⟨A⟩ }) w := by
    simp only [execOp, hop, Sem.run_bind, r1, Result.andThen_ok, Sem.run_pure]
  refine ⟨_, .one (step_lone_go (fr' := K.fr (putC tmps oi.dst undef) (.inRegion ops L :: ctodo) ({ target := .fn (.func g) ⟨cc⟩, args := ⟨A⟩ } :: ds) .run) (cs' := ccs) (w' := w) ?_),
    ⟨α, Λ, w, m, _, _, rfl, s, hm, fin_reg hk (.call cc (by simpa using r2) hd) hw ht (Nat.le_refl _) (undef_R α), hst⟩⟩
  have hkr : K.round = none := by have := hk.round; rw [hrd] at this; exact this
  rw [stepG_fr hw.at_ hwant (.inl hkr), ← fin_fr hw.at_]
  simp only [stepG.apply, Sem.runT_eq, hrun, GStep.bare_after]
  simp [CK.fr]

theorem setParams_R : ∀ (ps : List Nat) (args : List V) (cargs : List Value) (env e1 : T V) (tmps : Array Value) (n : Nat), EnvR α env tmps → VRs α args cargs → setParams (ps.map pa) args env = some e1 → (∀ t ∈ ps, t < n) → n ≤ tmps.size →
    EnvR α e1 ((ps.zip cargs).foldl (fun (tmps : Array Value) (ta : Nat × Value) => tmps.setIfInBounds ta.1 ta.2) tmps) ∧ ps.length = cargs.length ∧ n ≤ ((ps.zip cargs).foldl (fun (tmps : Array Value) (ta : Nat × Value) => tmps.setIfInBounds ta.1 ta.2) tmps).size
  | [], args, cargs, env, e1, tmps, n, he, ha, hs, hp, hn => by
    cases args with
    | nil => cases ha; simp [setParams] at hs; subst hs; exact ⟨he, rfl, hn⟩
    | cons v args => simp [setParams] at hs
  | t :: ps, args, cargs, env, e1, tmps, n, he, ha, hs, hp, hn => by
    cases args with
    | nil => simp [setParams] at hs
    | cons v args =>
      cases ha with
      | cons _ c _ cs h hs' =>
        simp only [List.map_cons, setParams] at hs
        have ht : t < n := hp t (by simp)
        obtain ⟨h1, h2, h3⟩ := setParams_R ps args cs (env.set v (pa t)) e1 (tmps.setIfInBounds t c) n (he.set h (by omega)) hs' hs (fun u hu => hp u (by simp [hu])) (by simpa using hn)
        exact ⟨h1, by simp [h2], h3⟩

theorem yield_R {fk : FK} {e : T V} {tmps : Array Value} {todo : List Item} {ctodo : List Go.Item} {defs : List Def} {ds : List Deferred} {ops : Array Oper} {o : RO Blk} {rs : List (RS Blk)} {i : Nat} {L : List Nat} {oi : Oper}
    (hk : KR α fk K) (hd : DefsR α defs ds) (hw : Wait C.P fk.nt ops (May C.P fk.fn) m α e h tmps o rs i L oi) (ht : TodoR C.P α fk.nt (avAt C.P fk.fn) todo ctodo) (s : Sim C α Λ h ls w) (hm : m ≤ h.next.toNat) {cs : List Fr} {ccs : List Frame} (hst : StkR C.P α cs0 f0 m fk.deferred fk.fn cs ccs)
    (hwant : Region.wanted oi (yielded ops tmps) = true) {c : Call} {x : Operand} (hop : oi.op = .call c) (hx : c.callee = .value x) {e0 : T V} (ho : OdR α e0 (evC tmps)) (hs : Same e0 e oi.op.operands.toList) {l : Pa} (hv : (cO x).ev e = .yld l) :
    NRel C cs0 f0 (lone (K.fr tmps (.inRegion ops (i :: L) :: ctodo) ds .run) ccs w) (doYield ⟨fk, e, .reg (.op o :: rs) :: todo, defs, .run⟩ cs h ls l (evL e (c.args.toList.map cO))) := by
  rw [hop] at hs
  have h1 : (cO x).ev e0 = (cO x).ev e := hs x (by simp [Op.operands, Call.operands, hx])
  have h2 := ho x
  rw [h1, hv] at h2
  have h3 : evL e0 (c.args.toList.map cO) = evL e (c.args.toList.map cO) := evL_congr fun y hy => hs y (by simp only [Op.operands, Call.operands, hx]; simp at hy ⊢; exact .inr hy)
  have h4 := ho.list c.args.toList
  rw [h3] at h4
  unfold doYield
  cases hg : h.get l with
  | none => trivial
  | some b =>
    cases b <;> (try trivial)
    rename_i r
    simp only
    cases hsp : setParams r.params (evL e (c.args.toList.map cO)) r.env with
    | none => trivial
    | some e1 =>
      simp only
      cases hle : findLE l ls with
      | none => trivial
      | some y =>
        simp only
        generalize hrx : evC tmps x = cv at h2
        cases h2 with
        | yld _ Ll ha =>
          have hΛ : Λ l := by
            rcases s.live l Ll _ ha hg with h1 | ⟨m, h1⟩
            · exact h1
            · cases h1
          obtain ⟨b', g1, g2⟩ := s.blk l Ll ha hΛ
          rw [hg] at g1; cases g1
          obtain ⟨X, b1, b2, b3, b4, b5, b6, b7, b8, y', b9, b10, b11⟩ := g2
          rw [hle] at b9; cases b9
          rw [b7] at hsp
          obtain ⟨p1, p2, p3⟩ := setParams_R X.params.toList _ _ r.env e1 X.tmps r.nt b5 h4 hsp b8 b6
          have hrun : (execOp (evC tmps) oi).run C.P w = .ok (.round Ll.blk X.fn ((X.params.zip (c.args.map (evC tmps))).foldl (fun tmps (t, a) => tmps.setIfInBounds t a) X.tmps) X.assign X.body) w := by
            have hgo : (Instr.getLoop Ll.blk).run C.P w = .ok X w := by simp [Instr.getLoop, getObj, Sem.run, b1]
            have hsz : ¬ ((c.args.map (evC tmps)).size ≠ X.params.size) := by
              have e2 : X.params.size = (List.map (evC tmps) c.args.toList).length := p2
              simp at e2 ⊢; omega
            have hsz' : (#[] ++ c.args.map (evC tmps)) = c.args.map (evC tmps) := by simp
            simp only [execOp, hop, resolve, hx, hrx, Deferred.ofValue, Sem.run_bind, Sem.run_pure, Result.andThen_ok, invoke, hsz', Instr.yield, hgo, if_neg hsz]
          have hfold : (X.params.zip (c.args.map (evC tmps))).foldl (fun tmps (t, a) => tmps.setIfInBounds t a) X.tmps =
              (X.params.toList.zip (c.args.toList.map (evC tmps))).foldl (fun (tmps : Array Value) (ta : Nat × Value) => tmps.setIfInBounds ta.1 ta.2) X.tmps := by
            rw [← Array.foldl_toList, Array.toList_zip, Array.toList_map]
          rw [hfold] at hrun
          generalize (X.params.toList.zip (c.args.toList.map (evC tmps))).foldl (fun (tmps : Array Value) (ta : Nat × Value) => tmps.setIfInBounds ta.1 ta.2) X.tmps = T at hrun p1 p3
          refine ⟨_, .one (step_lone_go (fr' := (CK.mk X.fn .normal (some Ll.blk)).fr T [.code X.assign, .beginRound, .code X.body] [] .run) (cs' := K.fr tmps (.inRegion ops (i :: L) :: ctodo) ds .run :: ccs) (w' := w) ?_),
            ⟨α, Λ, w, h.next.toNat, _, _, rfl, s, Nat.le_refl _, .run (K := CK.mk X.fn .normal (some Ll.blk)) ⟨b4.symm, rfl, Ll, ha, rfl⟩ .nil p1 p3 ?_, .cons h (.wait hk hd hw ht) hm (Nat.le_refl _) hst⟩⟩
          · rw [stepG_fr hw.at_ hwant (.inr fun c' hc' => by rw [hop] at hc'; cases hc')]
            simp [stepG.apply, hrun, CK.fr, Frame.round]
          · rw [b10, b11]
            exact .cons (.code _) (.cons .begin (.cons (.code _) .nil))

theorem recover_R {fk : FK} {e : T V} {tmps : Array Value} {todo : List Item} {ctodo : List Go.Item} {defs : List Def} {ds : List Deferred} {ops : Array Oper} {o : RO Blk} {rs : List (RS Blk)} {i : Nat} {L : List Nat} {oi : Oper}
    (hk : KR α fk K) (hd : DefsR α defs ds) (hw : Wait C.P fk.nt ops (May C.P fk.fn) m α e h tmps o rs i L oi) (ht : TodoR C.P α fk.nt (avAt C.P fk.fn) todo ctodo) (s : Sim C α Λ h ls w) (hm : m ≤ h.next.toNat) {cs : List Fr} {ccs : List Frame} (hst : StkR C.P α cs0 f0 m fk.deferred fk.fn cs ccs)
    (hwant : Region.wanted oi (yielded ops tmps) = true) {c : Call} (hop : oi.op = .call c) (hx : c.callee = .builtin .recover) :
    NRel C cs0 f0 (lone (K.fr tmps (.inRegion ops (i :: L) :: ctodo) ds .run) ccs w) (doCtl F fk e o rs todo defs cs h ls .recover) := by
  simp only [doCtl]
  have hrun : (execOp (evC tmps) oi).run C.P w = .ok .recover w := by
    simp only [execOp, hop, resolve, hx, Sem.run_bind, Sem.run_pure, Result.andThen_ok, invoke, builtin]
  have hfin := fin_fr (K := K) (tmps := tmps) (ds := ds) (k := ctodo) (rest := L) hw.at_
  generalize hdd : fk.deferred = d at hst
  cases hst with
  | nil => trivial
  | @cons _ m' _ _ cfr cc cs ccs h0 hc h1 h2 hs =>
    simp only
    cases d with
    | false => trivial
    | true =>
      simp only [cond_true]
      cases hr : fk.round with
      | some l => trivial
      | none =>
        have hkr : K.round = none := by have := hk.round; rw [hr] at this; exact this
        have hkd : K.kind = .deferred := by rw [hk.kind, hdd]; rfl
        simp only
        have hstep : ∀ (v : Value) (cc' : Frame), (tryRecover (K.fr tmps (.inRegion ops (i :: L) :: ctodo) ds .run) (cc :: ccs) = some (v, cc' :: ccs) ∨ (tryRecover (K.fr tmps (.inRegion ops (i :: L) :: ctodo) ds .run) (cc :: ccs) = none ∧ v = .nilIface ∧ cc' = cc)) →
            Steps C.P (lone (K.fr tmps (.inRegion ops (i :: L) :: ctodo) ds .run) (cc :: ccs) w) (lone (K.fr (putC tmps oi.dst v) (.inRegion ops L :: ctodo) ds .run) (cc' :: ccs) w) := fun v cc' hrec => by
          refine .one (step_lone_go ?_)
          rw [stepG_fr hw.at_ hwant (.inr fun c' hc' => by rw [hop] at hc'; cases hc'), ← hfin]
          have hro : (K.fr tmps (.inRegion ops (i :: L) :: ctodo) ds .run).roundOf = none := hkr
          rcases hrec with hrec | ⟨hrec, rfl, rfl⟩
          · simp [stepG.apply, hrun, hro, hrec]
          · simp [stepG.apply, hrun, hro, hrec]
        cases hc with
        | @out k' K' e' tmps' todo' ctodo' ds' Ds' md cm hk' hd' he' hm' =>
          cases hm' with
          | ret =>
            exact ⟨_, hstep .nilIface _ (.inr ⟨by simp [tryRecover, CK.fr, hkd], rfl, rfl⟩), ⟨α, Λ, w, m, _, _, rfl, s, hm, fin_reg hk hd hw ht (Nat.le_refl _) .noIface, by
              show StkR C.P α cs0 f0 m fk.deferred fk.fn _ _
              rw [hdd]; exact .cons h0 (.out hk' hd' he' .ret) h1 h2 hs⟩⟩
          | @pan v' c' r hvc =>
            cases r with
            | true =>
              simp only [cond_true]
              exact ⟨_, hstep .nilIface _ (.inr ⟨by simp [tryRecover, CK.fr, hkd], rfl, rfl⟩), ⟨α, Λ, w, m, _, _, rfl, s, hm, fin_reg hk hd hw ht (Nat.le_refl _) .noIface, by
                show StkR C.P α cs0 f0 m fk.deferred fk.fn _ _
                rw [hdd]; exact .cons h0 (.out hk' hd' he' (.pan true hvc)) h1 h2 hs⟩⟩
            | false =>
              simp only [cond_false]
              exact ⟨_, hstep c' (K'.fr tmps' ctodo' Ds' (.panicking [{ v := c', recovered := true, goexit := false }])) (.inl (by simp [tryRecover, CK.fr, hkd])), ⟨α, Λ, w, m, _, _, rfl, s, hm, fin_reg hk hd hw ht (Nat.le_refl _) hvc, by
                show StkR C.P α cs0 f0 m fk.deferred fk.fn _ _
                rw [hdd]; exact .cons h0 (.out hk' hd' he' (.pan true hvc)) h1 h2 hs⟩⟩

theorem panic_R {fk : FK} {e : T V} {tmps : Array Value} {todo : List Item} {ctodo : List Go.Item} {defs : List Def} {ds : List Deferred} {ops : Array Oper} {o : RO Blk} {rs : List (RS Blk)} {i : Nat} {L : List Nat} {oi : Oper}
    (hk : KR α fk K) (hd : DefsR α defs ds) (hw : Wait C.P fk.nt ops (May C.P fk.fn) m α e h tmps o rs i L oi) (s : Sim C α Λ h ls w) (hm : m ≤ h.next.toNat) {cs : List Fr} {ccs : List Frame} (hst : StkR C.P α cs0 f0 m fk.deferred fk.fn cs ccs)
    (hwant : Region.wanted oi (yielded ops tmps) = true) {x : Operand} (hop : oi.op = .panic x ∨ ∃ c, oi.op = .call c ∧ c.callee = .builtin .panic ∧ c.args.toList = [x]) {e0 : T V} (ho : OdR α e0 (evC tmps)) (hs : Same e0 e oi.op.operands.toList) {t : Nat} {v : V} (hv : (cO x).ev e = .iface t v) :
    NRel C cs0 f0 (lone (K.fr tmps (.inRegion ops (i :: L) :: ctodo) ds .run) ccs w) (.go ⟨fk, e, .reg (.op o :: rs) :: todo, defs, .panicking (.iface t v) false⟩ cs h ls) := by
  have hmem : x ∈ oi.op.operands.toList := by
    rcases hop with h1 | ⟨c, h1, h2, h3⟩
    · simp [h1, Op.operands]
    · simp [h1, Op.operands, Call.operands, h2, args1 h3]
  have h1 : (cO x).ev e0 = (cO x).ev e := hs x hmem
  have h2 := ho x
  rw [h1, hv] at h2
  generalize hr : evC tmps x = y at h2
  have hrun : (execOp (evC tmps) oi).run C.P w = .halt (.panic y) w := by
    cases h2 with
    | iface _ _ c' hc' =>
      rcases hop with h1 | ⟨c, h1, h2, h3⟩
      · simp only [execOp, h1, hr]
        simp [Instr.panic, goPanic, Sem.run]
      · simp only [execOp, h1, resolve, h2, args1 h3, Sem.run_bind, Sem.run_pure, Result.andThen_ok, invoke, builtin, List.map_toArray, List.map_cons, List.map_nil, hr]
        simp [Instr.panic, goPanic]
  obtain ⟨chks, rs1, p, q1, q2, q3, q4, q5, q6⟩ := hw.rest
  refine ⟨_, .one (step_lone_go (fr' := K.fr tmps (.inRegion ops (i :: L) :: ctodo) ds (.panicking [{ v := y, recovered := false, goexit := false }])) (cs' := ccs) (w' := w) ?_), ⟨α, Λ, w, m, _, _, rfl, s, hm, .out hk hd (pend_may q3 q5) (.pan false h2), hst⟩⟩
  have hnd : ∀ c, oi.op ≠ .defer c := fun c' hc' => by
    rcases hop with h1 | ⟨c, h1, _⟩
    · rw [h1] at hc'; cases hc'
    · rw [h1] at hc'; cases hc'
  rw [stepG_fr hw.at_ hwant (.inr hnd)]
  simp [stepG.apply, hrun, CK.fr, Frame.raise]

theorem ctl_R (hF : FOk C.P F) (hN : NamesOk C.P) {fk : FK} {e : T V} {tmps : Array Value} {todo : List Item} {ctodo : List Go.Item} {defs : List Def} {ds : List Deferred} {ops : Array Oper} {o : RO Blk} {rs : List (RS Blk)} {i : Nat} {L : List Nat} {oi : Oper}
    (hk : KR α fk K) (hd : DefsR α defs ds) (hw : Wait C.P fk.nt ops (May C.P fk.fn) m α e h tmps o rs i L oi) (ht : TodoR C.P α fk.nt (avAt C.P fk.fn) todo ctodo) (s : Sim C α Λ h ls w) (hm : m ≤ h.next.toNat) {cs : List Fr} {ccs : List Frame} (hst : StkR C.P α cs0 f0 m fk.deferred fk.fn cs ccs)
    (hwant : Region.wanted oi (yielded ops tmps) = true) {f : T V → Ctl} (hct : cOp C.P oi.op = .ct f) {e0 : T V} (ho : OdR α e0 (evC tmps)) (hs : Same e0 e oi.op.operands.toList) :
    NRel C cs0 f0 (lone (K.fr tmps (.inRegion ops (i :: L) :: ctodo) ds .run) ccs w) (doCtl F fk e o rs todo defs cs h ls (f e)) := by
  rcases ct_cases hct with ⟨n, rfl⟩ | ⟨c, x, hop, hx, hf⟩ | ⟨c, x, hop, hx, rfl⟩ | ⟨c, hop, hx, rfl⟩ | ⟨x, hop, rfl⟩
  · trivial
  · rcases hf with ⟨g, rfl, rfl⟩ | rfl
    · have := call_R F hF hN hk hd hw ht s hm hst hwant hop hx ho hs (g := g) (caps := []) rfl
      simpa [doCtl] using this
    · simp only
      cases hv : (cO x).ev e <;> (try trivial)
      · exact call_R F hF hN hk hd hw ht s hm hst hwant hop hx ho hs hv
      · exact yield_R hk hd hw ht s hm hst hwant hop hx ho hs hv
  · simp only
    cases hv : (cO x).ev e <;> (try trivial)
    simp only [doCtl]
    cases hr : fk.round with
    | some l => trivial
    | none => exact defer_R hr hk hd hw ht s hm hst hwant hop hx ho hs hv
  · exact recover_R F hk hd hw ht s hm hst hwant hop hx
  · simp only
    cases hv : (cO x).ev e <;> (try trivial)
    exact panic_R hk hd hw s hm hst hwant hop ho hs hv
end Go.Ev

namespace Go.Ev
variable {C : Cx} {K : CK} {ls : List LE} {m : Nat} {cs0 : List Frame} {f0 : Nat} {α : AM} {Λ : Pa → Prop} {h : Hp} {w : World}
variable (F : Nat → Option FnI)

/-- the pending jump, and its fellow -/
def jumpC : Option Jump → Option Code
  | none => none
  | some .ret => some .ret
  | some (.exit id) => some (.exit id)
theorem pend_jump (j : Option Jump) : pendR j (jumpC j) := by
  cases j with
  | none => trivial
  | some j => cases j with
    | ret => trivial
    | exit id => rfl

theorem run_endRound {P : Program} {b : Nat} {X : Loop} (hb : w.heap[b]? = some (.loop X)) (j : Option Code) :
    ∃ w', (Instr.endRound b j).run P w = .ok (.bool j.isNone) w' ∧ Turned w w' b ∧ w'.heap[b]? = some (.loop { X with state := if j.isNone then .ready else .done, pending := j }) := by
  have hlt := (Array.getElem?_eq_some_iff.1 hb).1
  refine ⟨{ w with heap := w.heap.setIfInBounds b (.loop { X with state := if j.isNone then .ready else .done, pending := j }) }, ?_, ⟨by simp, fun i hi => Array.getElem?_setIfInBounds_ne (Ne.symm hi), rfl, rfl⟩, Array.getElem?_setIfInBounds_self_of_lt hlt⟩
  simp [Instr.endRound, Instr.getLoop, getObj, setObj, Sem.run, hb]
theorem run_beginRound {P : Program} {b : Nat} {X : Loop} (hb : w.heap[b]? = some (.loop X)) (hr : X.state = .ready) :
    ∃ w', (Instr.beginRound b).run P w = .ok () w' ∧ Turned w w' b ∧ w'.heap[b]? = some (.loop { X with state := .busy }) := by
  have hlt := (Array.getElem?_eq_some_iff.1 hb).1
  refine ⟨{ w with heap := w.heap.setIfInBounds b (.loop { X with state := .busy }) }, ?_, ⟨by simp, fun i hi => Array.getElem?_setIfInBounds_ne (Ne.symm hi), rfl, rfl⟩, Array.getElem?_setIfInBounds_self_of_lt hlt⟩
  simp [Instr.beginRound, Instr.getLoop, getObj, setObj, Sem.run, hb, hr]
theorem run_endLoop {P : Program} {b : Nat} {X : Loop} (hb : w.heap[b]? = some (.loop X)) (hr : X.state ≠ .busy) :
    ∃ w', (Instr.endLoop b).run P w = .ok X.pending w' ∧ Turned w w' b ∧ w'.heap[b]? = some (.loop { X with state := .exhausted }) := by
  have hlt := (Array.getElem?_eq_some_iff.1 hb).1
  refine ⟨{ w with heap := w.heap.setIfInBounds b (.loop { X with state := .exhausted }) }, ?_, ⟨by simp, fun i hi => Array.getElem?_setIfInBounds_ne (Ne.symm hi), rfl, rfl⟩, Array.getElem?_setIfInBounds_self_of_lt hlt⟩
  simp [Instr.endLoop, Instr.getLoop, getObj, setObj, Sem.run, hb, hr]

/-- the world's loop -/
theorem loop_at (s : Sim C α Λ h ls w) {l : Pa} {L : Loc} (ha : α l = some L) {r : ALoop} (hg : h.get l = some (.loop r)) : Λ l ∧ BR C.P α ls l (.loop r) L w := by
  have hΛ : Λ l := by
    rcases s.live l L _ ha hg with h1 | ⟨m, h1⟩
    · exact h1
    · cases h1
  obtain ⟨b', g1, g2⟩ := s.blk l L ha hΛ
  rw [hg] at g1; cases g1
  exact ⟨hΛ, g2⟩

theorem leave_R {fk : FK} {e : T V} {tmps : Array Value} {todo : List Item} {defs : List Def} {ds : List Deferred} {ctodo : List Go.Item} (hk : KR α fk K) (hd : DefsR α defs ds) (he : EnvR α e tmps)
    (s : Sim C α Λ h ls w) (hm : m ≤ h.next.toNat) {cs : List Fr} {ccs : List Frame} (hst : StkR C.P α cs0 f0 m fk.deferred fk.fn cs ccs) (j : Option Jump)
    (h1 : K.round = none → (∀ id, j ≠ some (.exit id)) → Go.step C.P (lone (K.fr tmps ctodo ds .run) ccs w) = .next (lone (K.fr tmps ctodo ds .returning) ccs w))
    (h2 : ∀ b v w', K.round = some b → (Instr.endRound b (jumpC j)).run C.P w = .ok v w' → ∀ fr' cs', (Go.doReturn C.P true (K.fr tmps ctodo ds .run) ccs none v w').bare = .go { frame := fr', callers := cs', status := .running, dying := none } w' →
      Go.step C.P (lone (K.fr tmps ctodo ds .run) ccs w) = .next (lone fr' cs' w')) :
    NRel C cs0 f0 (lone (K.fr tmps ctodo ds .run) ccs w) (leaveV ⟨fk, e, todo, defs, .run⟩ cs h ls j) := by
  simp only [leaveV]
  have hkr := hk.round
  cases hr : fk.round with
  | none =>
    rw [hr] at hkr
    have hgo : (∀ id, j ≠ some (.exit id)) → NRel C cs0 f0 (lone (K.fr tmps ctodo ds .run) ccs w) (.go ⟨fk, e, todo, defs, .returning⟩ cs h ls) := fun hj =>
      ⟨_, .one (h1 hkr hj), ⟨α, Λ, w, m, _, _, rfl, s, hm, .out hk hd (he.X _) .ret, hst⟩⟩
    cases j with
    | none => exact hgo (fun id h => by cases h)
    | some j => cases j with
      | ret => exact hgo (fun id h => by cases h)
      | exit id => trivial
  | some l =>
    rw [hr] at hkr
    obtain ⟨L, ha, hkr⟩ := hkr
    simp only
    cases hg : h.get l with
    | none => trivial
    | some b =>
      cases b <;> (try trivial)
      rename_i r
      simp only
      cases hd with
      | mark => trivial
      | call => trivial
      | nil =>
        simp only
        obtain ⟨hΛ, X, b1, b2, b3, b4, b5, b6, b7, b8, y, b9⟩ := loop_at s ha hg
        obtain ⟨w', t1, t2, t3⟩ := run_endRound (P := C.P) b1 (jumpC j)
        have hjn : (jumpC j).isNone = (match (generalizing := false) j with | none => true | some _ => false) := by
          cases j with
          | none => rfl
          | some j => cases j <;> rfl
        have s' : Sim C α Λ (h.put l (.loop { r with state := match (generalizing := false) j with | none => .ready | some _ => .done, pending := j })) ls w' := by
          refine s.turn ha hΛ hg rfl rfl t2 ⟨_, t3, ?_, pend_jump j, b4, b5, b6, b7, b8, y, b9⟩
          cases j with
          | none => rfl
          | some j => cases j <;> rfl
        refine return_R (c := .bool (jumpC j).isNone) hk (by rw [hjn]; exact .bool _) s' hm hst (fun hn cc rest e1 => ?_) (fun hb cc rest e1 => ?_) (fun hno => by rw [hr] at hno; cases hno)
        · subst e1
          refine .one (h2 _ _ _ hkr t1 _ _ ?_)
          simp [Go.doReturn, CK.fr, hn]
        · subst e1
          refine .one (h2 _ _ _ hkr t1 _ _ ?_)
          simp [Go.doReturn, CK.fr, hb]
          rfl

section leaves
variable {P : Program} {tmps : Array Value} {k : List Go.Item} {cs : List Frame} {ds : List Deferred}
theorem lv_ret {b : Nat} {v : Value} {w' : World} (hr : K.round = some b) (he : (Instr.endRound b (some .ret)).run P w = .ok v w') {fr' : Frame} {cs' : List Frame}
    (hd : (Go.doReturn P true (K.fr tmps (.code .ret :: k) ds .run) cs none v w').bare = .go { frame := fr', callers := cs', status := .running, dying := none } w') :
    Go.step P (lone (K.fr tmps (.code .ret :: k) ds .run) cs w) = .next (lone fr' cs' w') := by
  refine step_lone_go ?_
  simp only [CK.fr, hr] at hd ⊢
  simp [stepG, stepG.exec, he, hd]
theorem lv_end {b : Nat} {v : Value} {w' : World} (hr : K.round = some b) (he : (Instr.endRound b none).run P w = .ok v w') {fr' : Frame} {cs' : List Frame}
    (hd : (Go.doReturn P true (K.fr tmps [] ds .run) cs none v w').bare = .go { frame := fr', callers := cs', status := .running, dying := none } w') :
    Go.step P (lone (K.fr tmps [] ds .run) cs w) = .next (lone fr' cs' w') := by
  refine step_lone_go ?_
  simp only [CK.fr, hr] at hd ⊢
  simp [stepG, stepG.exec, he, hd]
theorem lv_exit {b id : Nat} {v : Value} {w' : World} (hx : Go.exitTo id k = none) (hr : K.round = some b) (he : (Instr.endRound b (some (.exit id))).run P w = .ok v w') {fr' : Frame} {cs' : List Frame}
    (hd : (Go.doReturn P true (K.fr tmps (.code (.exit id) :: k) ds .run) cs none v w').bare = .go { frame := fr', callers := cs', status := .running, dying := none } w') :
    Go.step P (lone (K.fr tmps (.code (.exit id) :: k) ds .run) cs w) = .next (lone fr' cs' w') := by
  refine step_lone_go ?_
  simp only [CK.fr, hr] at hd ⊢
  simp [stepG, stepG.exec, hx, he, hd]
end leaves

/-- the memory's two new blocks of a loop over a function, and the loop's code beside it -/
theorem Sim.loopLs (s : Sim C α Λ h ls w) (b1 b2 : Blk) (a b : IC Blk) : Sim C α Λ ((h.alloc b1).alloc b2) (⟨h.next.succ, a, b⟩ :: ls) w := by
  have s2 := (s.ghost b1).ghost b2
  have hls : lsLe ls (⟨h.next.succ, a, b⟩ :: ls) := fun x y hx => by
    have hlt := s.lsdom x y hx
    simp only [findLE]
    have : (h.next.succ).beq x = false := by
      rw [Bool.eq_false_iff]
      intro hb
      have := (Pa.beq_iff _ _).1 hb
      subst this
      rw [Pa.toNat_succ] at hlt; omega
    rw [this]
    exact hx
  have hnx : ((h.alloc b1).alloc b2).next.toNat = h.next.toNat + 2 := by
    show h.next.succ.succ.toNat = _
    rw [Pa.toNat_succ, Pa.toNat_succ]
  exact { dom := s2.dom, blk := fun x L hx hΛ => (by obtain ⟨c, h1, h2⟩ := s2.blk x L hx hΛ; exact ⟨c, h1, h2.mono (AM.le_refl α) hls rfl⟩), inj := s2.inj, live := s2.live, wr := s2.wr, low := s2.low, size := s2.size, still := s2.still, fresh := s2.fresh,
          lsdom := fun x y hx => (by
            simp only [findLE] at hx
            cases hb : (h.next.succ).beq x with
            | true =>
              have := (Pa.beq_iff _ _).1 hb; subst this
              rw [hnx, Pa.toNat_succ]; omega
            | false =>
              rw [hb] at hx
              have := s.lsdom x y hx
              omega) }

theorem rangeFunc_R (hF : FOk C.P F) (hN : NamesOk C.P) {fk : FK} {e : T V} {tmps : Array Value} {todo : List Item} {ctodo : List Go.Item} {defs : List Def} {ds : List Deferred} (hk : KR α fk K) (hd : DefsR α defs ds) (he : EnvR α e tmps) (hsz : fk.nt ≤ tmps.size)
    (ht : TodoR C.P α fk.nt (avAt C.P fk.fn) todo ctodo) (s : Sim C α Λ h ls w) (hm : m ≤ h.next.toNat) {cs : List Fr} {ccs : List Frame} (hst : StkR C.P α cs0 f0 m fk.deferred fk.fn cs ccs) (f : Operand) (ps : Array Tmp) (a b : Code) (hps : ps.toList.all (fun t => Nat.blt t fk.nt) = true) :
    NRel C cs0 f0 (lone (K.fr tmps (.code (.rangeFunc f ps a b) :: ctodo) ds .run) ccs w)
      (stepCode F fk e todo defs cs h ls (.rangeFunc (cO f) (ps.toList.map pa) (cCode C.P fk.nt (avAt C.P fk.fn) a) (cCode C.P fk.nt (avAt C.P fk.fn) b))) := by
  simp only [stepCode]
  have hkr := hk.round
  cases hr : fk.round with
  | some l => trivial
  | none =>
    rw [hr] at hkr
    have hkr : K.round = none := hkr
    simp only
    have hfo := odR_tmps he f
    cases hv : (cO f).ev e <;> (try trivial)
    rename_i g caps
    simp only
    rcases hF.split g with hFf | ⟨gi, hFf, _⟩ | ⟨fi, hFf, hc⟩
    · rw [hFf]; trivial
    · rw [hFf]; trivial
    · rw [hFf]
      simp only
      rw [hv] at hfo
      generalize hcf : evC tmps f = cf at hfo
      cases hfo with
      | fn _ _ cc hcc =>
        obtain ⟨fn, code, h1, h2, h3⟩ := names_false hN hc
        -- the world's two new blocks
        obtain ⟨w1, hw1⟩ : ∃ w1 : World, w1 = { w with heap := w.heap.push (.deferred (some [])) } := ⟨_, rfl⟩
        obtain ⟨X, hX⟩ : ∃ X : Loop, X = { state := .ready, pending := none, fn := K.fn, tmps, params := ps, assign := a, body := b, defers := w.heap.size } := ⟨_, rfl⟩
        obtain ⟨w2, hw2⟩ : ∃ w2 : World, w2 = { w1 with heap := w1.heap.push (.loop X) } := ⟨_, rfl⟩
        have z1 : w1.heap.size = w.heap.size + 1 := by rw [hw1]; simp
        have g1 : Grew w w1 := by rw [hw1]; exact Grew.push w _
        have g2 : Grew w1 w2 := by rw [hw2]; exact Grew.push w1 _
        have sL := s.loopLs (.dfr true) (.loop { state := .ready, pending := none, fn := fk.fn, nt := fk.nt, env := e, params := ps.toList.map pa }) (cCode C.P fk.nt (avAt C.P fk.fn) a) (cCode C.P fk.nt (avAt C.P fk.fn) b)
        generalize hls' : (⟨h.next.succ, cCode C.P fk.nt (avAt C.P fk.fn) a, cCode C.P fk.nt (avAt C.P fk.fn) b⟩ :: ls : List LE) = ls' at sL
        generalize hh' : ((h.alloc (.dfr true)).alloc (.loop { state := .ready, pending := none, fn := fk.fn, nt := fk.nt, env := e, params := ps.toList.map pa })) = h' at sL
        have hne : h.next ≠ h.next.succ := fun e1 => by have := congrArg Pa.toNat e1; rw [Pa.toNat_succ] at this; omega
        have get1 : h'.get h.next = some (.dfr true) := by
          rw [← hh']; simp [Heap.alloc, Heap.get, T.get_set, Ne.symm hne]
        have get2 : h'.get h.next.succ = some (.loop { state := .ready, pending := none, fn := fk.fn, nt := fk.nt, env := e, params := ps.toList.map pa }) := by
          rw [← hh']; simp [Heap.alloc, Heap.get, T.get_set]
        have hnx : h'.next.toNat = h.next.toNat + 2 := by
          rw [← hh']; show h.next.succ.succ.toNat = _; rw [Pa.toNat_succ, Pa.toNat_succ]
        have hno1 := s.next_none
        have hle1 := AM.le_put (α := α) (a := h.next) (L := ⟨w.heap.size, 0, 0, false⟩) hno1
        have s1 := sL.fill (top := 0) (md := false) hno1 get1 g1 (by show w1.heap[w.heap.size]? = _; rw [hw1]; simp)
        have hno2 : (α.put h.next ⟨w.heap.size, 0, 0, false⟩) h.next.succ = none := by
          simp only [AM.put, Ne.symm hne, if_false]
          cases hx : α h.next.succ with
          | none => rfl
          | some L => have := s.dom _ _ hx; rw [Pa.toNat_succ] at this; omega
        have hle2 := AM.le_put (α := α.put h.next ⟨w.heap.size, 0, 0, false⟩) (a := h.next.succ) (L := ⟨w1.heap.size, 0, 0, false⟩) hno2
        have hle := AM.le_trans hle1 hle2
        have s2 := s1.fill (top := 0) (md := false) (w' := w2) hno2 get2 g2 (by
          refine ⟨X, by show w2.heap[w1.heap.size]? = _; rw [hw2]; simp, by rw [hX], by rw [hX]; trivial, by rw [hX]; exact hk.fn.symm, by rw [hX]; exact he.mono hle, by rw [hX]; exact hsz, by rw [hX], ?_,
            ⟨h.next.succ, cCode C.P fk.nt (avAt C.P fk.fn) a, cCode C.P fk.nt (avAt C.P fk.fn) b⟩, ?_, by rw [hX], by rw [hX]⟩
          · rw [hX]
            intro t htm
            rw [List.all_eq_true] at hps
            exact Nat.lt_of_lt_of_le (Nat.lt_succ_self t) (Nat.le_of_ble_eq_true (hps t htm))
          · rw [← hls']
            simp only [findLE]
            rw [(Pa.beq_iff _ _).2 rfl]; rfl)
        generalize hα2 : (α.put h.next ⟨w.heap.size, 0, 0, false⟩).put h.next.succ ⟨w1.heap.size, 0, 0, false⟩ = α2 at s2 hle2 hle
        have a1 : α2 h.next = some ⟨w.heap.size, 0, 0, false⟩ := by rw [← hα2]; simp [AM.put, hne]
        have a2 : α2 h.next.succ = some ⟨w1.heap.size, 0, 0, false⟩ := by rw [← hα2]; simp [AM.put]
        have hkeep : ∀ x, x.toNat < m → α x = none → α2 x = none := fun x hx hn => by
          have n1 : x ≠ h.next := fun e1 => by subst e1; omega
          have n2 : x ≠ h.next.succ := fun e1 => by subst e1; rw [Pa.toNat_succ] at hx; omega
          rw [← hα2]; simp [AM.put, n1, n2, hn]
        have hen := enter_R (α := α2) (h := h') (m := h'.next.toNat) hc (args := .yld h.next.succ :: caps) (cargs := .func (.yield w1.heap.size) #[] #[] :: cc) (.cons _ _ _ _ (.yld h.next.succ _ a2) (VRs.mono hle hcc)) false
        refine ⟨_, .one (step_lone_go (fr' := Frame.enter C.P g (.func (.yield w1.heap.size) #[] #[] :: cc).toArray .normal)
          (cs' := K.fr tmps (.inRangeFunc w1.heap.size :: ctodo) ({ target := .collected w.heap.size, args := #[] } :: ds) .run :: ccs) (w' := w2) ?_), ⟨α2, _, w2, h'.next.toNat, _, _, rfl, s2, Nat.le_refl _, hen.1, ?_⟩⟩
        · have hent : (Instr.enterLoop K.fn tmps ps a b none).run C.P w = .ok (w1.heap.size, [{ target := .collected w.heap.size, args := #[] }]) w2 := by
            rw [hw2, hX, hw1]
            simp [Instr.enterLoop, newObj, Sem.run]
            rfl
          have hre : (do let d ← resolve (evC tmps) { callee := .value f, args := #[.const (.func (.yield w1.heap.size) #[] #[])], argTypes := #[] } 0; invoke d.target d.args : Sem Next).run C.P w2 = .ok (.enter g (.func (.yield w1.heap.size) #[] #[] :: cc).toArray) w2 := by
            have e1 : (#[] ++ #[Value.func (.yield w1.heap.size) #[] #[]] ++ (⟨cc⟩ : Array Value)) = (.func (.yield w1.heap.size) #[] #[] :: cc).toArray := by
              apply Array.toList_inj.1; simp
            have hcst : ∀ v, evC tmps (.const v) = v := fun _ => rfl
            simp only [resolve, List.map_toArray, List.map_cons, List.map_nil, hcf, hcst, Deferred.ofValue, Sem.run_bind, Sem.run_pure, Result.andThen_ok, invoke, e1]
            exact run_callFunc h1 h2 h3 _ w2
          have hev := CK.eval K tmps (.inRangeFunc w1.heap.size :: ctodo) ({ target := .collected w.heap.size, args := #[] } :: ds) .run
          simp only [CK.fr, hkr] at hev ⊢
          simp only [stepG, stepG.exec, Sem.runT_eq, hent, GStep.bare_after, List.singleton_append, hev]
          simp [stepG.apply, hre]
        · rw [hen.2.1, hen.2.2]
          exact .cons h' (.rf (hk.mono hle) (.mark a1 (hd.mono hle)) (he.mono hle) hsz (ht.mono hle) a2) (by omega) (Nat.le_refl _) (hst.mono hle hkeep)

theorem code_R (hpl : PlanOk C.P) (hF : FOk C.P F) (hN : NamesOk C.P) {fk : FK} {e : T V} {tmps : Array Value} {todo : List Item} {ctodo : List Go.Item} {defs : List Def} {ds : List Deferred} (hk : KR α fk K) (hd : DefsR α defs ds) (he : EnvR α e tmps) (hsz : fk.nt ≤ tmps.size)
    (ht : TodoR C.P α fk.nt (avAt C.P fk.fn) todo ctodo) (s : Sim C α Λ h ls w) (hm : m ≤ h.next.toNat) {cs : List Fr} {ccs : List Frame} (hst : StkR C.P α cs0 f0 m fk.deferred fk.fn cs ccs) (c : Code) :
    NRel C cs0 f0 (lone (K.fr tmps (.code c :: ctodo) ds .run) ccs w) (stepCode F fk e todo defs cs h ls (cCode C.P fk.nt (avAt C.P fk.fn) c)) := by
  have go : ∀ {M : Machine} {cfr : Frame} {w' : World} {fr : Fr}, fr.k = fk → Steps C.P M (lone cfr ccs w') → Sim C α Λ h ls w' → FrR C.P α h m fr cfr → NRel C cs0 f0 M (.go fr cs h ls) :=
    fun hfk hM s' hfr => ⟨_, hM, ⟨α, Λ, _, m, _, _, rfl, s', hm, hfr, by rw [hfk]; exact hst⟩⟩
  have push : ∀ (c : Code) (k : List Item) (ck : List Go.Item), TodoR C.P α fk.nt (avAt C.P fk.fn) k ck → NRel C cs0 f0 (lone (K.fr tmps (.code c :: ck) ds .run) ccs w) (.go ⟨fk, e, pushC (cCode C.P fk.nt (avAt C.P fk.fn) c) k, defs, .run⟩ cs h ls) := fun c k ck hk' => by
    obtain ⟨cfr, w', h1, h2, h3⟩ := push_R hpl (m := m) (ccs := ccs) hk hd he hsz c k ck w s hk'
    exact go rfl h1 h2 h3
  cases c with
  | skip => exact go rfl (.one mv_skip) s (.run hk hd he hsz ht)
  | label l => exact go rfl (.one mv_label) s (.run hk hd he hsz ht)
  | seq a b => exact .of_steps (.one mv_seq) (push a _ _ (.cons (.code b) ht))
  | region id ops draw =>
    have h1 := push (.region id ops draw) todo ctodo ht
    cases draw with
    | false => exact h1
    | true =>
      have hc : cCode C.P fk.nt (avAt C.P fk.fn) (.region id ops true) = drawn C.P fk.nt (avAt C.P fk.fn) ops (dOps C.P fk.nt ops ops.toList 0 []) := rfl
      rw [hc] at h1 ⊢
      unfold drawn at h1 ⊢
      cases hb : (C.P.follows .mixedOrders && (regionOk ops (dOps C.P fk.nt ops ops.toList 0 []) && avoids (avAt C.P fk.fn) (dOps C.P fk.nt ops ops.toList 0 []))) with
      | true => rw [hb] at h1; exact h1
      | false => trivial
  | cond c a b =>
    show NRel C cs0 f0 _ (stepCode F fk e todo defs cs h ls (.cond (cO c) (cCode C.P fk.nt (avAt C.P fk.fn) a) (cCode C.P fk.nt (avAt C.P fk.fn) b)))
    simp only [stepCode]
    have hc := odR_tmps he c
    cases hv : (cO c).ev e <;> (try trivial)
    rename_i t
    rw [hv] at hc
    have hcc : evC tmps c = .bool t := by generalize evC tmps c = y at hc; cases hc; rfl
    refine .of_steps (.one (mv_cond hcc)) ?_
    cases t with
    | true => exact push a _ _ ht
    | false => exact push b _ _ ht
  | block id b => exact .of_steps (.one mv_block) (push b _ _ (.cons (.inBlock id) ht))
  | loop b => exact .of_steps (.one mv_loop) (push b _ _ (.cons (.inLoop b) ht))
  | exit id =>
    show NRel C cs0 f0 _ (stepCode F fk e todo defs cs h ls (.exit id))
    simp only [stepCode]
    cases hx : exitTo id todo with
    | none =>
      exact leave_R hk hd he s hm hst (some (.exit id)) (fun _ hj => absurd rfl (hj id)) (fun b v w' hr h1 fr' cs' h2 => lv_exit ((exit_R ht).2 hx) hr h1 h2)
    | some k' =>
      obtain ⟨ck', h1, h2⟩ := (exit_R ht).1 hx
      exact go rfl (.one (mv_exit h1)) s (.run hk hd he hsz h2)
  | ret =>
    show NRel C cs0 f0 _ (stepCode F fk e todo defs cs h ls .ret)
    exact leave_R hk hd he s hm hst (some .ret) (fun hr _ => mv_ret hr) (fun b v w' hr h1 fr' cs' h2 => lv_ret hr h1 h2)
  | scope b => trivial
  | goto l => trivial
  | refuse y => trivial
  | rangeFunc f ps a b =>
    simp only [cCode]
    cases hps : ps.toList.all (fun t => Nat.blt t fk.nt) with
    | false => trivial
    | true => exact rangeFunc_R F hF hN hk hd he hsz ht s hm hst f ps a b hps

theorem jump_R {P : Program} {α : AM} {nt : Nat} {av : List Nat} {j : Option Jump} {c : Option Code} (h : pendR j c) {k : List Item} {ck : List Go.Item} (ht : TodoR P α nt av k ck) : TodoR P α nt av (jumpCode j ++ k) ((c.map Go.Item.code).toList ++ ck) := by
  cases j with
  | none =>
    cases c with
    | none => exact ht
    | some c => exact h.elim
  | some j =>
    cases j with
    | ret =>
      cases c with
      | none => exact h.elim
      | some c => cases c <;> first | exact h.elim | exact .cons (.code .ret) ht
    | exit id =>
      cases c with
      | none => exact h.elim
      | some c =>
        cases c <;> first | exact h.elim | (have e1 : id = _ := h; subst e1; exact .cons (.code (.exit _)) ht)

theorem step_R (hpl : PlanOk C.P) (hF : FOk C.P F) (hN : NamesOk C.P) {fr : Fr} {cs : List Fr} {M : Machine} (hr : Rel C cs0 f0 fr cs h ls M) : NRel C cs0 f0 M (step F fr cs h ls) := by
  obtain ⟨α, Λ, w, m, cfr, ccs, rfl, s, hm, hfr, hst⟩ := hr.it
  cases hfr with
  | @out fk K e tmps todo ctodo defs ds md cm hk hd he hmd =>
    have hstep : step F ⟨fk, e, todo, defs, md⟩ cs h ls = unwind F ⟨fk, e, todo, defs, md⟩ cs h ls := by cases hmd <;> rfl
    rw [hstep]
    exact unwind_R F hF hN hk hd he hmd s hm hst
  | @run fk K e tmps todo ctodo defs ds hk hd he hsz ht =>
    cases ht with
    | nil => exact leave_R hk hd he s hm hst none (fun hr _ => mv_end hr) (fun b v w' hr h1 fr' cs' h2 => lv_end hr h1 h2)
    | @cons i c k ck hi ht =>
      cases hi with
      | code c => exact code_R F hpl hF hN hk hd he hsz ht s hm hst c
      | inBlock id => exact ⟨_, .one mv_inBlock, ⟨α, Λ, w, m, _, _, rfl, s, hm, .run hk hd he hsz ht, hst⟩⟩
      | inLoop c =>
        obtain ⟨cfr, w', h1, h2, h3⟩ := push_R hpl (m := m) (ccs := ccs) hk hd he hsz c (.inLoop (cCode C.P fk.nt (avAt C.P fk.fn) c) :: k) (.inLoop c :: ck) w s (.cons (.inLoop c) ht)
        exact ⟨_, .head mv_inLoop h1, ⟨α, Λ, w', m, _, _, rfl, h2, hm, h3, hst⟩⟩
      | inRF l L hl => trivial
      | endRF l L hl =>
        show NRel C cs0 f0 _ (stepItem F fk e k defs cs h ls (.endRF l))
        simp only [stepItem]
        cases hg : h.get l with
        | none => trivial
        | some b =>
          cases b <;> (try trivial)
          rename_i r
          simp only
          obtain ⟨hΛ, X, b1, b2, b3, b4, b5, b6, b7, b8, y, b9⟩ := loop_at s hl hg
          have fin : r.state ≠ .busy → NRel C cs0 f0 (lone (K.fr tmps (.endRangeFunc L.blk :: ck) ds .run) ccs w) (.go ⟨fk, e, jumpCode r.pending ++ k, defs, .run⟩ cs (h.put l (.loop { r with state := .exhausted })) ls) := fun hnb => by
            obtain ⟨w', t1, t2, t3⟩ := run_endLoop (P := C.P) b1 (by rw [b2]; exact hnb)
            have s' := s.turn (b' := .loop { r with state := .exhausted }) hl hΛ hg rfl rfl t2 ⟨_, t3, rfl, b3, b4, b5, b6, b7, b8, y, b9⟩
            refine ⟨_, .one (step_lone_go (fr' := K.fr tmps ((X.pending.map Go.Item.code).toList ++ ck) ds .run) (cs' := ccs) (w' := w') ?_), ⟨α, Λ, w', m, _, _, rfl, s', hm, .run hk hd he hsz (jump_R b3 ht), hst⟩⟩
            simp [stepG, stepG.exec, CK.fr, t1]
          cases hst' : r.state with
          | busy => trivial
          | ready => exact fin (by rw [hst']; simp)
          | done => exact fin (by rw [hst']; simp)
          | exhausted => exact fin (by rw [hst']; simp)
      | begin =>
        show NRel C cs0 f0 _ (stepItem F fk e k defs cs h ls .begin)
        simp only [stepItem]
        have hkr := hk.round
        cases hr : fk.round with
        | none => trivial
        | some l =>
          rw [hr] at hkr
          obtain ⟨L, hl, hkr⟩ := hkr
          simp only
          cases hg : h.get l with
          | none => trivial
          | some b =>
            cases b <;> (try trivial)
            rename_i r
            simp only
            cases hrs : r.state <;> (try trivial)
            obtain ⟨hΛ, X, b1, b2, b3, b4, b5, b6, b7, b8, y, b9⟩ := loop_at s hl hg
            obtain ⟨w', t1, t2, t3⟩ := run_beginRound (P := C.P) b1 (by rw [b2]; exact hrs)
            have s' := s.turn (b' := .loop { r with state := .busy }) hl hΛ hg rfl rfl t2 ⟨_, t3, rfl, b3, b4, b5, b6, b7, b8, y, b9⟩
            refine ⟨_, .one (step_lone_go (fr' := K.fr tmps ck ds .run) (cs' := ccs) (w' := w') ?_), ⟨α, Λ, w', m, _, _, rfl, s', hm, .run hk hd he hsz ht, hst⟩⟩
            simp [stepG, stepG.exec, stepG.apply, CK.fr, hkr, t1, Frame.finish]
  | @reg fk K e tmps todo ctodo defs ds ops chks rs L p hk hd hw hp ha he hsz ht =>
    show NRel C cs0 f0 _ (match runOps (chks.map .chk ++ rs) e h with
      | .fin e h => .go ⟨fk, e, todo, defs, .run⟩ cs h ls
      | .ctl c o rs e h => doCtl F fk e o rs todo defs cs h ls c
      | .bad n => .bad n fk.fn)
    rcases runOps_chks (rs := rs) (e := e) (h := h) chks with ⟨n, hb⟩ | ⟨hc1, hc2⟩
    · rw [hb]; trivial
    · rw [hc2]
      have hrun := run_ops (K := K) (ds := ds) (k := ctodo) (cs := ccs) (m := m) hw α Λ h w e tmps s hm hsz he (fun j hj => (hp j hj).ok hc1) ha
      cases hro : runOps rs e h with
      | bad n => trivial
      | fin e' h' =>
        rw [hro] at hrun
        obtain ⟨α', Λ', w', tmps', h1, h2, h3, h4, h5⟩ := hrun
        refine ⟨_, h1, ⟨α', Λ', w', m, _, _, rfl, h3, by have := h2.next; omega, .run (hk.mono h2.le) (hd.mono h2.le) h4 h5 (ht.mono h2.le), hst.mono h2.le h2.keep⟩⟩
      | ctl c o rs' e' h' =>
        rw [hro] at hrun
        rcases hrun with ⟨n, rfl⟩ | ⟨α', Λ', w', tmps', i, L', oi, f, h1, h2, h3, h4, h5, rfl, h7, e0, h8, h9⟩
        · trivial
        · exact .of_steps h1 (ctl_R F hF hN (hk.mono h2.le) (hd.mono h2.le) h4 (ht.mono h2.le) h3 (by have := h2.next; omega) (hst.mono h2.le h2.keep) h7 h5 h8 h9)

theorem run_R (hpl : PlanOk C.P) (hF : FOk C.P F) (hN : NamesOk C.P) : ∀ (n : Nat) {fr : Fr} {cs : List Fr} {h : Hp} {ls : List LE} {M : Machine}, Rel C cs0 f0 fr cs h ls M → NRel C cs0 f0 M (run F n fr cs h ls)
  | 0, fr, cs, h, ls, M, hr => ⟨M, .refl _ _, hr⟩
  | n + 1, fr, cs, h, ls, M, hr => by
    have h1 := step_R F hpl hF hN hr
    have h0 : run F (n + 1) fr cs h ls = Nx.rec (motive := fun _ => Nx) (fun fr cs h ls => run F n fr cs h ls) (fun v h => .done v h) (fun a b => .bad a b) (step F fr cs h ls) := rfl
    rw [h0]
    cases hs : step F fr cs h ls with
    | go fr' cs' h' ls' =>
      rw [hs] at h1
      obtain ⟨M', h2, h3⟩ := h1
      exact .of_steps h2 (run_R hpl hF hN n h3)
    | done v h' => rw [hs] at h1; exact h1
    | bad a b => trivial

/-- what stood below stays -/
def Kept (w w' : World) : Prop := w.heap.size ≤ w'.heap.size ∧ (∀ i, i < w.heap.size → w'.heap[i]? = w.heap[i]?) ∧ Still w w'

/-- a function of no arguments that says true, by its text -/
theorem calls_true {P : Program} (hpl : PlanOk P) (hN : NamesOk P) {n f : Nat} (hrun : isTrue (runFn P n f []) = true) (w : World) :
    Calls P f #[] w fun
      | .returned v, w' => v = .bool true ∧ Kept w w'
      | _, _ => False := by
  intro cs0
  unfold runFn at hrun
  cases hc : cFn P f with
  | none => simp [hc, isTrue] at hrun
  | some fn =>
    simp only [hc] at hrun
    let C : Cx := ⟨P, w, w.heap.size⟩
    have s0 : Sim C (fun _ => none) (fun _ => False) startH [] w := by
      have no : ∀ (a : Pa) (L : Loc), (fun _ => none : AM) a = some L → False := fun a L h => by cases h
      exact { dom := fun a L h => (no a L h).elim, blk := fun a L h => (no a L h).elim, inj := fun a _ L _ h => (no a L h).elim, live := fun a L _ h => (no a L h).elim, wr := fun a L _ h => (no a L h).elim,
              low := fun i _ => rfl, size := Nat.le_refl _, still := Still.refl w, fresh := fun a _ => by (show T.E.get a = none); cases a <;> rfl, lsdom := fun a x h => by (simp [findLE] at h) }
    have hen := enter_R (C := C) (α := fun _ => none) (h := startH) (m := 0) (f := f) hc (args := []) (cargs := []) .nil false
    have hrel : Rel C cs0 f (enter fn f [] false) [] startH [] (lone (Frame.enter P f #[] .normal) cs0 w) :=
      ⟨_, _, w, 0, _, _, rfl, s0, Nat.zero_le _, hen.1, by rw [hen.2.1, hen.2.2]; exact .nil 0⟩
    have hres := run_R (C := C) (cs0 := cs0) (f0 := f) (fun i => (cFn P i).map .code) hpl (fOk_code P) hN n hrel
    generalize run (fun i => (cFn P i).map .code) n (enter fn f [] false) [] startH [] = r at hrun hres
    cases r with
    | go => simp [isTrue] at hrun
    | bad => simp [isTrue] at hrun
    | done v h' =>
      simp only [isTrue] at hrun
      cases v <;> simp at hrun
      subst hrun
      obtain ⟨cfr, w', c, α', Λ', ls', h1, h2, h3, h4, h5⟩ := hres
      cases h5
      exact ⟨.returned (.bool true), w', cfr, ⟨rfl, h4.size, fun i hi => h4.low i hi, h4.still⟩, h1, h2, h3⟩
end Go.Ev
