/- A program of this law is run by an evaluator that is proved right: steps. It holds for every program of the model. -/
import Derived.Test.YtilaoinonapokaaEvE
import GoSem.Machine.Exec
namespace Go.Ev
variable {C : Cx} {nt : Nat} {ops : Array Oper} {K : CK} {ds : List Deferred} {ls : List LE} {m : Nat}

/-! ## what is still to be done -/
inductive ItemR (P : Program) (nt : Nat) : Item → Go.Item → Prop
  | code (c : Code) : ItemR P nt (.code (cCode P nt c)) (.code c)
  | inBlock (id : Nat) : ItemR P nt (.inBlock id) (.inBlock id)
  | inLoop (c : Code) : ItemR P nt (.inLoop (cCode P nt c)) (.inLoop c)

inductive TodoR (P : Program) (nt : Nat) : List Item → List Go.Item → Prop
  | nil : TodoR P nt [] []
  | cons {i : Item} {c : Go.Item} {k : List Item} {ck : List Go.Item} (h : ItemR P nt i c) (t : TodoR P nt k ck) : TodoR P nt (i :: k) (c :: ck)

theorem exit_R {P : Program} {id : Nat} : ∀ {k : List Item} {ck : List Go.Item}, TodoR P nt k ck → ∀ {k' : List Item}, exitTo id k = some k' → ∃ ck', Go.exitTo id ck = some ck' ∧ TodoR P nt k' ck'
  | _, _, .nil, k', h => by simp [exitTo] at h
  | _, _, .cons hi ht, k', h => by
    cases hi with
    | code c => exact exit_R ht h
    | inLoop c => exact exit_R ht h
    | inBlock j =>
      simp only [exitTo] at h
      cases hb : Nat.beq j id with
      | true =>
        simp only [hb, cond_true, Option.some.injEq] at h; subst h
        have := Nat.eq_of_beq_eq_true hb; subst this
        exact ⟨_, by simp [Go.exitTo], ht⟩
      | false =>
        simp only [hb, cond_false] at h
        obtain ⟨ck', h1, h2⟩ := exit_R ht h
        refine ⟨ck', ?_, h2⟩
        have : (j == id) = false := by
          simp only [beq_eq_false_iff_ne]
          intro e; subst e; simp at hb
        simp [Go.exitTo, this, h1]

inductive DefsR (α : AM) : List (Option Def) → List Deferred → Prop
  | nil : DefsR α [] []
  | cons {d : Def} {D : Deferred} {ds : List (Option Def)} {Ds : List Deferred} (caps : List Value) (ht : D.target = .fn (.func d.f) ⟨caps⟩) (ha : VRs α d.args (D.args.toList ++ caps)) (h : DefsR α ds Ds) :
      DefsR α (some d :: ds) (D :: Ds)
theorem DefsR.mono {α α' : AM} (hle : α.le α') {ds : List (Option Def)} {Ds : List Deferred} (h : DefsR α ds Ds) : DefsR α' ds Ds := by
  induction h with
  | nil => exact .nil
  | cons caps ht ha _ ih => exact .cons caps ht (VRs.mono hle ha) ih

structure KR (k : FK) (K : CK) : Prop where
  fn : k.fn = K.fn
  kind : K.kind = if k.deferred then .deferred else .normal
  round : K.round = none
  round' : k.round = none

/-- a frame that runs, or returns -/
inductive FrR (P : Program) (α : AM) (h : Hp) (m : Nat) : Fr → Frame → Prop
  | run {k : FK} {K : CK} {e : T V} {tmps : Array Value} {todo : List Item} {ctodo : List Go.Item} {ds : List (Option Def)} {Ds : List Deferred} (hk : KR k K) (hd : DefsR α ds Ds)
      (he : EnvR α e tmps) (hs : k.nt ≤ tmps.size) (ht : TodoR P k.nt todo ctodo) : FrR P α h m ⟨k, e, todo, ds, .run⟩ (K.fr tmps ctodo Ds .run)
  | reg {k : FK} {K : CK} {e : T V} {tmps : Array Value} {todo : List Item} {ctodo : List Go.Item} {ds : List (Option Def)} {Ds : List Deferred} {ops : Array Oper} {chks : List (RO Blk)} {rs : List (RS Blk)} {L : List Nat}
      {p : Nat → Prop} (hk : KR k K) (hd : DefsR α ds Ds) (hw : Weave P k.nt ops rs L p) (hp : ∀ j, p j → PendS P k.nt ops chks α e h m j) (ha : Apart P ops e p)
      (he : EnvX α e tmps (XOf ops p)) (hs : k.nt ≤ tmps.size) (ht : TodoR P k.nt todo ctodo) :
      FrR P α h m ⟨k, e, .reg (chks.map .chk ++ rs) :: todo, ds, .run⟩ (K.fr tmps (.inRegion ops L :: ctodo) Ds .run)
  | ret {k : FK} {K : CK} {e : T V} {tmps : Array Value} {todo : List Item} {ctodo : List Go.Item} {ds : List (Option Def)} {Ds : List Deferred} (hk : KR k K) (hd : DefsR α ds Ds)
      (he : EnvR α e tmps) (hs : k.nt ≤ tmps.size) : FrR P α h m ⟨k, e, todo, ds, .returning⟩ (K.fr tmps ctodo Ds .returning)

/-- a frame that waits: for what a call hands back; or, on its way out, for a deferred call -/
inductive CalR (P : Program) (α : AM) (h : Hp) (m : Nat) : Bool → Fr → Frame → Prop
  | wait {k : FK} {K : CK} {e : T V} {tmps : Array Value} {todo : List Item} {ctodo : List Go.Item} {ds : List (Option Def)} {Ds : List Deferred} {ops : Array Oper} {o : RO Blk} {rs : List (RS Blk)} {i : Nat} {L : List Nat} {oi : Oper}
      (hk : KR k K) (hd : DefsR α ds Ds) (hw : Wait P k.nt ops m α e h tmps o rs i L oi) (ht : TodoR P k.nt todo ctodo) :
      CalR P α h m false ⟨k, e, .reg (.op o :: rs) :: todo, ds, .run⟩ (K.fr tmps (.inRegion ops (i :: L) :: ctodo) Ds .run)
  | ret {k : FK} {K : CK} {e : T V} {tmps : Array Value} {todo : List Item} {ctodo : List Go.Item} {ds : List (Option Def)} {Ds : List Deferred} (hk : KR k K) (hd : DefsR α ds Ds)
      (he : EnvR α e tmps) (hs : k.nt ≤ tmps.size) : CalR P α h m true ⟨k, e, todo, ds, .returning⟩ (K.fr tmps ctodo Ds .returning)

inductive StkR (P : Program) (α : AM) (cs0 : List Frame) (f0 : Nat) : Nat → Bool → Nat → List Fr → List Frame → Prop
  | nil (m : Nat) : StkR P α cs0 f0 m false f0 [] cs0
  | cons {m m' : Nat} {d : Bool} {f : Nat} {c : Fr} {cc : Frame} {cs : List Fr} {ccs : List Frame} (h0 : Hp) (hc : CalR P α h0 m' d c cc) (h1 : m' ≤ h0.next.toNat) (h2 : h0.next.toNat ≤ m)
      (hs : StkR P α cs0 f0 m' c.k.deferred c.k.fn cs ccs) : StkR P α cs0 f0 m d f (c :: cs) (cc :: ccs)

theorem PendS.mono {P : Program} {chks : List (RO Blk)} {α α' : AM} {e : T V} {h : Hp} {m j : Nat} (hp : PendS P nt ops chks α e h m j) (hα : ∀ a, a.toNat < h.next.toNat → α a = none → α' a = none) : PendS P nt ops chks α' e h m j := by
  obtain ⟨oj, d, g, hb, hg, ha⟩ := hp
  exact ⟨oj, d, g, hb, hg.mono rfl hα (Nat.le_refl _), ha⟩

theorem Wait.mono {P : Program} {α α' : AM} (hle : α.le α') {e : T V} {h : Hp} {tmps : Array Value} {o : RO Blk} {rs : List (RS Blk)} {i : Nat} {L : List Nat} {oi : Oper} (hα : ∀ a, a.toNat < h.next.toNat → α a = none → α' a = none)
    (hw : Wait P nt ops m α e h tmps o rs i L oi) : Wait P nt ops m α' e h tmps o rs i L oi := by
  obtain ⟨chks, rs1, p, h1, h2, h3, h4, h5, h6⟩ := hw.rest
  exact ⟨hw.size, hw.at_, hw.ro, hw.lt, chks, rs1, p, h1, h2, fun j hj => (h3 j hj).mono hα, h4, h5.mono hle, h6⟩

theorem CalR.mono {P : Program} {α α' : AM} (hle : α.le α') {h : Hp} {d : Bool} {c : Fr} {cc : Frame} (hα : ∀ a, a.toNat < h.next.toNat → α a = none → α' a = none) (hc : CalR P α h m d c cc) : CalR P α' h m d c cc := by
  cases hc with
  | wait hk hd hw ht => exact .wait hk (hd.mono hle) (hw.mono hle hα) ht
  | ret hk hd he hs => exact .ret hk (hd.mono hle) (he.mono hle) hs

theorem StkR.mono {P : Program} {α α' : AM} {cs0 : List Frame} {f0 : Nat} (hle : α.le α') : ∀ {m : Nat} {d : Bool} {f : Nat} {cs : List Fr} {ccs : List Frame}, (∀ a, a.toNat < m → α a = none → α' a = none) →
    StkR P α cs0 f0 m d f cs ccs → StkR P α' cs0 f0 m d f cs ccs
  | _, _, _, _, _, _, .nil m => .nil m
  | _, _, _, _, _, hα, .cons h0 hc h1 h2 hs => .cons h0 (hc.mono hle fun a ha hn => hα a (by omega) hn) h1 h2 (StkR.mono hle (fun a ha hn => hα a (by omega) hn) hs)

/-- the memory's machine, and the world's -/
structure Rel (C : Cx) (cs0 : List Frame) (f0 : Nat) (fr : Fr) (cs : List Fr) (h : Hp) (ls : List LE) (M : Machine) : Prop where
  it : ∃ α Λ w m cfr ccs, M = lone cfr ccs w ∧ Sim C α Λ h ls w ∧ m ≤ h.next.toNat ∧ FrR C.P α h m fr cfr ∧ StkR C.P α cs0 f0 m fr.k.deferred fr.k.fn cs ccs

/-- where a step leads -/
def NRel (C : Cx) (cs0 : List Frame) (f0 : Nat) (M : Machine) : Nx → Prop
  | .go fr cs h ls => ∃ M', Steps C.P M M' ∧ Rel C cs0 f0 fr cs h ls M'
  | .done v h => ∃ cfr w c α Λ ls, Steps C.P M (lone cfr cs0 w) ∧ cfr.fn = f0 ∧ cfr.leaving C.P w (.returned c) ∧ Sim C α Λ h ls w ∧ VR α v c
  | .bad _ _ => True

theorem NRel.of_steps {cs0 : List Frame} {f0 : Nat} {M M' : Machine} {n : Nx} (hs : Steps C.P M M') (h : NRel C cs0 f0 M' n) : NRel C cs0 f0 M n := by
  cases n with
  | go fr cs h ls => obtain ⟨M2, h1, h2⟩ := h; exact ⟨M2, hs.trans h1, h2⟩
  | done v h => obtain ⟨a, b, c, d, e, f, h1, h2⟩ := h; exact ⟨a, b, c, d, e, f, hs.trans h1, h2⟩
  | bad a b => trivial

section moves
variable {P : Program} {tmps : Array Value} {k : List Go.Item} {cs : List Frame} {w : World}
theorem mv_skip : Go.step P (lone (K.fr tmps (.code .skip :: k) ds .run) cs w) = .next (lone (K.fr tmps k ds .run) cs w) :=
  step_lone_go (by simp [stepG, stepG.exec, CK.fr])
theorem mv_label {l : Nat} : Go.step P (lone (K.fr tmps (.code (.label l) :: k) ds .run) cs w) = .next (lone (K.fr tmps k ds .run) cs w) :=
  step_lone_go (by simp [stepG, stepG.exec, CK.fr])
theorem mv_inBlock {id : Nat} : Go.step P (lone (K.fr tmps (.inBlock id :: k) ds .run) cs w) = .next (lone (K.fr tmps k ds .run) cs w) :=
  step_lone_go (by simp [stepG, stepG.exec, CK.fr])
theorem mv_seq {x y : Code} : Go.step P (lone (K.fr tmps (.code (.seq x y) :: k) ds .run) cs w) = .next (lone (K.fr tmps (.code x :: .code y :: k) ds .run) cs w) :=
  step_lone_go (by simp [stepG, stepG.exec, CK.fr])
theorem mv_cond {c : Operand} {x y : Code} {t : Bool} (h : evC tmps c = .bool t) :
    Go.step P (lone (K.fr tmps (.code (.cond c x y) :: k) ds .run) cs w) = .next (lone (K.fr tmps (.code (if t then x else y) :: k) ds .run) cs w) :=
  step_lone_go (by
    have he := CK.eval K tmps (.code (.cond c x y) :: k) ds .run
    simp only [CK.fr] at he
    simp [stepG, stepG.exec, CK.fr, he, h])
theorem mv_block {id : Nat} {c : Code} : Go.step P (lone (K.fr tmps (.code (.block id c) :: k) ds .run) cs w) = .next (lone (K.fr tmps (.code c :: .inBlock id :: k) ds .run) cs w) :=
  step_lone_go (by simp [stepG, stepG.exec, CK.fr])
theorem mv_loop {c : Code} : Go.step P (lone (K.fr tmps (.code (.loop c) :: k) ds .run) cs w) = .next (lone (K.fr tmps (.code c :: .inLoop c :: k) ds .run) cs w) :=
  step_lone_go (by simp [stepG, stepG.exec, CK.fr])
theorem mv_inLoop {c : Code} : Go.step P (lone (K.fr tmps (.inLoop c :: k) ds .run) cs w) = .next (lone (K.fr tmps (.code c :: .inLoop c :: k) ds .run) cs w) :=
  step_lone_go (by simp [stepG, stepG.exec, CK.fr])
theorem mv_exit {id : Nat} {k' : List Go.Item} (h : Go.exitTo id k = some k') : Go.step P (lone (K.fr tmps (.code (.exit id) :: k) ds .run) cs w) = .next (lone (K.fr tmps k' ds .run) cs w) :=
  step_lone_go (by simp [stepG, stepG.exec, CK.fr, h])
theorem mv_ret (hr : K.round = none) : Go.step P (lone (K.fr tmps (.code .ret :: k) ds .run) cs w) = .next (lone (K.fr tmps (.code .ret :: k) ds .returning) cs w) :=
  step_lone_go (by simp [stepG, stepG.exec, CK.fr, hr])
theorem mv_end (hr : K.round = none) : Go.step P (lone (K.fr tmps [] ds .run) cs w) = .next (lone (K.fr tmps [] ds .returning) cs w) :=
  step_lone_go (by simp [stepG, stepG.exec, CK.fr, hr])
theorem mv_region {id : Nat} {ops : Array Oper} : Go.step P (lone (K.fr tmps (.code (.region id ops false) :: k) ds .run) cs w) = .next (lone (K.fr tmps (.inRegion ops (List.range ops.size) :: k) ds .run) cs w) :=
  step_lone_go (by simp [stepG, stepG.exec, CK.fr])
theorem mv_draw {id : Nat} {ops : Array Oper} : Go.step P (lone (K.fr tmps (.code (.region id ops true) :: k) ds .run) cs w) =
    .next (lone (K.fr tmps (.inRegion ops (Region.schedule (P.follows .mixedOrders) ops (w.tape w.drawn (.order K.fn id))) :: k) ds .run) cs { w with drawn := w.drawn + 1 }) :=
  step_lone_go (by simp [stepG, stepG.exec, CK.fr, choose, Sem.run, Question.forced, Question.cut])
end moves

theorem lin_weave {P : Program} {nt : Nat} {ops : Array Oper} : ∀ (l : List Oper) (i : Nat), (∀ (j : Nat) o, l[j]? = some o → ops[i + j]? = some o) →
    Weave P nt ops (l.map fun o => .op (cRO P nt ops o)) (List.range' i l.length) (fun _ => False)
  | [], i, _ => .done (fun _ h => h)
  | o :: l, i, h => by
    have ih := lin_weave (P := P) (nt := nt) (ops := ops) l (i + 1) (fun j o' hj => by have := h (j + 1) o' (by simpa using hj); rw [← this]; congr 1; omega)
    have := Weave.eff (P := P) (nt := nt) (ops := ops) (chks := []) i o (h 0 o (by simp)) (fun _ _ _ h => h.elim) (fun _ _ h => h.elim) ih
    simpa [List.range'_succ] using this

theorem undrawn {P : Program} {nt : Nat} {ops : Array Oper} : Weave P nt ops (ops.toList.map fun o => .op (cRO P nt ops o)) (List.range ops.size) (fun _ => False) := by
  have := lin_weave (P := P) (nt := nt) (ops := ops) ops.toList 0 (fun j o h => by simpa using h)
  rw [List.range_eq_range']
  simpa using this

/-- the theorem on plans, that is proved apart -/
def PlanOk (P : Program) : Prop := ∀ (nt : Nat) (ops : Array Oper) (rs : List (RS Blk)) (t : Nat), drawn P nt ops (dOps P nt ops ops.toList 0 []) = .region rs → Weave P nt ops rs (Region.schedule (P.follows .mixedOrders) ops t) (fun _ => False)

variable {cs0 : List Frame} {f0 : Nat}

theorem noPend {P : Program} {nt : Nat} {ops : Array Oper} {α : AM} {e : T V} {h : Hp} {tmps : Array Value} (he : EnvR α e tmps) :
    (∀ j, (fun _ => False) j → PendS P nt ops [] α e h m j) ∧ Apart P ops e (fun _ => False) ∧ EnvX α e tmps (XOf ops fun _ => False) :=
  ⟨fun _ h => h.elim, fun _ _ _ _ _ _ _ _ _ _ _ h => h.elim, fun p v hp _ => he p v hp⟩

/-- a code that is begun -/
theorem push_R (hpl : PlanOk C.P) {α : AM} {Λ : Pa → Prop} {h : Hp} {fk : FK} {e : T V} {tmps : Array Value} {defs : List (Option Def)} (hk : KR fk K) (hd : DefsR α defs ds) (he : EnvR α e tmps) (hs : fk.nt ≤ tmps.size) {ccs : List Frame} :
    ∀ (c : Code) (k : List Item) (ck : List Go.Item) (w : World), Sim C α Λ h ls w → TodoR C.P fk.nt k ck →
      ∃ cfr w', Steps C.P (lone (K.fr tmps (.code c :: ck) ds .run) ccs w) (lone cfr ccs w') ∧ Sim C α Λ h ls w' ∧ FrR C.P α h m ⟨fk, e, pushC (cCode C.P fk.nt c) k, defs, .run⟩ cfr
  | .skip, k, ck, w, s, ht => ⟨_, w, .one mv_skip, s, .run hk hd he hs ht⟩
  | .label l, k, ck, w, s, ht => ⟨_, w, .one mv_label, s, .run hk hd he hs ht⟩
  | .seq a b, k, ck, w, s, ht => by
    obtain ⟨cfr, w', h1, h2, h3⟩ := push_R hpl (ccs := ccs) hk hd he hs a (.code (cCode C.P fk.nt b) :: k) (.code b :: ck) w s (.cons (.code b) ht)
    exact ⟨cfr, w', .head mv_seq h1, h2, h3⟩
  | .region id ops draw, k, ck, w, s, ht => by
    cases draw with
    | false =>
      obtain ⟨n1, n2, n3⟩ := noPend (P := C.P) (nt := fk.nt) (ops := ops) (m := m) (h := h) he
      have hc : cCode C.P fk.nt (.region id ops false) = .region (ops.toList.map fun o => .op (cRO C.P fk.nt ops o)) := rfl
      rw [hc]
      exact ⟨_, w, .one mv_region, s, .reg (chks := []) hk hd undrawn n1 n2 n3 hs ht⟩
    | true =>
      have hc : cCode C.P fk.nt (.region id ops true) = drawn C.P fk.nt ops (dOps C.P fk.nt ops ops.toList 0 []) := rfl
      have hor : (∃ rs, drawn C.P fk.nt ops (dOps C.P fk.nt ops ops.toList 0 []) = .region rs) ∨ drawn C.P fk.nt ops (dOps C.P fk.nt ops ops.toList 0 []) = .bad := by
        unfold drawn
        cases (C.P.follows .mixedOrders && regionOk ops (dOps C.P fk.nt ops ops.toList 0 [])) with
        | true => exact .inl ⟨_, rfl⟩
        | false => exact .inr rfl
      rcases hor with ⟨rs, hr⟩ | hr
      · rw [hc, hr]
        obtain ⟨n1, n2, n3⟩ := noPend (P := C.P) (nt := fk.nt) (ops := ops) (m := m) (h := h) he
        exact ⟨_, _, .one mv_draw, s.same rfl ⟨rfl, rfl⟩, .reg (chks := []) hk hd (hpl fk.nt ops rs _ hr) n1 n2 n3 hs ht⟩
      · have hp : pushC (cCode C.P fk.nt (.region id ops true)) k = .code (cCode C.P fk.nt (.region id ops true)) :: k := by rw [hc, hr]; rfl
        rw [hp]
        exact ⟨_, w, .refl _ _, s, .run hk hd he hs (.cons (.code _) ht)⟩
  | .cond c a b, k, ck, w, s, ht => ⟨_, w, .refl _ _, s, .run hk hd he hs (.cons (.code (.cond c a b)) ht)⟩
  | .block id b, k, ck, w, s, ht => ⟨_, w, .refl _ _, s, .run hk hd he hs (.cons (.code (.block id b)) ht)⟩
  | .loop b, k, ck, w, s, ht => ⟨_, w, .refl _ _, s, .run hk hd he hs (.cons (.code (.loop b)) ht)⟩
  | .exit id, k, ck, w, s, ht => ⟨_, w, .refl _ _, s, .run hk hd he hs (.cons (.code (.exit id)) ht)⟩
  | .ret, k, ck, w, s, ht => ⟨_, w, .refl _ _, s, .run hk hd he hs (.cons (.code .ret) ht)⟩
  | .scope b, k, ck, w, s, ht => ⟨_, w, .refl _ _, s, .run hk hd he hs (.cons (.code (.scope b)) ht)⟩
  | .goto l, k, ck, w, s, ht => ⟨_, w, .refl _ _, s, .run hk hd he hs (.cons (.code (.goto l)) ht)⟩
  | .refuse y, k, ck, w, s, ht => ⟨_, w, .refl _ _, s, .run hk hd he hs (.cons (.code (.refuse y)) ht)⟩
  | .rangeFunc f ps a b, k, ck, w, s, ht => ⟨_, w, .refl _ _, s, .run hk hd he hs (.cons (.code (.rangeFunc f ps a b)) ht)⟩
end Go.Ev

namespace Go.Ev
variable {C : Cx} {K : CK} {ls : List LE} {m : Nat} {cs0 : List Frame} {f0 : Nat} {α : AM} {Λ : Pa → Prop} {h : Hp} {w : World}

/-! ## a frame is entered -/
theorem cFn_some {P : Program} {f : Nat} {i : IFn} (h : cFn P f = some i) : ∃ fn c, P.funcs[f]? = some fn ∧ fn.body = some c ∧ cRes P fn.results.toList = some i.res ∧ i.body = cCode P fn.ntmps c ∧ i.nt = fn.ntmps := by
  unfold cFn at h
  cases hf : P.funcs[f]? with
  | none => simp [hf] at h
  | some fn =>
    simp only [hf] at h
    cases hb : fn.body with
    | none => simp [hb] at h
    | some c =>
      simp only [hb] at h
      cases hr : cRes P fn.results.toList with
      | none => simp [hr] at h
      | some res =>
        simp only [hr, Option.some.injEq] at h
        subst h
        exact ⟨fn, c, rfl, hb, hr, rfl, rfl⟩

theorem putArgs_get : ∀ (l : List V) (i : Pa) (e : T V) (p : Pa), (putArgs l i e).get p = if i.toNat ≤ p.toNat ∧ p.toNat < i.toNat + l.length then l[p.toNat - i.toNat]? else e.get p
  | [], i, e, p => by rw [if_neg (by simp)]; rfl
  | v :: l, i, e, p => by
    simp only [putArgs]
    rw [putArgs_get l i.succ (e.set v i) p, Pa.toNat_succ, T.get_set]
    simp only [List.length_cons]
    by_cases hip : i = p
    · subst hip
      rw [if_neg (by omega), if_pos rfl, if_pos (by omega)]
      simp
    · have hne : i.toNat ≠ p.toNat := fun e => hip (Pa.toNat_inj e)
      rw [if_neg hip]
      by_cases h1 : i.toNat + 1 ≤ p.toNat ∧ p.toNat < i.toNat + 1 + l.length
      · rw [if_pos h1, if_pos (by omega)]
        have : p.toNat - i.toNat = (p.toNat - (i.toNat + 1)) + 1 := by omega
        rw [this]; simp
      · rw [if_neg h1, if_neg (by omega)]

theorem enter_R {f : Nat} {i : IFn} (hc : cFn C.P f = some i) {args : List V} {cargs : List Value} (ha : VRs α args cargs) (d : Bool) :
    FrR C.P α h m (enter i f args d) (Frame.enter C.P f cargs.toArray (if d then .deferred else .normal)) ∧ (enter i f args d).k.deferred = d ∧ (enter i f args d).k.fn = f := by
  obtain ⟨fn, c, h1, h2, h3, h4, h5⟩ := cFn_some hc
  refine ⟨?_, rfl, rfl⟩
  have hfr : Frame.enter C.P f cargs.toArray (if d then .deferred else .normal) =
      (CK.mk f (if d then .deferred else .normal) none).fr (cargs.toArray ++ Array.replicate (fn.ntmps - cargs.toArray.size) undef) [.code c] [] .run := by
    simp [Frame.enter, CK.fr, h1, h2]
  rw [hfr]
  have hen : enter i f args d = ⟨⟨f, i.nt, d, none⟩, putArgs args .z .E, [.code (cCode C.P i.nt c)], [], .run⟩ := by
    simp only [enter]; rw [h4, h5]
  rw [hen]
  refine .run ⟨rfl, rfl, rfl, rfl⟩ .nil (fun p v hp => ?_) (by simp [h5]; omega) (.cons (.code c) .nil)
  rw [putArgs_get] at hp
  have hE : (T.E : T V).get p = none := by cases p <;> rfl
  simp only [Pa.toNat, Nat.zero_le, true_and, Nat.zero_add, Nat.sub_zero, hE] at hp
  split at hp
  · rename_i hlt
    obtain ⟨c', k1, k2⟩ := ha.get hp
    refine ⟨c', ?_, k2⟩
    rw [Array.getElem?_append_left (by have := ha.length; simp; omega)]
    simpa using k1
  · cases hp

theorem run_callFunc {P : Program} {f : Nat} {fn : Func} {c : Code} (hf : P.funcs[f]? = some fn) (hb : fn.body = some c) (hn : (fn.name == "runtime.NumGoroutine") = false) (args : Array Value) (w : World) :
    (callFunc f args).run P w = .ok (.enter f args) w := by
  have hn' : ¬ fn.name = "runtime.NumGoroutine" := by simpa using hn
  simp [callFunc, hf, hb, hn']

/-- no function with a text bears the one name that is a thing apart -/
def NamesOk (P : Program) : Prop := ∀ (f : Nat) (fn : Func) (c : Code), P.funcs[f]? = some fn → fn.body = some c → (fn.name == "runtime.NumGoroutine") = false

/-! ## what leaves the frame -/
theorem ct_cases {P : Program} {o : Oper} {f : T V → Ctl} (hc : cOp P o.op = .ct f) :
    (∃ n, f = fun _ => .bad n) ∨ (∃ c x, o.op = .call c ∧ c.callee = .value x ∧ ((∃ g, x = .func g ∧ f = fun e => .call g (evL e (c.args.toList.map cO))) ∨
      f = fun e => match (cO x).ev e with | .fn g caps => .call g (evL e (c.args.toList.map cO) ++ caps) | _ => .bad 59)) ∨
    (∃ c x, o.op = .defer c ∧ c.callee = .value x ∧ f = fun e => match (cO x).ev e with | .fn g caps => .defer ⟨g, evL e (c.args.toList.map cO) ++ caps⟩ | _ => .bad 60) := by
  have bad : ∀ n, (smBad n : Sem1) = .ct f → ∃ n, f = fun _ => .bad n := fun n hb => by unfold smBad at hb; cases hb; exact ⟨n, rfl⟩
  cases hop : o.op <;> rw [hop] at hc <;> simp only [cOp] at hc <;> (try (exact .inl (bad _ hc))) <;> (try (cases hc; done))
  case alloc t => split at hc <;> first | (exact .inl (bad _ hc)) | (cases hc; done)
  case build t ps => repeat' (first | (exact .inl (bad _ hc)) | (cases hc; done) | split at hc)
  case buildSlice t len ps => repeat' (first | (exact .inl (bad _ hc)) | (cases hc; done) | split at hc)
  case load t a => split at hc <;> first | (exact .inl (bad _ hc)) | (cases hc; done)
  case store t a v => split at hc <;> first | (exact .inl (bad _ hc)) | (cases hc; done)
  case binOp op t x y yt =>
    split at hc
    · cases hcc : (isC x || isC y) <;> rw [hcc] at hc <;> first | (exact .inl (bad _ hc)) | (cases hc; done)
    · cases hc
  case convert s d x => unfold cConv at hc; repeat' (first | (exact .inl (bad _ hc)) | (cases hc; done) | split at hc)
  case makeInterface t x => repeat' (first | (exact .inl (bad _ hc)) | (cases hc; done) | split at hc)
  case makeFunc fn first caps =>
    cases fn <;> simp only at hc <;> repeat' (first | (exact .inl (bad _ hc)) | (cases hc; done) | split at hc)
  case makeMap t r => cases r <;> first | (exact .inl (bad _ hc)) | (cases hc; done)
  case makeSlice t l c => repeat' (first | (exact .inl (bad _ hc)) | (cases hc; done) | split at hc)
  case slice t x lo hi mx =>
    split at hc
    · cases mx with
      | none => simp only at hc; split at hc <;> first | (exact .inl (bad _ hc)) | (cases hc; done)
      | some m => exact .inl (bad _ hc)
    · cases mx <;> first | (exact .inl (bad _ hc)) | (cases hc; done)
    · split at hc
      · cases hm : (mx.isSome && hi.isNone) <;> rw [hm] at hc <;> first | (exact .inl (bad _ hc)) | (cases hc; done)
      · exact .inl (bad _ hc)
    · exact .inl (bad _ hc)
  case fieldAddr t x k => repeat' (first | (exact .inl (bad _ hc)) | (cases hc; done) | split at hc)
  case field t x k => repeat' (first | (exact .inl (bad _ hc)) | (cases hc; done) | split at hc)
  case indexAddr t x i => repeat' (first | (exact .inl (bad _ hc)) | (cases hc; done) | split at hc)
  case index t x i => repeat' (first | (exact .inl (bad _ hc)) | (cases hc; done) | split at hc)
  case lookup t x i ok =>
    split at hc
    · rename_i k el hu
      split at hc
      · cases hq : keyOk (eqT P k) <;> rw [hq] at hc <;> first | (exact .inl (bad _ hc)) | (cases hc; done)
      · exact .inl (bad _ hc)
    · exact .inl (bad _ hc)
  case mapUpdate t m k v =>
    split at hc
    · rename_i kt el hu
      cases hq : keyOk (eqT P kt) <;> rw [hq] at hc <;> first | (exact .inl (bad _ hc)) | (cases hc; done)
    · exact .inl (bad _ hc)
  case mapEntry t m k =>
    split at hc
    · rename_i kt el hu
      split at hc
      · cases hq : keyOk (eqT P kt) <;> rw [hq] at hc <;> first | (exact .inl (bad _ hc)) | (cases hc; done)
      · exact .inl (bad _ hc)
    · exact .inl (bad _ hc)
  case typeAssert x xt t ok => repeat' (first | (exact .inl (bad _ hc)) | (cases hc; done) | split at hc)
  case call c =>
    split at hc
    · rename_i b hb
      cases b <;> simp only [cBuiltin] at hc <;> repeat' (first | (exact .inl (bad _ hc)) | (cases hc; done) | split at hc)
    · rename_i x hx
      refine .inr (.inl ⟨c, x, rfl, hx, ?_⟩)
      cases x <;> simp only at hc <;> cases hc
      · exact .inr rfl
      · exact .inr rfl
      · exact .inr rfl
      · exact .inl ⟨_, rfl, rfl⟩
    · exact .inl (bad _ hc)
  case defer c =>
    split at hc
    · rename_i x hx
      cases hc
      exact .inr (.inr ⟨c, x, rfl, hx, rfl⟩)
    · exact .inl (bad _ hc)
end Go.Ev

namespace Go.Ev
variable {C : Cx} {K : CK} {ls : List LE} {m : Nat} {cs0 : List Frame} {f0 : Nat} {α : AM} {Λ : Pa → Prop} {h : Hp} {w : World}

theorem loadVs {P : Program} (s : Sim C α Λ h ls w) {n : Option Nat} {t : TypeId} (hn : shapeT P t = some n) {x v : V} {c : Value} (hx : VR α x c) (hv : loadV h n x = some v) :
    ∃ c', (do loadVar t (← asAddr c) : Sem Value).run P w = .ok c' w ∧ VR α v c' := by
  obtain ⟨a, d, rfl, h1, h2⟩ := loadV_sound (P := P) s hn hx hv
  exact ⟨d, by simp [asAddr, h1], h2⟩

theorem res_R {P : Program} (s : Sim C α Λ h ls w) {e : T V} {tmps : Array Value} (he : EnvR α e tmps) : ∀ (rvs : List ResultVar) (res : List (Pa × Option (Option Nat))) (l : List V), cRes P rvs = some res → resOf e h res = some l →
    ∃ cs : List Value, VRs α l cs ∧ (rvs.mapM (fun (r : ResultVar) => match r with
      | .tmp t => (pure (tmps.getD t undef) : Sem Value)
      | .cell a t => do loadVar t (← asAddr (tmps.getD a undef)))).run P w = .ok cs w
  | [], res, l, h1, h2 => by
    simp [cRes] at h1; subst h1
    simp [resOf] at h2; subst h2
    exact ⟨[], .nil, by simp⟩
  | .tmp t :: r, res, l, h1, h2 => by
    simp only [cRes] at h1
    cases hr : cRes P r with
    | none => simp [hr] at h1
    | some res' =>
      simp only [hr, Option.some.injEq] at h1; subst h1
      simp only [resOf] at h2
      cases hl : resOf e h res' with
      | none => simp [hl] at h2
      | some l' =>
        simp only [hl, Option.some.injEq] at h2; subst h2
        obtain ⟨cs, k1, k2⟩ := res_R s he r res' l' hr hl
        have := odR_tmps he (.tmp t)
        refine ⟨evC tmps (.tmp t) :: cs, .cons _ _ _ _ this k1, ?_⟩
        simp only [List.mapM_cons, Sem.run_bind, Sem.run_pure, Result.andThen_ok, k2]
        rfl
  | .cell a t :: r, res, l, h1, h2 => by
    simp only [cRes] at h1
    cases hsh : shapeT P t with
    | none => simp [hsh] at h1
    | some n =>
      simp only [hsh] at h1
      cases hr : cRes P r with
      | none => simp [hr] at h1
      | some res' =>
        simp only [hr, Option.some.injEq] at h1; subst h1
        simp only [resOf] at h2
        cases hv : loadV h n (e.val (pa a)) with
        | none => simp [hv] at h2
        | some v =>
          simp only [hv] at h2
          cases hl : resOf e h res' with
          | none => simp [hl] at h2
          | some l' =>
            simp only [hl, Option.some.injEq] at h2; subst h2
            obtain ⟨cs, k1, k2⟩ := res_R s he r res' l' hr hl
            have := odR_tmps he (.tmp a)
            obtain ⟨c', q1, q2⟩ := loadVs (P := P) s hsh this hv
            refine ⟨c' :: cs, .cons _ _ _ _ q2 k1, ?_⟩
            simp only [evC] at q1
            simp only [List.mapM_cons, Sem.run_bind, q1, Result.andThen_ok, k2, Sem.run_pure]

theorem oneOf_R {l : List V} {cs : List Value} (h : VRs α l cs) : VR α (oneOf l) (if h : cs.toArray.size = 1 then cs.toArray[0] else .tuple cs.toArray) := by
  cases h with
  | nil => exact .tup _ _ .nil
  | cons v c l cs h hs =>
    cases hs with
    | nil => simpa [oneOf] using h
    | cons v' c' l' cs' h' hs' => simpa [oneOf] using VR.tup _ _ (.cons _ _ _ _ h (.cons _ _ _ _ h' hs'))

theorem results_R (s : Sim C α Λ h ls w) {e : T V} {tmps : Array Value} (he : EnvR α e tmps) {fn : Func} {res : List (Pa × Option (Option Nat))} {l : List V} (h1 : cRes C.P fn.results.toList = some res) (h2 : resOf e h res = some l) :
    ∃ c, (results fn tmps).run C.P w = .ok c w ∧ VR α (oneOf l) c := by
  obtain ⟨cs, k1, k2⟩ := res_R (P := C.P) s he _ _ _ h1 h2
  refine ⟨_, ?_, oneOf_R k1⟩
  unfold results
  simp only [Sem.run_bind]
  have : (fn.results.mapM (fun (r : ResultVar) => match r with
      | .tmp t => (pure (tmps.getD t undef) : Sem Value)
      | .cell a t => do loadVar t (← asAddr (tmps.getD a undef)))).run C.P w = .ok cs.toArray w := by
    rw [Array.mapM_eq_mapM_toList]
    simp only [map_eq_pure_bind, Sem.run_bind, k2, Result.andThen_ok, Sem.run_pure]
  exact Eq.trans (congrArg (fun r : Result (Array Value) => r.andThen _) this) rfl
end Go.Ev

namespace Go.Ev
variable {C : Cx} {K : CK} {ls : List LE} {m : Nat} {cs0 : List Frame} {f0 : Nat} {α : AM} {Λ : Pa → Prop} {h : Hp} {w : World}

theorem fin_reg {fk : FK} {e : T V} {tmps : Array Value} {todo : List Item} {ctodo : List Go.Item} {defs : List (Option Def)} {ds : List Deferred} {ops : Array Oper} {o : RO Blk} {rs : List (RS Blk)} {i : Nat} {L : List Nat} {oi : Oper}
    (hk : KR fk K) (hd : DefsR α defs ds) {m' : Nat} {h0 : Hp} (hw : Wait C.P fk.nt ops m' α e h0 tmps o rs i L oi) (ht : TodoR C.P fk.nt todo ctodo) (hn : h0.next.toNat ≤ h.next.toNat) {v : V} {c : Value} (hv : VR α v c) :
    FrR C.P α h m' ⟨fk, e.put v o.dst, .reg rs :: todo, defs, .run⟩ (K.fr (putC tmps oi.dst c) (.inRegion ops L :: ctodo) ds .run) := by
  obtain ⟨chks, rs1, p, rfl, h2, h3, h4, h5, h6, h7⟩ := hw.rest
  obtain ⟨g, hro⟩ := hw.ro
  have hdst : o.dst = oi.dst.map pa := by rw [hro]
  rw [hdst]
  exact .reg hk hd h2 (fun j hj => (h3 j hj).put (fun oj t q1 q2 => h6 j oj t hj q1 q2) (fun oj hoj => h7 j oj hj hoj) (fun _ _ h => h) hn v) (h4.put h6 v) (h5.put hv (fun d hd => Nat.lt_of_lt_of_le (hw.lt d hd) hw.size)) (by rw [putC_size]; exact hw.size) ht

theorem return_R {fk : FK} {tmps : Array Value} {ctodo : List Go.Item} (hk : KR fk K) {v : V} {c : Value} {fn : Func} (hf : C.P.funcs[K.fn]? = some fn) (hres : (results fn tmps).run C.P w = .ok c w) (hv : VR α v c)
    (s : Sim C α Λ h ls w) (hm : m ≤ h.next.toNat) {cs : List Fr} {ccs : List Frame} (hst : StkR C.P α cs0 f0 m fk.deferred fk.fn cs ccs) :
    NRel C cs0 f0 (lone (K.fr tmps ctodo [] .returning) ccs w) (doReturn fk cs h ls v) := by
  obtain ⟨q1, q2, q3, q4⟩ := hk
  generalize hd : fk.deferred = d at *
  generalize hfn : fk.fn = f at *
  cases hst with
  | nil =>
    simp only [doReturn, hd, cond_false]
    exact ⟨_, w, c, α, Λ, ls, Steps.refl _ _, by simp [CK.fr, ← q1], ⟨rfl, rfl, by simp [CK.fr, q2], fn, hf, hres⟩, s, hv⟩
  | @cons _ m' _ _ cfr cc cs ccs h0 hc h1 h2 hs =>
    cases d with
    | false =>
      cases hc with
      | @wait k' K' e' tmps' todo' ctodo' ds' Ds' ops o rs i L oi hk' hd' hw' ht' =>
        simp only [doReturn, hd, cond_false, finish]
        have hl : (K.fr tmps ctodo [] .returning).leaving C.P w (.returned c) := ⟨rfl, rfl, by simp [CK.fr, q2], fn, hf, hres⟩
        refine ⟨_, .one (step_leave_returned hl), ⟨α, Λ, w, m', _, _, rfl, s, by omega, ?_, hs⟩⟩
        rw [fin_fr hw'.at_]
        exact fin_reg hk' hd' hw' ht' (by omega) hv
    | true =>
      cases hc with
      | @ret k' K' e' tmps' todo' ctodo' ds' Ds' hk' hd' he' hs' =>
        simp only [doReturn, hd, cond_true]
        refine ⟨_, .one (step_lone_go (fr' := K'.fr tmps' ctodo' Ds' .returning) (cs' := ccs) (w' := w) ?_), ⟨α, Λ, w, m', _, _, rfl, s, by omega, .ret hk' hd' he' hs', hs⟩⟩
        simp [stepG, Go.unwind, Go.doReturn, CK.fr, q2, hf, hres]

theorem names_false {P : Program} (hN : NamesOk P) {f : Nat} {i : IFn} (hc : cFn P f = some i) : ∃ fn c, P.funcs[f]? = some fn ∧ fn.body = some c ∧ (fn.name == "runtime.NumGoroutine") = false := by
  obtain ⟨fn, c, h1, h2, _⟩ := cFn_some hc
  exact ⟨fn, c, h1, h2, hN f fn c h1 h2⟩

variable (F : Nat → Option FnI)

theorem unwind_R (hF : ∀ f, F f = (cFn C.P f).map .code) (hN : NamesOk C.P) {fk : FK} {e : T V} {tmps : Array Value} {todo : List Item} {ctodo : List Go.Item} {defs : List (Option Def)} {ds : List Deferred} (hk : KR fk K) (hd : DefsR α defs ds)
    (he : EnvR α e tmps) (hsz : fk.nt ≤ tmps.size) (s : Sim C α Λ h ls w) (hm : m ≤ h.next.toNat) {cs : List Fr} {ccs : List Frame} (hst : StkR C.P α cs0 f0 m fk.deferred fk.fn cs ccs) :
    NRel C cs0 f0 (lone (K.fr tmps ctodo ds .returning) ccs w) (unwind F ⟨fk, e, todo, defs, .returning⟩ cs h ls) := by
  cases hd with
  | nil =>
    simp only [unwind]
    rw [hF]
    cases hc : cFn C.P fk.fn with
    | none => trivial
    | some i =>
      simp only [Option.map_some]
      cases hr : resOf e h i.res with
      | none => trivial
      | some l =>
        obtain ⟨fn, c, h1, h2, h3, h4, h5⟩ := cFn_some hc
        obtain ⟨cv, k1, k2⟩ := results_R s he h3 hr
        rw [hk.fn] at h1
        exact return_R hk h1 k1 k2 s hm hst
  | @cons d D ds' Ds' caps ht ha hds =>
    simp only [unwind]
    rw [hF]
    cases hc : cFn C.P d.f with
    | none => trivial
    | some i =>
      simp only [Option.map_some]
      obtain ⟨fn, c, h1, h2, h3⟩ := names_false hN hc
      have hen := enter_R (α := α) (h := h) (m := h.next.toNat) hc ha true
      obtain ⟨T, A⟩ := D
      simp only at ht ha
      subst ht
      have hrun : (invoke (.fn (.func d.f) ⟨caps⟩) A).run C.P w = .ok (.enter d.f (A.toList ++ caps).toArray) w := by
        have e1 : (A ++ (⟨caps⟩ : Array Value)) = (A.toList ++ caps).toArray := by
          apply Array.toList_inj.1; simp
        simp only [invoke, e1]
        exact run_callFunc h1 h2 h3 _ w
      refine ⟨_, .one (step_lone_go (fr' := Frame.enter C.P d.f (A.toList ++ caps).toArray .deferred) (cs' := K.fr tmps ctodo Ds' .returning :: ccs) (w' := w) ?_), ⟨α, Λ, w, h.next.toNat, _, _, rfl, s, Nat.le_refl _, hen.1, ?_⟩⟩
      · simp [stepG, Go.unwind, CK.fr, callDeferred, hrun]
      · rw [hen.2.1, hen.2.2]
        exact .cons h (.ret hk hds he hsz) hm (Nat.le_refl _) hst
end Go.Ev

namespace Go.Ev
variable {C : Cx} {K : CK} {ls : List LE} {m : Nat} {cs0 : List Frame} {f0 : Nat} {α : AM} {Λ : Pa → Prop} {h : Hp} {w : World}
variable (F : Nat → Option FnI)

/-- whom a call calls -/
theorem resolve_R {P : Program} {ρ : Operand → Value} {e e0 : T V} (ho : OdR α e0 ρ) {c : Call} {x : Operand} (hx : c.callee = .value x) (hs : Same e0 e c.operands.toList) (ty : TypeId) {g : Nat} {caps : List V} (hv : (cO x).ev e = .fn g caps) :
    ∃ (cc : List Value) (A : List Value), (resolve ρ c ty).run P w = .ok { target := .fn (.func g) ⟨cc⟩, args := ⟨A⟩ } w ∧ VRs α (evL e (c.args.toList.map cO) ++ caps) (A ++ cc) := by
  have h1 : (cO x).ev e0 = (cO x).ev e := hs x (by simp [Call.operands, hx])
  have h2 := ho x
  rw [h1, hv] at h2
  have h3 : evL e0 (c.args.toList.map cO) = evL e (c.args.toList.map cO) := evL_congr fun y hy => hs y (by simp only [Call.operands, hx]; simp at hy ⊢; exact .inr hy)
  have h4 := ho.list c.args.toList
  rw [h3] at h4
  generalize hr : ρ x = y at h2
  cases h2 with
  | fn _ _ cc hcc =>
    refine ⟨cc, c.args.toList.map ρ, ?_, h4.append hcc⟩
    simp only [resolve, hx, hr, Deferred.ofValue, Sem.run_pure]
    congr 2
    apply Array.toList_inj.1; simp

theorem call_R (hF : ∀ f, F f = (cFn C.P f).map .code) (hN : NamesOk C.P) {fk : FK} {e : T V} {tmps : Array Value} {todo : List Item} {ctodo : List Go.Item} {defs : List (Option Def)} {ds : List Deferred} {ops : Array Oper} {o : RO Blk} {rs : List (RS Blk)} {i : Nat} {L : List Nat} {oi : Oper}
    (hk : KR fk K) (hd : DefsR α defs ds) (hw : Wait C.P fk.nt ops m α e h tmps o rs i L oi) (ht : TodoR C.P fk.nt todo ctodo) (s : Sim C α Λ h ls w) (hm : m ≤ h.next.toNat) {cs : List Fr} {ccs : List Frame} (hst : StkR C.P α cs0 f0 m fk.deferred fk.fn cs ccs)
    (hwant : Region.wanted oi (yielded ops tmps) = true) {c : Call} {x : Operand} (hop : oi.op = .call c) (hx : c.callee = .value x) {e0 : T V} (ho : OdR α e0 (evC tmps)) (hs : Same e0 e oi.op.operands.toList) {g : Nat} {caps : List V} (hv : (cO x).ev e = .fn g caps) :
    NRel C cs0 f0 (lone (K.fr tmps (.inRegion ops (i :: L) :: ctodo) ds .run) ccs w) (doCall F ⟨fk, e, .reg (.op o :: rs) :: todo, defs, .run⟩ cs h ls g (evL e (c.args.toList.map cO) ++ caps)) := by
  rw [hop] at hs
  obtain ⟨cc, A, r1, r2⟩ := resolve_R (w := w) (P := C.P) ho hx hs oi.type hv
  unfold doCall
  rw [hF]
  cases hc : cFn C.P g with
  | none => trivial
  | some fi =>
    simp only [Option.map_some]
    obtain ⟨fn, code, h1, h2, h3⟩ := names_false hN hc
    have hen := enter_R (α := α) (h := h) (m := h.next.toNat) hc r2 false
    have hrun : (execOp (evC tmps) oi).run C.P w = .ok (.enter g (A ++ cc).toArray) w := by
      have e1 : ((⟨A⟩ : Array Value) ++ (⟨cc⟩ : Array Value)) = (A ++ cc).toArray := by
        apply Array.toList_inj.1; simp
      simp only [execOp, hop, Sem.run_bind, r1, Result.andThen_ok, invoke, e1]
      exact run_callFunc h1 h2 h3 _ w
    refine ⟨_, .one (step_lone_go (fr' := Frame.enter C.P g (A ++ cc).toArray .normal) (cs' := K.fr tmps (.inRegion ops (i :: L) :: ctodo) ds .run :: ccs) (w' := w) ?_), ⟨α, Λ, w, h.next.toNat, _, _, rfl, s, Nat.le_refl _, hen.1, ?_⟩⟩
    · rw [stepG_fr hw.at_ hwant (.inl hk.round)]
      simp [stepG.apply, hrun, CK.fr]
    · rw [hen.2.1, hen.2.2]
      exact .cons h (.wait hk hd hw ht) hm (Nat.le_refl _) hst

theorem defer_R {fk : FK} {e : T V} {tmps : Array Value} {todo : List Item} {ctodo : List Go.Item} {defs : List (Option Def)} {ds : List Deferred} {ops : Array Oper} {o : RO Blk} {rs : List (RS Blk)} {i : Nat} {L : List Nat} {oi : Oper}
    (hk : KR fk K) (hd : DefsR α defs ds) (hw : Wait C.P fk.nt ops m α e h tmps o rs i L oi) (ht : TodoR C.P fk.nt todo ctodo) (s : Sim C α Λ h ls w) (hm : m ≤ h.next.toNat) {cs : List Fr} {ccs : List Frame} (hst : StkR C.P α cs0 f0 m fk.deferred fk.fn cs ccs)
    (hwant : Region.wanted oi (yielded ops tmps) = true) {c : Call} {x : Operand} (hop : oi.op = .defer c) (hx : c.callee = .value x) {e0 : T V} (ho : OdR α e0 (evC tmps)) (hs : Same e0 e oi.op.operands.toList) {g : Nat} {caps : List V} (hv : (cO x).ev e = .fn g caps) :
    NRel C cs0 f0 (lone (K.fr tmps (.inRegion ops (i :: L) :: ctodo) ds .run) ccs w) (.go ⟨fk, e.put undefV o.dst, .reg rs :: todo, some ⟨g, evL e (c.args.toList.map cO) ++ caps⟩ :: defs, .run⟩ cs h ls) := by
  rw [hop] at hs
  obtain ⟨cc, A, r1, r2⟩ := resolve_R (w := w) (P := C.P) ho hx hs oi.type hv
  have hrun : (execOp (evC tmps) oi).run C.P w = .ok (.defer { target := .fn (.func g) ⟨cc⟩, args := ⟨A⟩ }) w := by
    simp only [execOp, hop, Sem.run_bind, r1, Result.andThen_ok, Sem.run_pure]
  refine ⟨_, .one (step_lone_go (fr' := K.fr (putC tmps oi.dst undef) (.inRegion ops L :: ctodo) ({ target := .fn (.func g) ⟨cc⟩, args := ⟨A⟩ } :: ds) .run) (cs' := ccs) (w' := w) ?_),
    ⟨α, Λ, w, m, _, _, rfl, s, hm, fin_reg hk (.cons cc rfl r2 hd) hw ht (Nat.le_refl _) (undef_R α), hst⟩⟩
  rw [stepG_fr hw.at_ hwant (.inl hk.round), ← fin_fr hw.at_]
  simp only [stepG.apply, Sem.runT_eq, hrun, GStep.bare_after]
  simp [CK.fr]

theorem ctl_R (hF : ∀ f, F f = (cFn C.P f).map .code) (hN : NamesOk C.P) {fk : FK} {e : T V} {tmps : Array Value} {todo : List Item} {ctodo : List Go.Item} {defs : List (Option Def)} {ds : List Deferred} {ops : Array Oper} {o : RO Blk} {rs : List (RS Blk)} {i : Nat} {L : List Nat} {oi : Oper}
    (hk : KR fk K) (hd : DefsR α defs ds) (hw : Wait C.P fk.nt ops m α e h tmps o rs i L oi) (ht : TodoR C.P fk.nt todo ctodo) (s : Sim C α Λ h ls w) (hm : m ≤ h.next.toNat) {cs : List Fr} {ccs : List Frame} (hst : StkR C.P α cs0 f0 m fk.deferred fk.fn cs ccs)
    (hwant : Region.wanted oi (yielded ops tmps) = true) {f : T V → Ctl} (hct : cOp C.P oi.op = .ct f) {e0 : T V} (ho : OdR α e0 (evC tmps)) (hs : Same e0 e oi.op.operands.toList) :
    NRel C cs0 f0 (lone (K.fr tmps (.inRegion ops (i :: L) :: ctodo) ds .run) ccs w) (doCtl F fk e o rs todo defs cs h ls (f e)) := by
  rcases ct_cases hct with ⟨n, rfl⟩ | ⟨c, x, hop, hx, hf⟩ | ⟨c, x, hop, hx, rfl⟩
  · trivial
  · rcases hf with ⟨g, rfl, rfl⟩ | rfl
    · have := call_R F hF hN hk hd hw ht s hm hst hwant hop hx ho hs (g := g) (caps := []) rfl
      simpa [doCtl] using this
    · simp only
      cases hv : (cO x).ev e <;> (try trivial)
      exact call_R F hF hN hk hd hw ht s hm hst hwant hop hx ho hs hv
  · simp only
    cases hv : (cO x).ev e <;> (try trivial)
    simp only [doCtl, hk.round']
    exact defer_R hk hd hw ht s hm hst hwant hop hx ho hs hv
end Go.Ev

namespace Go.Ev
variable {C : Cx} {K : CK} {ls : List LE} {m : Nat} {cs0 : List Frame} {f0 : Nat} {α : AM} {Λ : Pa → Prop} {h : Hp} {w : World}
variable (F : Nat → Option FnI)

theorem leave_R {fk : FK} {e : T V} {tmps : Array Value} {todo : List Item} {defs : List (Option Def)} {ds : List Deferred} {M : Machine} (hk : KR fk K) (hd : DefsR α defs ds) (he : EnvR α e tmps) (hsz : fk.nt ≤ tmps.size)
    (s : Sim C α Λ h ls w) (hm : m ≤ h.next.toNat) {cs : List Fr} {ccs : List Frame} (hst : StkR C.P α cs0 f0 m fk.deferred fk.fn cs ccs) {j : Option Jump} {ctodo : List Go.Item}
    (hM : Steps C.P M (lone (K.fr tmps ctodo ds .returning) ccs w)) (hj : ∀ id, j = some (.exit id) → False) :
    NRel C cs0 f0 M (leaveV ⟨fk, e, todo, defs, .run⟩ cs h ls j) := by
  have : leaveV ⟨fk, e, todo, defs, .run⟩ cs h ls j = .go ⟨fk, e, todo, defs, .returning⟩ cs h ls := by
    simp only [leaveV, hk.round']
    cases j with
    | none => rfl
    | some j => cases j with
      | ret => rfl
      | exit id => exact (hj id rfl).elim
  rw [this]
  exact ⟨_, hM, ⟨α, Λ, w, m, _, _, rfl, s, hm, .ret hk hd he hsz, hst⟩⟩

theorem code_R (hpl : PlanOk C.P) {fk : FK} {e : T V} {tmps : Array Value} {todo : List Item} {ctodo : List Go.Item} {defs : List (Option Def)} {ds : List Deferred} (hk : KR fk K) (hd : DefsR α defs ds) (he : EnvR α e tmps) (hsz : fk.nt ≤ tmps.size)
    (ht : TodoR C.P fk.nt todo ctodo) (s : Sim C α Λ h ls w) (hm : m ≤ h.next.toNat) {cs : List Fr} {ccs : List Frame} (hst : StkR C.P α cs0 f0 m fk.deferred fk.fn cs ccs) (c : Code) :
    NRel C cs0 f0 (lone (K.fr tmps (.code c :: ctodo) ds .run) ccs w) (stepCode F fk e todo defs cs h ls (cCode C.P fk.nt c)) := by
  have go : ∀ {M : Machine} {cfr : Frame} {w' : World} {fr : Fr}, fr.k = fk → Steps C.P M (lone cfr ccs w') → Sim C α Λ h ls w' → FrR C.P α h m fr cfr → NRel C cs0 f0 M (.go fr cs h ls) :=
    fun hfk hM s' hfr => ⟨_, hM, ⟨α, Λ, _, m, _, _, rfl, s', hm, hfr, by rw [hfk]; exact hst⟩⟩
  have push : ∀ (c : Code) (k : List Item) (ck : List Go.Item), TodoR C.P fk.nt k ck → NRel C cs0 f0 (lone (K.fr tmps (.code c :: ck) ds .run) ccs w) (.go ⟨fk, e, pushC (cCode C.P fk.nt c) k, defs, .run⟩ cs h ls) := fun c k ck hk' => by
    obtain ⟨cfr, w', h1, h2, h3⟩ := push_R hpl (m := m) (ccs := ccs) hk hd he hsz c k ck w s hk'
    exact go rfl h1 h2 h3
  cases c with
  | skip => exact go rfl (.one mv_skip) s (.run hk hd he hsz ht)
  | label l => exact go rfl (.one mv_label) s (.run hk hd he hsz ht)
  | seq a b => exact .of_steps (.one mv_seq) (push a _ _ (.cons (.code b) ht))
  | region id ops draw =>
    have h1 := push (.region id ops draw) todo ctodo ht
    cases draw with
    | false => exact h1
    | true =>
      have hc : cCode C.P fk.nt (.region id ops true) = drawn C.P fk.nt ops (dOps C.P fk.nt ops ops.toList 0 []) := rfl
      rw [hc] at h1 ⊢
      unfold drawn at h1 ⊢
      cases hb : (C.P.follows .mixedOrders && regionOk ops (dOps C.P fk.nt ops ops.toList 0 [])) with
      | true => rw [hb] at h1; exact h1
      | false => trivial
  | cond c a b =>
    show NRel C cs0 f0 _ (stepCode F fk e todo defs cs h ls (.cond (cO c) (cCode C.P fk.nt a) (cCode C.P fk.nt b)))
    simp only [stepCode]
    have hc := odR_tmps he c
    cases hv : (cO c).ev e <;> (try trivial)
    rename_i t
    rw [hv] at hc
    have hcc : evC tmps c = .bool t := by generalize evC tmps c = y at hc; cases hc; rfl
    refine .of_steps (.one (mv_cond hcc)) ?_
    cases t with
    | true => exact push a _ _ ht
    | false => exact push b _ _ ht
  | block id b => exact .of_steps (.one mv_block) (push b _ _ (.cons (.inBlock id) ht))
  | loop b => exact .of_steps (.one mv_loop) (push b _ _ (.cons (.inLoop b) ht))
  | exit id =>
    show NRel C cs0 f0 _ (stepCode F fk e todo defs cs h ls (.exit id))
    simp only [stepCode]
    cases hx : exitTo id todo with
    | none =>
      simp only [leaveV, hk.round']
      trivial
    | some k' =>
      obtain ⟨ck', h1, h2⟩ := exit_R ht hx
      exact go rfl (.one (mv_exit h1)) s (.run hk hd he hsz h2)
  | ret =>
    show NRel C cs0 f0 _ (stepCode F fk e todo defs cs h ls .ret)
    exact leave_R hk hd he hsz s hm hst (j := some .ret) (.one (mv_ret hk.round)) (fun id hj => by cases hj)
  | scope b => trivial
  | goto l => trivial
  | refuse y => trivial
  | rangeFunc f ps a b => trivial

theorem step_R (hpl : PlanOk C.P) (hF : ∀ f, F f = (cFn C.P f).map .code) (hN : NamesOk C.P) {fr : Fr} {cs : List Fr} {M : Machine} (hr : Rel C cs0 f0 fr cs h ls M) : NRel C cs0 f0 M (step F fr cs h ls) := by
  obtain ⟨α, Λ, w, m, cfr, ccs, rfl, s, hm, hfr, hst⟩ := hr.it
  cases hfr with
  | @ret fk K e tmps todo ctodo defs ds hk hd he hsz => exact unwind_R F hF hN hk hd he hsz s hm hst
  | @run fk K e tmps todo ctodo defs ds hk hd he hsz ht =>
    cases ht with
    | nil => exact leave_R hk hd he hsz s hm hst (j := none) (.one (mv_end hk.round)) (fun id hj => by cases hj)
    | @cons i c k ck hi ht =>
      cases hi with
      | code c => exact code_R F hpl hk hd he hsz ht s hm hst c
      | inBlock id => exact ⟨_, .one mv_inBlock, ⟨α, Λ, w, m, _, _, rfl, s, hm, .run hk hd he hsz ht, hst⟩⟩
      | inLoop c =>
        obtain ⟨cfr, w', h1, h2, h3⟩ := push_R hpl (m := m) (ccs := ccs) hk hd he hsz c (.inLoop (cCode C.P fk.nt c) :: k) (.inLoop c :: ck) w s (.cons (.inLoop c) ht)
        exact ⟨_, .head mv_inLoop h1, ⟨α, Λ, w', m, _, _, rfl, h2, hm, h3, hst⟩⟩
  | @reg fk K e tmps todo ctodo defs ds ops chks rs L p hk hd hw hp ha he hsz ht =>
    show NRel C cs0 f0 _ (match runOps (chks.map .chk ++ rs) e h with
      | .fin e h => .go ⟨fk, e, todo, defs, .run⟩ cs h ls
      | .ctl c o rs e h => doCtl F fk e o rs todo defs cs h ls c
      | .bad n => .bad n fk.fn)
    rcases runOps_chks (rs := rs) (e := e) (h := h) chks with ⟨n, hb⟩ | ⟨hc1, hc2⟩
    · rw [hb]; trivial
    · rw [hc2]
      have hrun := run_ops (K := K) (ds := ds) (k := ctodo) (cs := ccs) (m := m) hw α Λ h w e tmps s hm hsz he (fun j hj => (hp j hj).ok hc1) ha
      cases hro : runOps rs e h with
      | bad n => trivial
      | fin e' h' =>
        rw [hro] at hrun
        obtain ⟨α', Λ', w', tmps', h1, h2, h3, h4, h5⟩ := hrun
        refine ⟨_, h1, ⟨α', Λ', w', m, _, _, rfl, h3, by have := h2.next; omega, .run hk (hd.mono h2.le) h4 h5 ht, hst.mono h2.le h2.keep⟩⟩
      | ctl c o rs' e' h' =>
        rw [hro] at hrun
        rcases hrun with ⟨n, rfl⟩ | ⟨α', Λ', w', tmps', i, L', oi, f, h1, h2, h3, h4, h5, rfl, h7, e0, h8, h9⟩
        · trivial
        · exact .of_steps h1 (ctl_R F hF hN hk (hd.mono h2.le) h4 ht h3 (by have := h2.next; omega) (hst.mono h2.le h2.keep) h7 h5 h8 h9)

theorem run_R (hpl : PlanOk C.P) (hF : ∀ f, F f = (cFn C.P f).map .code) (hN : NamesOk C.P) : ∀ (n : Nat) {fr : Fr} {cs : List Fr} {h : Hp} {ls : List LE} {M : Machine}, Rel C cs0 f0 fr cs h ls M → NRel C cs0 f0 M (run F n fr cs h ls)
  | 0, fr, cs, h, ls, M, hr => ⟨M, .refl _ _, hr⟩
  | n + 1, fr, cs, h, ls, M, hr => by
    have h1 := step_R F hpl hF hN hr
    have h0 : run F (n + 1) fr cs h ls = Nx.rec (motive := fun _ => Nx) (fun fr cs h ls => run F n fr cs h ls) (fun v h => .done v h) (fun a b => .bad a b) (step F fr cs h ls) := rfl
    rw [h0]
    cases hs : step F fr cs h ls with
    | go fr' cs' h' ls' =>
      rw [hs] at h1
      obtain ⟨M', h2, h3⟩ := h1
      exact .of_steps h2 (run_R hpl hF hN n h3)
    | done v h' => rw [hs] at h1; exact h1
    | bad a b => trivial

/-- what stood below stays -/
def Kept (w w' : World) : Prop := w.heap.size ≤ w'.heap.size ∧ (∀ i, i < w.heap.size → w'.heap[i]? = w.heap[i]?) ∧ Still w w'

/-- a function of no arguments that says true, by its text -/
theorem calls_true {P : Program} (hpl : PlanOk P) (hN : NamesOk P) {n f : Nat} (hrun : isTrue (runFn P n f []) = true) (w : World) :
    Calls P f #[] w fun
      | .returned v, w' => v = .bool true ∧ Kept w w'
      | _, _ => False := by
  intro cs0
  unfold runFn at hrun
  cases hc : cFn P f with
  | none => simp [hc, isTrue] at hrun
  | some fn =>
    simp only [hc] at hrun
    let C : Cx := ⟨P, w, w.heap.size⟩
    have s0 : Sim C (fun _ => none) (fun _ => False) startH [] w := by
      have no : ∀ (a : Pa) (L : Loc), (fun _ => none : AM) a = some L → False := fun a L h => by cases h
      exact { dom := fun a L h => (no a L h).elim, blk := fun a L h => (no a L h).elim, inj := fun a _ L _ h => (no a L h).elim, live := fun a L h => (no a L h).elim, wr := fun a L _ h => (no a L h).elim,
              low := fun i _ => rfl, size := Nat.le_refl _, still := Still.refl w, fresh := fun a _ => by (show T.E.get a = none); cases a <;> rfl, lsdom := fun a x h => by (simp [findLE] at h) }
    have hen := enter_R (C := C) (α := fun _ => none) (h := startH) (m := 0) (f := f) hc (args := []) (cargs := []) .nil false
    have hrel : Rel C cs0 f (enter fn f [] false) [] startH [] (lone (Frame.enter P f #[] .normal) cs0 w) :=
      ⟨_, _, w, 0, _, _, rfl, s0, Nat.zero_le _, hen.1, by rw [hen.2.1, hen.2.2]; exact .nil 0⟩
    have hres := run_R (C := C) (cs0 := cs0) (f0 := f) (fun i => (cFn P i).map .code) hpl (fun _ => rfl) hN n hrel
    generalize run (fun i => (cFn P i).map .code) n (enter fn f [] false) [] startH [] = r at hrun hres
    cases r with
    | go => simp [isTrue] at hrun
    | bad => simp [isTrue] at hrun
    | done v h' =>
      simp only [isTrue] at hrun
      cases v <;> simp at hrun
      subst hrun
      obtain ⟨cfr, w', c, α', Λ', ls', h1, h2, h3, h4, h5⟩ := hres
      cases h5
      exact ⟨.returned (.bool true), w', cfr, ⟨rfl, h4.size, fun i hi => h4.low i hi, h4.still⟩, h1, h2, h3⟩
end Go.Ev
