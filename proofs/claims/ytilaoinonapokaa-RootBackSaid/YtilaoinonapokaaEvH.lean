/- A program of this law is run by an evaluator that is proved right: a run that is cut into pieces; functions told by contracts. It holds for every program of the model. -/
import Derived.Test.YtilaoinonapokaaEvG
import Derived.Below
import Derived.Shelf.Strings.Repeat
namespace Go.Ev
variable {C : Cx} {ls : List LE} {cs0 : List Frame} {f0 : Nat} {α : AM} {Λ : Pa → Prop} {h h' : Hp} {w : World}

/-- memory of which some blocks have been forgotten -/
structure Less (h' h : Hp) : Prop where
  next : h'.next = h.next
  get : ∀ a b, h'.get a = some b → h.get a = some b

theorem Sim.less (s : Sim C α Λ h ls w) (hl : Less h' h) : Sim C α (fun a => Λ a ∧ ∃ b, h'.get a = some b) h' ls w where
  dom := fun a L ha => by rw [hl.next]; exact s.dom a L ha
  blk := fun a L ha hΛ => by
    obtain ⟨b, hb⟩ := hΛ.2
    obtain ⟨c, h1, h2⟩ := s.blk a L ha hΛ.1
    rw [hl.get a b hb] at h1; cases h1
    exact ⟨b, hb, h2⟩
  inj := fun a a' L L' ha ha' hΛ hΛ' => s.inj a a' L L' ha ha' hΛ.1 hΛ'.1
  live := fun a L b ha hb => (s.live a L b ha (hl.get a b hb)).imp (fun h => ⟨h, b, hb⟩) id
  wr := fun a L b ha hΛ hb => s.wr a L b ha hΛ.1 (hl.get a b hb)
  low := s.low
  size := s.size
  still := s.still
  fresh := fun a ha => by
    cases hg : h'.get a with
    | none => rfl
    | some b =>
      rw [hl.next] at ha
      have := hl.get a b hg
      rw [s.fresh a ha] at this; cases this
  lsdom := fun a x hx => by rw [hl.next]; exact s.lsdom a x hx

/-- of the loops' texts some may be forgotten: those of loops that are -/
structure LsLess (ls' ls : List LE) (h : Hp) : Prop where
  sub : ∀ a x, findLE a ls' = some x → findLE a ls = some x
  loops : ∀ a r y, h.get a = some (.loop r) → findLE a ls = some y → findLE a ls' = some y

theorem Sim.lessLs {ls' : List LE} (s : Sim C α Λ h ls w) (hl : LsLess ls' ls h) : Sim C α Λ h ls' w where
  dom := s.dom
  blk := fun a L ha hΛ => by
    obtain ⟨b, h1, h2⟩ := s.blk a L ha hΛ
    refine ⟨b, h1, ?_⟩
    cases b with
    | cells l d => exact h2
    | ro l => exact h2
    | map es c => exact h2
    | dfr l => exact h2
    | loop r =>
      obtain ⟨x, g1, g2, g3, g4, g5, g6, g7, g8, y, g9, g10⟩ := h2
      exact ⟨x, g1, g2, g3, g4, g5, g6, g7, g8, y, hl.loops a r y h1 g9, g10⟩
  inj := s.inj
  live := s.live
  wr := s.wr
  low := s.low
  size := s.size
  still := s.still
  fresh := s.fresh
  lsdom := fun a x hx => s.lsdom a x (hl.sub a x hx)

/-- not within a region -/
def calmTop (fr : Fr) : Bool :=
  match fr.todo with
  | .reg _ :: _ => false
  | _ => true

theorem Rel.less {fr : Fr} {cs : List Fr} {M : Machine} {ls' : List LE} (hr : Rel C cs0 f0 fr cs h ls M) (hl : Less h' h) (hls : LsLess ls' ls h') (hc : calmTop fr = true) : Rel C cs0 f0 fr cs h' ls' M := by
  obtain ⟨α, Λ, w, m, cfr, ccs, h1, s, hm, hfr, hst⟩ := hr.it
  refine ⟨⟨α, _, w, m, cfr, ccs, h1, (s.less hl).lessLs hls, by rw [hl.next]; exact hm, ?_, hst⟩⟩
  cases hfr with
  | run hk hd he hs ht => exact .run hk hd he hs ht
  | reg => simp [calmTop] at hc
  | out hk hd he hmd => exact .out hk hd he hmd

/-! ## a run that is cut into pieces -/
structure St where
  fr : Fr
  cs : List Fr
  h : Hp
  ls : List LE

/-- from a state to the next one: the pieces of a run -/
structure Leads (P : Program) (a b : St) : Prop where
  it : ∀ (C : Cx) (cs0 : List Frame) (f0 : Nat) (M : Machine), C.P = P → Rel C cs0 f0 a.fr a.cs a.h a.ls M → ∃ M', Steps P M M' ∧ Rel C cs0 f0 b.fr b.cs b.h b.ls M'

theorem Leads.trans {P : Program} {a b c : St} (h1 : Leads P a b) (h2 : Leads P b c) : Leads P a c :=
  ⟨fun C cs0 f0 M hC hr => by
    obtain ⟨M1, s1, r1⟩ := h1.it C cs0 f0 M hC hr
    obtain ⟨M2, s2, r2⟩ := h2.it C cs0 f0 M1 hC r1
    exact ⟨M2, s1.trans s2, r2⟩⟩

theorem leads {P : Program} (hN : namesOk P = true) {F : Nat → Option FnI} (hF : FOk P F) {a b : St} {n : Nat} {h' : Hp} {ls' : List LE}
    (hrun : run F n a.fr a.cs a.h a.ls = .go b.fr b.cs h' ls') (hl : Less b.h h') (hls : LsLess b.ls ls' b.h) (hc : calmTop b.fr = true) : Leads P a b :=
  ⟨fun C cs0 f0 M hC hr => by
    subst hC
    have h1 := run_R F (plan_ok C.P) hF (namesOk_ok hN) n hr
    rw [hrun] at h1
    obtain ⟨M', s1, r1⟩ := h1
    exact ⟨M', s1, r1.less hl hls hc⟩⟩
end Go.Ev

namespace Go.Ev
mutual
def vEq : V → V → Bool
  | .bool a, y => match y with | .bool b => bEq a b | _ => false
  | .int k a, y => match y with | .int k' b => kEq k k' && iEq a b | _ => false
  | .str a, y => match y with | .str b => sEq a b | _ => false
  | .ptr a o, y => match y with | .ptr b p => a.beq b && Nat.beq o p | _ => false
  | .sl a o n c, y => match y with | .sl b p m d => (a.beq b && Nat.beq o p) && (Nat.beq n m && capEq c d) | _ => false
  | .agg a, y => match y with | .agg b => vEqs a b | _ => false
  | .tup a, y => match y with | .tup b => vEqs a b | _ => false
  | .no k, y => match y with | .no j => nkEq k j | _ => false
  | .map a, y => match y with | .map b => a.beq b | _ => false
  | .fn f a, y => match y with | .fn g b => Nat.beq f g && vEqs a b | _ => false
  | .yld a, y => match y with | .yld b => a.beq b | _ => false
  | .iface t v, y => match y with | .iface u w => Nat.beq t u && vEq v w | _ => false
def vEqs : List V → List V → Bool
  | [], y => match y with | [] => true | _ :: _ => false
  | a :: l, y => match y with | b :: m => vEq a b && vEqs l m | [] => false
end
mutual
theorem vEq_eq : ∀ {a b : V}, vEq a b = true → a = b
  | .bool a, y, h => by cases y <;> simp only [vEq] at h <;> (try (cases h; done)); rw [bEq_iff] at h; simp at h; rw [h]
  | .int k a, y, h => by
    cases y <;> simp only [vEq, Bool.and_eq_true] at h <;> (try (cases h; done))
    obtain ⟨h1, h2⟩ := h
    rw [iEq_eq] at h2
    simp at h2; rw [kEq_iff h1, h2]
  | .str a, y, h => by cases y <;> simp only [vEq] at h <;> (try (cases h; done)); rw [sEq_same h]
  | .ptr a o, y, h => by
    cases y <;> simp only [vEq, Bool.and_eq_true] at h <;> (try (cases h; done))
    rw [(Pa.beq_iff _ _).1 h.1, Nat.eq_of_beq_eq_true h.2]
  | .sl a o n c, y, h => by
    cases y <;> simp only [vEq, Bool.and_eq_true] at h <;> (try (cases h; done))
    obtain ⟨⟨h1, h2⟩, h3, h4⟩ := h
    rw [(Pa.beq_iff _ _).1 h1, Nat.eq_of_beq_eq_true h2, Nat.eq_of_beq_eq_true h3, capEq_eq h4]
  | .agg a, y, h => by cases y <;> simp only [vEq] at h <;> (try (cases h; done)); rw [vEqs_eq h]
  | .tup a, y, h => by cases y <;> simp only [vEq] at h <;> (try (cases h; done)); rw [vEqs_eq h]
  | .no k, y, h => by cases y <;> simp only [vEq] at h <;> (try (cases h; done)); rw [nkEq_eq h]
  | .map a, y, h => by cases y <;> simp only [vEq] at h <;> (try (cases h; done)); rw [(Pa.beq_iff _ _).1 h]
  | .fn f a, y, h => by
    cases y <;> simp only [vEq, Bool.and_eq_true] at h <;> (try (cases h; done))
    rw [Nat.eq_of_beq_eq_true h.1, vEqs_eq h.2]
  | .yld a, y, h => by cases y <;> simp only [vEq] at h <;> (try (cases h; done)); rw [(Pa.beq_iff _ _).1 h]
  | .iface t v, y, h => by
    cases y <;> simp only [vEq, Bool.and_eq_true] at h <;> (try (cases h; done))
    rw [Nat.eq_of_beq_eq_true h.1, vEq_eq h.2]
theorem vEqs_eq : ∀ {a b : List V}, vEqs a b = true → a = b
  | [], y, h => by cases y <;> simp [vEqs] at h; rfl
  | a :: l, y, h => by
    cases y with
    | nil => simp [vEqs] at h
    | cons b m =>
      simp only [vEqs, Bool.and_eq_true] at h
      rw [vEq_eq h.1, vEqs_eq h.2]
end
end Go.Ev

namespace Go.Ev
noncomputable section
/-! ## names for what a state is made of -/
/-- the way to a block or a slot, by its number -/
def pa! (n : Nat) : Pa :=
  Nat.rec (motive := fun _ => Nat → Pa) (fun _ => .z)
    (fun _ ih k => bif Nat.beq k 0 then .z else bif Nat.beq (Nat.mod k 2) 1 then .l (ih (Nat.div k 2)) else .r (ih (Nat.sub (Nat.div k 2) 1))) 64 n

def follow : Pa → IC Blk → IC Blk
  | .z, c => c
  | .l p, c => match c with
    | .seq a _ => follow p a
    | .cond _ a _ => follow p a
    | .block _ a => follow p a
    | .loop a => follow p a
    | .rangeFunc _ _ a _ => follow p a
    | _ => .bad
  | .r p, c => match c with
    | .seq _ b => follow p b
    | .cond _ _ b => follow p b
    | .rangeFunc _ _ _ b => follow p b
    | _ => .bad
def dropL : Nat → List (RS Blk) → List (RS Blk)
  | 0, l => l
  | n + 1, l => match l with
    | [] => []
    | _ :: l => dropL n l
def regOf : IC Blk → List (RS Blk)
  | .region rs => rs
  | _ => []
def codeAt (P : Program) (f : Nat) (p : Pa) : IC Blk :=
  match cFn P f with
  | some fn => follow p fn.body
  | none => .bad
def regAt (P : Program) (f : Nat) (p : Pa) (n : Nat) : List (RS Blk) := dropL n (regOf (codeAt P f p))
end

/-! ## states held against each other -/
def optEq {α : Type} (e : α → α → Bool) : Option α → Option α → Bool
  | none, y => match y with | none => true | some _ => false
  | some a, y => match y with | some b => e a b | none => false
theorem optEq_eq {α : Type} {e : α → α → Bool} (he : ∀ a b, e a b = true → a = b) {x y : Option α} (h : optEq e x y = true) : x = y := by
  cases x <;> cases y <;> simp only [optEq] at h <;> (try (cases h; done))
  · rfl
  · rw [he _ _ h]
def listEq {α : Type} (e : α → α → Bool) : List α → List α → Bool
  | [], y => match y with | [] => true | _ :: _ => false
  | a :: l, y => match y with | b :: m => bif e a b then listEq e l m else false | [] => false
theorem listEq_eq {α : Type} {e : α → α → Bool} (he : ∀ a b, e a b = true → a = b) : ∀ {x y : List α}, listEq e x y = true → x = y
  | [], y, h => by cases y <;> simp [listEq] at h; rfl
  | a :: l, y, h => by
    cases y with
    | nil => simp [listEq] at h
    | cons b m =>
      simp only [listEq, Bool.cond_eq_ite] at h
      split at h
      · rename_i h1
        rw [he _ _ h1, listEq_eq he h]
      · cases h
def tvEq : T V → T V → Bool
  | .E, y => match y with | .E => true | .N _ _ _ => false
  | .N v l r, y => match y with
    | .N w l' r' => bif optEq vEq v w then (bif tvEq l l' then tvEq r r' else false) else false
    | .E => false
theorem tvEq_eq : ∀ {x y : T V}, tvEq x y = true → x = y
  | .E, y, h => by cases y <;> simp [tvEq] at h; rfl
  | .N v l r, y, h => by
    cases y with
    | E => simp [tvEq] at h
    | N w l' r' =>
      simp only [tvEq, Bool.cond_eq_ite] at h
      split at h
      · rename_i h1
        split at h
        · rename_i h2
          rw [optEq_eq (fun _ _ => vEq_eq) h1, tvEq_eq h2, tvEq_eq h]
        · cases h
      · cases h
def lsNum : LoopState → Nat
  | .ready => 0 | .busy => 1 | .done => 2 | .exhausted => 3
def jEq : Jump → Jump → Bool
  | .ret, y => match y with | .ret => true | .exit _ => false
  | .exit a, y => match y with | .exit b => Nat.beq a b | .ret => false
theorem jEq_eq {x y : Jump} (h : jEq x y = true) : x = y := by
  cases x <;> cases y <;> simp only [jEq] at h <;> (try (cases h; done))
  · rfl
  · rw [Nat.eq_of_beq_eq_true h]
def loopEq (a b : ALoop) : Bool :=
  bif Nat.beq (lsNum a.state) (lsNum b.state) then
    bif optEq jEq a.pending b.pending then
      bif Nat.beq a.fn b.fn then
        bif Nat.beq a.nt b.nt then
          bif listEq Pa.beq a.params b.params then tvEq a.env b.env else false
        else false
      else false
    else false
  else false
theorem lsNum_eq {a b : LoopState} (h : Nat.beq (lsNum a) (lsNum b) = true) : a = b := by
  cases a <;> cases b <;> simp [lsNum] at h <;> rfl
theorem paEq_eq (a b : Pa) (h : a.beq b = true) : a = b := (Pa.beq_iff _ _).1 h
theorem loopEq_eq {a b : ALoop} (h : loopEq a b = true) : a = b := by
  cases a; cases b
  simp only [loopEq, Bool.cond_eq_ite] at h
  split at h <;> (try (cases h; done))
  rename_i h1
  split at h <;> (try (cases h; done))
  rename_i h2
  split at h <;> (try (cases h; done))
  rename_i h3
  split at h <;> (try (cases h; done))
  rename_i h4
  split at h <;> (try (cases h; done))
  rename_i h5
  have := lsNum_eq h1; subst this
  have := optEq_eq (fun _ _ => jEq_eq) h2; subst this
  have := Nat.eq_of_beq_eq_true h3; subst this
  have := Nat.eq_of_beq_eq_true h4; subst this
  have := listEq_eq paEq_eq h5; subst this
  have := tvEq_eq h; subst this
  rfl
def entEq (a b : V × V × Nat) : Bool := bif vEq a.1 b.1 then (bif vEq a.2.1 b.2.1 then Nat.beq a.2.2 b.2.2 else false) else false
theorem entEq_eq (a b : V × V × Nat) (h : entEq a b = true) : a = b := by
  obtain ⟨a, b', c⟩ := a
  obtain ⟨d, e, f⟩ := b
  simp only [entEq, Bool.cond_eq_ite] at h
  split at h <;> (try (cases h; done))
  rename_i h1
  split at h <;> (try (cases h; done))
  rename_i h2
  rw [vEq_eq h1, vEq_eq h2, Nat.eq_of_beq_eq_true h]
def blkEq : Blk → Blk → Bool
  | .cells l d, y => match y with | .cells m e => bif bEq d e then listEq vEq l m else false | _ => false
  | .ro l, y => match y with | .ro m => listEq vEq l m | _ => false
  | .map es c, y => match y with | .map fs k => bif Nat.beq c k then listEq entEq es fs else false | _ => false
  | .loop a, y => match y with | .loop b => loopEq a b | _ => false
  | .dfr a, y => match y with | .dfr b => bEq a b | _ => false
theorem blkEq_eq (x y : Blk) (h : blkEq x y = true) : x = y := by
  cases x <;> cases y <;> simp only [blkEq, Bool.cond_eq_ite] at h <;> (try (cases h; done))
  · split at h <;> (try (cases h; done))
    rename_i h1
    rw [bEq_iff] at h1
    simp at h1; rw [h1, listEq_eq (fun _ _ => vEq_eq) h]
  · rw [listEq_eq (fun _ _ => vEq_eq) h]
  · split at h <;> (try (cases h; done))
    rename_i h1
    rw [Nat.eq_of_beq_eq_true h1, listEq_eq entEq_eq h]
  · rw [loopEq_eq h]
  · rw [bEq_iff] at h; simp at h; rw [h]
def oLess : Option Blk → Option Blk → Bool
  | none, _ => true
  | some a, y => match y with | some b => blkEq a b | none => false
/-- what the first has, the other one has -/
def tLess : T Blk → T Blk → Bool
  | .E, _ => true
  | .N v l r, y => match y with
    | .N w l' r' => bif oLess v w then (bif tLess l l' then tLess r r' else false) else false
    | .E => false
theorem tLess_get : ∀ {x y : T Blk}, tLess x y = true → ∀ p b, x.get p = some b → y.get p = some b
  | .E, y, _, p, b, hb => by cases p <;> cases hb
  | .N v l r, y, h, p, b, hb => by
    cases y with
    | E => simp [tLess] at h
    | N w l' r' =>
      simp only [tLess] at h
      cases h1 : oLess v w with
      | false => rw [h1] at h; cases h
      | true =>
        cases h2 : tLess l l' with
        | false => rw [h1, h2] at h; cases h
        | true =>
          cases h3 : tLess r r' with
          | false => rw [h1, h2, h3] at h; cases h
          | true =>
            cases p with
            | z =>
              change v = some b at hb
              subst hb
              change w = some b
              cases w with
              | none => cases h1
              | some c => rw [blkEq_eq _ _ h1]
            | l p => exact tLess_get (x := l) h2 p b hb
            | r p => exact tLess_get (x := r) h3 p b hb
def hLess (a b : Hp) : Bool := bif a.next.beq b.next then tLess a.t b.t else false
theorem hLess_ok {a b : Hp} (h : hLess a b = true) : Less a b := by
  simp only [hLess, Bool.cond_eq_ite] at h
  split at h <;> (try (cases h; done))
  rename_i h1
  exact ⟨paEq_eq _ _ h1, fun p b hb => tLess_get h p b hb⟩

/-! ## frames: what they hold, by a check; their texts, by equality -/
def itemB : Item → Item → Bool
  | .code _, y => match y with | .code _ => true | _ => false
  | .inBlock i, y => match y with | .inBlock j => Nat.beq i j | _ => false
  | .inLoop _, y => match y with | .inLoop _ => true | _ => false
  | .reg _, y => match y with | .reg _ => true | _ => false
  | .inRF l, y => match y with | .inRF m => l.beq m | _ => false
  | .endRF l, y => match y with | .endRF m => l.beq m | _ => false
  | .begin, y => match y with | .begin => true | _ => false
def itemC : Item → IC Blk
  | .code c => c
  | .inLoop c => c
  | .reg rs => .region rs
  | _ => .skip
theorem item_eq {x y : Item} (h : itemB x y = true) (hc : itemC x = itemC y) : x = y := by
  cases x <;> cases y <;> simp only [itemB] at h <;> (try (cases h; done)) <;> simp only [itemC] at hc
  · rw [hc]
  · rw [Nat.eq_of_beq_eq_true h]
  · rw [hc]
  · cases hc; rfl
  · rw [paEq_eq _ _ h]
  · rw [paEq_eq _ _ h]
  · rfl
def itemsB : List Item → List Item → Bool
  | [], y => match y with | [] => true | _ :: _ => false
  | a :: l, y => match y with | b :: m => bif itemB a b then itemsB l m else false | [] => false
def codesI : List Item → List (IC Blk) → List (IC Blk)
  | [], k => k
  | i :: t, k => itemC i :: codesI t k
theorem items_eq : ∀ {x y : List Item} {k m : List (IC Blk)}, itemsB x y = true → codesI x k = codesI y m → x = y ∧ k = m
  | [], y, k, m, h, hc => by cases y <;> simp [itemsB] at h; exact ⟨rfl, hc⟩
  | a :: l, y, k, m, h, hc => by
    cases y with
    | nil => simp [itemsB] at h
    | cons b y =>
      simp only [itemsB] at h
      cases h1 : itemB a b with
      | false => rw [h1] at h; cases h
      | true =>
        rw [h1] at h
        simp only [codesI, List.cons.injEq] at hc
        obtain ⟨h2, h3⟩ := items_eq (x := l) h hc.2
        exact ⟨by rw [item_eq h1 hc.1, h2], h3⟩
def defB : Def → Def → Bool
  | .call f a, y => match y with | .call g b => bif Nat.beq f g then vEqs a b else false | _ => false
  | .mark a, y => match y with | .mark b => a.beq b | _ => false
theorem defB_eq (x y : Def) (h : defB x y = true) : x = y := by
  cases x <;> cases y <;> simp only [defB] at h <;> (try (cases h; done))
  · rename_i f a g b
    cases h1 : Nat.beq f g with
    | false => rw [h1] at h; cases h
    | true => rw [h1] at h; rw [Nat.eq_of_beq_eq_true h1, vEqs_eq h]
  · rw [paEq_eq _ _ h]
def modeB : Mode → Mode → Bool
  | .run, y => match y with | .run => true | _ => false
  | .returning, y => match y with | .returning => true | _ => false
  | .panicking v r, y => match y with | .panicking w q => bif vEq v w then bEq r q else false | _ => false
theorem modeB_eq (x y : Mode) (h : modeB x y = true) : x = y := by
  cases x <;> cases y <;> simp only [modeB] at h <;> (try (cases h; done))
  · rfl
  · rfl
  · rename_i v r w q
    cases h1 : vEq v w with
    | false => rw [h1] at h; cases h
    | true =>
      rw [h1] at h
      have h2 : bEq r q = true := h
      rw [bEq_iff] at h2; simp at h2
      rw [vEq_eq h1, h2]
def fkB (a b : FK) : Bool :=
  match a with
  | ⟨f, n, d, r⟩ => match b with
    | ⟨f', n', d', r'⟩ => bif Nat.beq f f' then bif Nat.beq n n' then bif bEq d d' then optEq Pa.beq r r' else false else false else false
theorem fkB_eq {x y : FK} (h : fkB x y = true) : x = y := by
  obtain ⟨f, n, d, r⟩ := x
  obtain ⟨f', n', d', r'⟩ := y
  simp only [fkB, Bool.cond_eq_ite] at h
  split at h <;> (try (cases h; done))
  rename_i h1
  split at h <;> (try (cases h; done))
  rename_i h2
  split at h <;> (try (cases h; done))
  rename_i h3
  rw [bEq_iff] at h3; simp at h3
  rw [Nat.eq_of_beq_eq_true h1, Nat.eq_of_beq_eq_true h2, h3, optEq_eq paEq_eq h]
def frB (a b : Fr) : Bool :=
  match a with
  | ⟨k, e, t, ds, m⟩ => match b with
    | ⟨k', e', t', ds', m'⟩ => bif fkB k k' then bif tvEq e e' then bif itemsB t t' then bif listEq defB ds ds' then modeB m m' else false else false else false else false
def codesFr (a : Fr) (k : List (IC Blk)) : List (IC Blk) :=
  match a with
  | ⟨_, _, t, _, _⟩ => codesI t k
theorem fr_eq {x y : Fr} {k m : List (IC Blk)} (h : frB x y = true) (hc : codesFr x k = codesFr y m) : x = y ∧ k = m := by
  obtain ⟨K, e, t, ds, md⟩ := x
  obtain ⟨K', e', t', ds', md'⟩ := y
  simp only [frB, Bool.cond_eq_ite] at h
  split at h <;> (try (cases h; done))
  rename_i h1
  split at h <;> (try (cases h; done))
  rename_i h2
  split at h <;> (try (cases h; done))
  rename_i h3
  split at h <;> (try (cases h; done))
  rename_i h4
  obtain ⟨h5, h6⟩ := items_eq h3 hc
  exact ⟨by rw [fkB_eq h1, tvEq_eq h2, h5, listEq_eq defB_eq h4, modeB_eq _ _ h], h6⟩
def frsB : List Fr → List Fr → Bool
  | [], y => match y with | [] => true | _ :: _ => false
  | a :: l, y => match y with | b :: m => bif frB a b then frsB l m else false | [] => false
def codesFrs : List Fr → List (IC Blk) → List (IC Blk)
  | [], k => k
  | a :: l, k => codesFr a (codesFrs l k)
theorem frs_eq : ∀ {x y : List Fr} {k m : List (IC Blk)}, frsB x y = true → codesFrs x k = codesFrs y m → x = y ∧ k = m
  | [], y, k, m, h, hc => by cases y <;> simp [frsB] at h; exact ⟨rfl, hc⟩
  | a :: l, y, k, m, h, hc => by
    cases y with
    | nil => simp [frsB] at h
    | cons b y =>
      simp only [frsB] at h
      cases h1 : frB a b with
      | false => rw [h1] at h; cases h
      | true =>
        rw [h1] at h
        obtain ⟨h2, h3⟩ := fr_eq h1 hc
        obtain ⟨h4, h5⟩ := frs_eq (x := l) h h3
        exact ⟨by rw [h2, h4], h5⟩
def lesB : List LE → List LE → Bool
  | [], y => match y with | [] => true | _ :: _ => false
  | a :: l, y => match y with
    | b :: m => match a with
      | ⟨i, _, _⟩ => match b with
        | ⟨j, _, _⟩ => bif i.beq j then lesB l m else false
    | [] => false
def codesLE : List LE → List (IC Blk)
  | [] => []
  | a :: l => match a with
    | ⟨_, c, d⟩ => c :: d :: codesLE l
theorem les_eq : ∀ {x y : List LE}, lesB x y = true → codesLE x = codesLE y → x = y
  | [], y, h, _ => by cases y <;> simp [lesB] at h; rfl
  | a :: l, y, h, hc => by
    cases y with
    | nil => simp [lesB] at h
    | cons b y =>
      obtain ⟨i, c, d⟩ := a
      obtain ⟨j, c', d'⟩ := b
      simp only [lesB] at h
      cases h1 : i.beq j with
      | false => rw [h1] at h; cases h
      | true =>
        rw [h1] at h
        simp only [codesLE, List.cons.injEq] at hc
        rw [paEq_eq _ _ h1, hc.1, hc.2.1, les_eq (x := l) h hc.2.2]
/-- the loops' texts that are kept -/
def memPa (i : Pa) : List Pa → Bool
  | [] => false
  | j :: l => bif i.beq j then true else memPa i l
def lsKeep (ids : List Pa) : List LE → List LE
  | [] => []
  | a :: l => match a with
    | ⟨i, c, d⟩ => bif memPa i ids then ⟨i, c, d⟩ :: lsKeep ids l else lsKeep ids l
def idsOf : List LE → List Pa
  | [] => []
  | a :: l => match a with
    | ⟨i, _, _⟩ => i :: idsOf l
theorem memPa_congr {i j : Pa} (h : i.beq j = true) (l : List Pa) : memPa i l = memPa j l := by rw [paEq_eq _ _ h]
theorem lsKeep_find {ids : List Pa} {a : Pa} : ∀ (l : List LE), findLE a (lsKeep ids l) = if memPa a ids = true then findLE a l else none
  | [] => by simp [lsKeep, findLE]
  | x :: l => by
    obtain ⟨i, c, d⟩ := x
    have ih := lsKeep_find (ids := ids) (a := a) l
    simp only [lsKeep]
    cases hm : memPa i ids with
    | true =>
      simp only [cond_true, findLE]
      cases hb : i.beq a with
      | true =>
        have := paEq_eq _ _ hb; subst this
        simp [hm]
      | false => simp only [cond_false, ih]
    | false =>
      simp only [cond_false, findLE, ih]
      cases hb : i.beq a with
      | true =>
        have := paEq_eq _ _ hb; subst this
        simp [hm]
      | false => simp
def isLoop : Option Blk → Bool
  | some b => match b with | .loop _ => true | _ => false
  | none => false
/-- each loop that is there is among these -/
def loopsIn (ids : List Pa) : T Blk → (Pa → Pa) → Bool
  | .E, _ => true
  | .N v l r, k => bif (bif isLoop v then memPa (k .z) ids else true) then (bif loopsIn ids l (fun p => k (.l p)) then loopsIn ids r (fun p => k (.r p)) else false) else false
theorem loopsIn_get {ids : List Pa} : ∀ {t : T Blk} {k : Pa → Pa}, loopsIn ids t k = true → ∀ p r, t.get p = some (.loop r) → memPa (k p) ids = true
  | .E, k, _, p, r, hg => by cases p <;> cases hg
  | .N v l r', k, h, p, r, hg => by
    simp only [loopsIn] at h
    cases h1 : (bif isLoop v then memPa (k .z) ids else true) with
    | false => rw [h1] at h; cases h
    | true =>
      cases h2 : loopsIn ids l (fun p => k (.l p)) with
      | false => rw [h1, h2] at h; cases h
      | true =>
        cases h3 : loopsIn ids r' (fun p => k (.r p)) with
        | false => rw [h1, h2, h3] at h; cases h
        | true =>
          cases p with
          | z =>
            change v = some (.loop r) at hg
            subst hg
            exact h1
          | l p => exact loopsIn_get (t := l) h2 p r hg
          | r p => exact loopsIn_get (t := r') h3 p r hg
theorem lsKeep_less {ids : List Pa} {ls ls' : List LE} {h : Hp} (he : lsKeep ids ls = ls') (hin : loopsIn ids h.t id = true) : LsLess ls' ls h where
  sub := fun a x hx => by
    rw [← he, lsKeep_find] at hx
    split at hx
    · exact hx
    · cases hx
  loops := fun a r y hg hy => by
    have : memPa a ids = true := loopsIn_get hin a r hg
    rw [← he, lsKeep_find, if_pos this]; exact hy
def codesSt (fr : Fr) (cs : List Fr) (ls : List LE) : List (IC Blk) := codesFr fr (codesFrs cs (codesLE ls))
/-- a run has come to no less than this state, but for the texts -/
def chkNx (b : St) : Nx → Bool
  | .go fr cs h ls => match b with
    | ⟨fr', cs', h', ls'⟩ => bif hLess h' h then bif calmTop fr' then bif frB fr' fr then bif frsB cs' cs then bif loopsIn (idsOf ls') h'.t id then lesB ls' (lsKeep (idsOf ls') ls) else false else false else false else false else false
  | _ => false
def codesNx (ids : List Pa) : Nx → List (IC Blk)
  | .go fr cs _ ls => codesSt fr cs (lsKeep ids ls)
  | _ => []

/-! ## the pieces -/
theorem leads_to {P : Program} (hN : namesOk P = true) {F : Nat → Option FnI} (hF : FOk P F) {a b : St} {n : Nat} {k : List (IC Blk)} (hk : codesSt b.fr b.cs b.ls = k)
    (hrun : (chkNx b (run F n a.fr a.cs a.h a.ls), codesNx (idsOf b.ls) (run F n a.fr a.cs a.h a.ls)) = (true, k)) : Leads P a b := by
  simp only [Prod.mk.injEq] at hrun
  obtain ⟨h1, h2⟩ := hrun
  rw [← hk] at h2
  generalize hr : run F n a.fr a.cs a.h a.ls = r at h1 h2
  cases r with
  | done v h => cases h1
  | bad x y => cases h1
  | go fr cs h ls =>
    obtain ⟨fr', cs', h', ls'⟩ := b
    simp only [chkNx, Bool.cond_eq_ite] at h1
    split at h1 <;> (try (cases h1; done))
    rename_i g1
    split at h1 <;> (try (cases h1; done))
    rename_i g2
    split at h1 <;> (try (cases h1; done))
    rename_i g3
    split at h1 <;> (try (cases h1; done))
    rename_i g4
    split at h1 <;> (try (cases h1; done))
    rename_i g5
    obtain ⟨e1, h3⟩ := fr_eq g3 h2.symm
    obtain ⟨e2, h4⟩ := frs_eq g4 h3
    have e3 := les_eq h1 h4
    subst e1; subst e2
    exact leads hN hF hr (hLess_ok g1) (lsKeep_less e3.symm g5) g2

/-- where a function without arguments begins -/
noncomputable def st0 (P : Program) (f : Nat) : St :=
  match cFn P f with
  | some fn => ⟨enter fn f [] false, [], startH, []⟩
  | none => ⟨⟨⟨f, 0, false, none⟩, .E, [], [], .run⟩, [], startH, []⟩

noncomputable def hasFn (P : Program) (f : Nat) : Bool :=
  match cFn P f with
  | some _ => true
  | none => false

/-- the law of a closed function that has been run in pieces -/
theorem pieces_true {P : Program} (hN : namesOk P = true) {F : Nat → Option FnI} (hF : FOk P F) {f n : Nat} {b : St} (hf : hasFn P f = true) (hl : Leads P (st0 P f) b)
    (hrun : isTrue (run F n b.fr b.cs b.h b.ls) = true) (w : World) :
    Calls P f #[] w fun
      | .returned v, w' => v = .bool true ∧ Kept w w'
      | _, _ => False := by
  intro cs0
  cases hc : cFn P f with
  | none => simp [hasFn, hc] at hf
  | some fn =>
    have e0 : st0 P f = ⟨enter fn f [] false, [], startH, []⟩ := by unfold st0; rw [hc]
    rw [e0] at hl
    let C : Cx := ⟨P, w, w.heap.size⟩
    have s0 : Sim C (fun _ => none) (fun _ => False) startH [] w := by
      have no : ∀ (a : Pa) (L : Loc), (fun _ => none : AM) a = some L → False := fun a L h => by cases h
      exact { dom := fun a L h => (no a L h).elim, blk := fun a L h => (no a L h).elim, inj := fun a _ L _ h => (no a L h).elim, live := fun a L _ h => (no a L h).elim, wr := fun a L _ h => (no a L h).elim,
              low := fun i _ => rfl, size := Nat.le_refl _, still := Still.refl w, fresh := fun a _ => by (show T.E.get a = none); cases a <;> rfl, lsdom := fun a x h => by (simp [findLE] at h) }
    have hen := enter_R (C := C) (α := fun _ => none) (h := startH) (m := 0) (f := f) hc (args := []) (cargs := []) .nil false
    have hrel : Rel C cs0 f (enter fn f [] false) [] startH [] (lone (Frame.enter P f #[] .normal) cs0 w) :=
      ⟨_, _, w, 0, _, _, rfl, s0, Nat.zero_le _, hen.1, by rw [hen.2.1, hen.2.2]; exact .nil 0⟩
    obtain ⟨M', hs, hr⟩ := hl.it C cs0 f _ rfl hrel
    have hres := run_R (C := C) (cs0 := cs0) (f0 := f) F (plan_ok P) hF (namesOk_ok hN) n hr
    generalize run F n b.fr b.cs b.h b.ls = r at hrun hres
    cases r with
    | go => simp [isTrue] at hrun
    | bad => simp [isTrue] at hrun
    | done v h' =>
      simp only [isTrue] at hrun
      cases v <;> simp at hrun
      subst hrun
      have hres := NRel.of_steps hs hres
      obtain ⟨cfr, w', c, α', Λ', ls', h1, h2, h3, h4, h5⟩ := hres
      cases h5
      exact ⟨.returned (.bool true), w', cfr, ⟨rfl, h4.size, fun i hi => h4.low i hi, h4.still⟩, h1, h2, h3⟩

/-! ## short words for states that are written out -/
namespace Lit
noncomputable section
def p (n : Nat) : Pa := pa! n
def st (n x : Nat) : List UInt8 := Nat.rec (motive := fun _ => Nat → List UInt8) (fun _ => []) (fun _ ih y => UInt8.ofNat (Nat.mod y 256) :: ih (Nat.div y 256)) n x
def us (n x : Nat) : List V := Nat.rec (motive := fun _ => Nat → List V) (fun _ => []) (fun _ ih y => .int .u8 (.ofNat (Nat.mod y 256)) :: ih (Nat.div y 256)) n x
def ptr (a o : Nat) : V := .ptr (pa! a) o
def sl (a o n c : Nat) : V := .sl (pa! a) o n (.ex c)
end
def i8 (n : Nat) : V := .int .i8 (.ofNat n)
def i16 (n : Nat) : V := .int .i16 (.ofNat n)
def i32 (n : Nat) : V := .int .i32 (.ofNat n)
def i64 (n : Nat) : V := .int .i64 (.ofNat n)
def u8 (n : Nat) : V := .int .u8 (.ofNat n)
def u16 (n : Nat) : V := .int .u16 (.ofNat n)
def u32 (n : Nat) : V := .int .u32 (.ofNat n)
def u64 (n : Nat) : V := .int .u64 (.ofNat n)
def tt : V := .bool true
def ff : V := .bool false
def tn : V := .tup []
def ce (l : List V) : Blk := .cells l false
def e {α : Type} : T α := .E
def o {α : Type} (x : α) : T α := .N (some x) .E .E
def n {α : Type} (x : α) (l r : T α) : T α := .N (some x) l r
def m {α : Type} (l r : T α) : T α := .N none l r
noncomputable section
/-- a leaf set or struck out; the way to it is reckoned at once -/
def setS {α : Type} (x : Option α) (p : Pa) : T α → T α :=
  Pa.rec (motive := fun _ => T α → T α)
    (fun t => T.casesOn (motive := fun _ => T α) t (.N x .E .E) (fun _ l r => .N x l r))
    (fun _ ih t => T.casesOn (motive := fun _ => T α) t (T.casesOn (motive := fun _ => T α) (ih .E) .E (fun v l r => .N none (.N v l r) .E))
      (fun v0 l0 r0 => T.casesOn (motive := fun _ => T α) (ih l0) .E (fun v l r => .N v0 (.N v l r) r0)))
    (fun _ ih t => T.casesOn (motive := fun _ => T α) t (T.casesOn (motive := fun _ => T α) (ih .E) .E (fun v l r => .N none .E (.N v l r)))
      (fun v0 l0 r0 => T.casesOn (motive := fun _ => T α) (ih r0) .E (fun v l r => .N v0 l0 (.N v l r)))) p
def nextT (k : T Blk → T Blk) (t : T Blk) : T Blk := k t
def force (k : T Blk → T Blk) (t : T Blk) : T Blk := T.casesOn (motive := fun _ => T Blk) t (nextT k .E) (fun v l r => nextT k (.N v l r))
/-- memory, turned and forgotten in part -/
def upd (l : List (Nat × Blk)) : T Blk → T Blk :=
  List.rec (motive := fun _ => T Blk → T Blk) (fun t => t) (fun a _ ih t => Prod.casesOn (motive := fun _ => T Blk) a fun i b => force ih (setS (some b) (pa! i) t)) l
def del (l : List Nat) : T Blk → T Blk :=
  List.rec (motive := fun _ => T Blk → T Blk) (fun t => t) (fun i _ ih t => force ih (setS none (pa! i) t)) l
end
end Lit
end Go.Ev

namespace Go.Ev
open Go.RowKit (Below)
variable {C : Cx} {ls : List LE} {α : AM} {Λ : Pa → Prop} {h : Hp} {w : World}

/-- what has come behind all that was there does not matter -/
theorem Sim.below {w' : World} (s : Sim C α Λ h ls w) (hb : Below w.heap.size w w') : Sim C α Λ h ls w' where
  dom := s.dom
  blk := fun a L ha hΛ => let ⟨b, h1, h2⟩ := s.blk a L ha hΛ; ⟨b, h1, h2.mono (AM.le_refl α) (fun _ _ h => h) (hb.block _ (s.lt ha hΛ))⟩
  inj := s.inj
  live := s.live
  wr := s.wr
  low := fun i hi => by rw [hb.block i (Nat.lt_of_lt_of_le hi s.size)]; exact s.low i hi
  size := Nat.le_trans s.size hb.size
  still := s.still.trans ⟨hb.os, hb.output⟩
  fresh := s.fresh
  lsdom := s.lsdom

theorem repB_eq (l : List UInt8) : ∀ n, repB l n = Go.Lib.repeatL l n
  | 0 => rfl
  | n + 1 => by rw [repB, Go.Lib.repeatL, repB_eq l n]

theorem rep_ok {P : Program} {f : Nat} (hc : ∀ (s : ByteArray) (c : Nat) (w : World), c ≤ 9223372036854775807 → s.size * c ≤ 140737488355328 →
    Calls P f #[.string s, .int .i64 c] w fun e w' => e = .returned (.string ⟨(Go.Lib.repeatL s.data.toList c).toArray⟩) ∧ Below w.heap.size w w') : IntrOk P f repI := by
  intro C α Λ h ls w args cargs v h' hC s ha hg
  cases ha with
  | nil => cases hg
  | cons x cx r cr hx hr =>
    cases hx <;> simp only [repI] at hg <;> (try (cases hg; done))
    rename_i b
    cases hr with
    | nil => cases hg
    | cons y cy r cr hy hr =>
      cases hr with
      | cons => cases hg
      | nil =>
        cases hy <;> simp only at hg <;> (try (cases hg; done))
        rename_i k i
        cases k <;> simp only at hg <;> (try (cases hg; done))
        cases i with
        | negSucc n => cases hg
        | ofNat n =>
          simp only at hg
          cases h1 : Nat.ble n 9223372036854775807 with
          | false => rw [h1] at hg; cases hg
          | true =>
            cases h2 : Nat.ble (Nat.mul b.data.toList.length n) 140737488355328 with
            | false => rw [h1, h2] at hg; cases hg
            | true =>
              rw [h1, h2] at hg
              simp only [cond_true, Option.some.injEq, Prod.mk.injEq] at hg
              obtain ⟨rfl, rfl⟩ := hg
              have h3 : b.size * n ≤ 140737488355328 := by
                have := Nat.le_of_ble_eq_true h2
                have e1 : b.data.toList.length = b.size := Array.length_toList
                rw [e1] at this; exact this
              refine (hc b n w (Nat.le_of_ble_eq_true h1) h3).mono fun e w' hh => ?_
              obtain ⟨rfl, hb⟩ := hh
              refine ⟨_, α, Λ, rfl, AM.le_refl α, s.below hb, ?_, fun a h1 h2 => absurd h1 h2, Nat.le_refl _⟩
              rw [repB_eq]
              exact VR.str (α := α) (⟨(Go.Lib.repeatL b.data.toList n).toArray⟩ : ByteArray)

theorem fnsOf_ok {P : Program} : ∀ (l : List (Nat × (List V → Hp → Option (V × Hp)))), (∀ p ∈ l, hasFn P p.1 = true ∧ IntrOk P p.1 p.2) → FOk P (fnsOf P l)
  | [], _ => fOk_code P
  | p :: r, hl => by
    have ih := fnsOf_ok r fun q hq => hl q (List.mem_cons_of_mem _ hq)
    obtain ⟨h1, h2⟩ := hl p (by simp)
    have he : ∀ i, fnsOf P (p :: r) i = bif Nat.beq p.1 i then some (.intr p.2) else fnsOf P r i := fun _ => rfl
    refine ⟨fun f i hf => ?_, fun f g hf => ?_⟩
    · rw [he] at hf
      cases hb : Nat.beq p.1 f with
      | true => simp [hb] at hf
      | false => simp only [hb, cond_false] at hf; exact ih.code f i hf
    · rw [he] at hf
      cases hb : Nat.beq p.1 f with
      | true =>
        have := Nat.eq_of_beq_eq_true hb; subst this
        simp only [hb, cond_true, Option.some.injEq, FnI.intr.injEq] at hf
        subst hf
        refine ⟨?_, h2⟩
        unfold hasFn at h1
        split at h1
        · rename_i fn hfn; exact ⟨fn, hfn⟩
        · cases h1
      | false => simp only [hb, cond_false] at hf; exact ih.intr f g hf
end Go.Ev
