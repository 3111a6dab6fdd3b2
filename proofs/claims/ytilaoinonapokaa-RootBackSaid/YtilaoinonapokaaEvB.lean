/- A program of this law is run by an evaluator that is proved right: values and memory, and operations that only look. It holds for every program of the model. -/
import Derived.Test.YtilaoinonapokaaEvA
import Derived.Control
import Derived.Laws.Sem
import GoSem.Dispatch
import Derived.Laws.StructEq
import Derived.Laws.Strings2
import Derived.Laws.Concat
import Derived.IntWalk
import Derived.Laws.BytesString
import Derived.Laws.Slices
namespace Go.Ev

/-! ## plain words -/
theorem T.get_one {α : Type} (x : α) (p q : Pa) : (T.one x p).get q = if p = q then some x else none := by
  induction p generalizing q with
  | z => cases q <;> simp [T.one, T.get]
  | l p ih => cases q with
    | z => simp [T.one, T.get]
    | l q => simpa [T.one, T.get] using ih q
    | r q => simp [T.one, T.get]
  | r p ih => cases q with
    | z => simp [T.one, T.get]
    | l q => simp [T.one, T.get]
    | r q => simpa [T.one, T.get] using ih q

theorem T.get_set {α : Type} (x : α) (t : T α) (p q : Pa) : (t.set x p).get q = if p = q then some x else t.get q := by
  induction t generalizing p q with
  | E =>
    show (T.one x p).get q = _
    rw [T.get_one]; rfl
  | N v l r ihl ihr =>
    cases p with
    | z => cases q <;> simp [T.set, T.get]
    | l p => cases q with
      | z => simp [T.set, T.get]
      | l q => simpa [T.set, T.get] using ihl p q
      | r q => simp [T.set, T.get]
    | r p => cases q with
      | z => simp [T.set, T.get]
      | l q => simp [T.set, T.get]
      | r q => simpa [T.set, T.get] using ihr p q

theorem Pa.toNat_succ (p : Pa) : p.succ.toNat = p.toNat + 1 := by
  induction p with
  | z => rfl
  | l p _ => simp [Pa.succ, Pa.toNat]
  | r p ih => simp [Pa.succ, Pa.toNat, ih]; omega

theorem Pa.toNat_inj {p q : Pa} (h : p.toNat = q.toNat) : p = q := by
  induction p generalizing q with
  | z => cases q with
    | z => rfl
    | l q => simp [Pa.toNat] at h
    | r q => simp [Pa.toNat] at h
  | l p ih => cases q with
    | z => simp [Pa.toNat] at h
    | l q => simp only [Pa.toNat] at h; have e := ih (q := q) (by omega); rw [e]
    | r q => simp only [Pa.toNat] at h; omega
  | r p ih => cases q with
    | z => simp [Pa.toNat] at h
    | l q => simp only [Pa.toNat] at h; omega
    | r q => simp only [Pa.toNat] at h; have e := ih (q := q) (by omega); rw [e]

theorem Pa.beq_iff (p q : Pa) : p.beq q = true ↔ p = q := by
  induction p generalizing q with
  | z => cases q <;> simp [Pa.beq]
  | l p ih => cases q <;> simp [Pa.beq, ih]
  | r p ih => cases q <;> simp [Pa.beq, ih]

theorem Pa.of_toNat (f k : Nat) (h : k < 2 ^ f) : (Pa.of f k).toNat = k := by
  induction f generalizing k with
  | zero => simp at h; subst h; rfl
  | succ f ih =>
    unfold Pa.of
    by_cases h0 : k = 0
    · simp [h0, Pa.toNat]
    · by_cases h1 : k % 2 = 1
      · simp only [h0, h1, if_true, if_false, Pa.toNat]
        rw [ih _ (by omega)]; omega
      · simp only [h0, h1, if_false, Pa.toNat]
        rw [ih _ (by omega)]; omega

theorem nth_eq {α : Type} (l : List α) (n : Nat) : nth l n = l[n]? := by
  induction l generalizing n with
  | nil => simp [nth]
  | cons a l ih =>
    cases n with
    | zero => simp [nth]
    | succ n =>
      show cond (Nat.beq (n + 1) 0) (some a) (nth l (n + 1 - 1)) = _
      rw [ih]; simp [Nat.beq]

theorem takeN_eq {α : Type} {n : Nat} {l r : List α} (h : takeN n l = some r) : n ≤ l.length ∧ r = l.take n := by
  induction n generalizing l r with
  | zero => simp [takeN] at h; simp [h]
  | succ n ih =>
    cases l with
    | nil => simp [takeN] at h
    | cons a l =>
      simp only [takeN] at h
      split at h
      · rename_i r' hr
        obtain ⟨h1, h2⟩ := ih hr
        simp at h; subst h
        simp [h2]; omega
      · simp at h

theorem dropN_eq {α : Type} (n : Nat) (l : List α) : dropN n l = l.drop n := by
  induction n generalizing l with
  | zero => simp [dropN]
  | succ n ih => cases l <;> simp [dropN, ih]

theorem over_eq {l xs r : List V} (h : over l xs = some r) : xs.length ≤ l.length ∧ r = xs ++ l.drop xs.length := by
  induction xs generalizing l r with
  | nil => cases l <;> simp [over] at h <;> simp [h]
  | cons x xs ih =>
    cases l with
    | nil => simp [over] at h
    | cons a l =>
      simp only [over] at h
      split at h
      · rename_i r' hr
        obtain ⟨h1, h2⟩ := ih hr
        simp at h; subst h
        simp [h2]; omega
      · simp at h

theorem splice_eq {o : Nat} {l xs r : List V} (h : splice o l xs = some r) :
    o + xs.length ≤ l.length ∧ r = l.take o ++ xs ++ l.drop (o + xs.length) := by
  induction o generalizing l r with
  | zero =>
    simp only [splice] at h
    obtain ⟨h1, h2⟩ := over_eq h
    simp [h1, h2]
  | succ o ih =>
    cases l with
    | nil => simp [splice] at h
    | cons a l =>
      simp only [splice] at h
      split at h
      · rename_i r' hr
        obtain ⟨h1, h2⟩ := ih hr
        simp at h; subst h
        refine ⟨by simp; omega, ?_⟩
        simp [h2, Nat.add_right_comm]
      · simp at h

/-! ## the relation between values -/
/-- bm: may the block bear a mark (that of bytes that were a string's)? -/
structure Loc where
  blk : Nat
  base : Nat
  top : Nat
  bm : Bool

abbrev AM := Pa → Option Loc

def AM.le (α α' : AM) : Prop := ∀ a L, α a = some L → α' a = some L
theorem AM.le_refl (α : AM) : α.le α := fun _ _ h => h
theorem AM.le_trans {α β γ : AM} (h : α.le β) (k : β.le γ) : α.le γ := fun a L x => k a L (h a L x)

def CapR (L : Loc) (o capC : Nat) : Cap → Prop
  | .ex c => capC = c
  | .un s => L.base + o + capC * s = L.top ∧ (s = 1 ∨ L.bm = false)

mutual
inductive VR (α : AM) : V → Value → Prop
  | bool (b : Bool) : VR α (.bool b) (.bool b)
  | int (k : IntKind) (n : Int) : VR α (.int k n) (.int k n)
  | str (s : ByteArray) : VR α (.str s.data.toList) (.string s)
  | ptr (a : Pa) (o : Nat) (L : Loc) (h : α a = some L) : VR α (.ptr a o) (.pointer (some ⟨L.blk, L.base + o, none⟩))
  | sl (a : Pa) (o n : Nat) (c : Cap) (L : Loc) (capC : Nat) (h : α a = some L) (hn : n ≤ capC) (hc : CapR L o capC c) :
      VR α (.sl a o n c) (.slice (some ⟨L.blk, L.base + o, none⟩) n capC)
  | sl0 (a : Pa) (o : Nat) (c : Cap) (ad : Addr) (hc : c = .ex 0 ∨ ∃ s L, c = .un s ∧ α a = some L ∧ L.base + o = L.top) : VR α (.sl a o 0 c) (.slice (some ad) 0 0)
  | agg (l : List V) (cs : List Value) (h : VRs α l cs) : VR α (.agg l) (.agg ⟨cs⟩)
  | tup (l : List V) (cs : List Value) (h : VRs α l cs) : VR α (.tup l) (.tuple ⟨cs⟩)
  | noPtr : VR α (.no .ptr) (.pointer none)
  | noSl : VR α (.no .sl) (.slice none 0 0)
  | noMap : VR α (.no .map) (.map none)
  | noFn : VR α (.no .fn) .nilFunc
  | noIface : VR α (.no .iface) .nilIface
  | bot (c : Value) : VR α (.no .bot) c
  | map (a : Pa) (L : Loc) (h : α a = some L) : VR α (.map a) (.map (some L.blk))
  | fn (f : Nat) (caps : List V) (cs : List Value) (h : VRs α caps cs) : VR α (.fn f caps) (.func (.func f) #[] ⟨cs⟩)
  | yld (l : Pa) (L : Loc) (h : α l = some L) : VR α (.yld l) (.func (.yield L.blk) #[] #[])
  | iface (t : Nat) (v : V) (c : Value) (h : VR α v c) : VR α (.iface t v) (.iface t c)
inductive VRs (α : AM) : List V → List Value → Prop
  | nil : VRs α [] []
  | cons (v : V) (c : Value) (l : List V) (cs : List Value) (h : VR α v c) (hs : VRs α l cs) : VRs α (v :: l) (c :: cs)
end

mutual
theorem VR.mono {α α' : AM} (hle : α.le α') : ∀ {v : V} {c : Value}, VR α v c → VR α' v c
  | _, _, .bool b => .bool b
  | _, _, .int k n => .int k n
  | _, _, .str s => .str s
  | _, _, .ptr a o L h => .ptr a o L (hle a L h)
  | _, _, .sl a o n c L capC h hn hc => .sl a o n c L capC (hle a L h) hn hc
  | _, _, .sl0 a o c ad hc => .sl0 a o c ad (hc.imp id fun ⟨s, L, h1, h2, h3⟩ => ⟨s, L, h1, hle a L h2, h3⟩)
  | _, _, .agg l cs h => .agg l cs (VRs.mono hle h)
  | _, _, .tup l cs h => .tup l cs (VRs.mono hle h)
  | _, _, .noPtr => .noPtr
  | _, _, .noSl => .noSl
  | _, _, .noMap => .noMap
  | _, _, .noFn => .noFn
  | _, _, .noIface => .noIface
  | _, _, .bot c => .bot c
  | _, _, .map a L h => .map a L (hle a L h)
  | _, _, .fn f caps cs h => .fn f caps cs (VRs.mono hle h)
  | _, _, .yld l L h => .yld l L (hle l L h)
  | _, _, .iface t v c h => .iface t v c (VR.mono hle h)
theorem VRs.mono {α α' : AM} (hle : α.le α') : ∀ {l : List V} {cs : List Value}, VRs α l cs → VRs α' l cs
  | _, _, .nil => .nil
  | _, _, .cons v c l cs h hs => .cons v c l cs (VR.mono hle h) (VRs.mono hle hs)
end

theorem sl0_ex {α : AM} {a : Pa} {o k : Nat} (h : (Cap.ex k) = .ex 0 ∨ ∃ s L, (Cap.ex k) = .un s ∧ α a = some L ∧ L.base + o = L.top) : k = 0 := by
  rcases h with h | ⟨s, L, h, _⟩
  · cases h; rfl
  · cases h

theorem VRs.length {α : AM} {l : List V} {cs : List Value} (h : VRs α l cs) : l.length = cs.length := by
  induction l generalizing cs with
  | nil => cases h; rfl
  | cons v l ih => cases h with | cons _ c _ cs h hs => simp [ih hs]
theorem VRs.get {α : AM} {l : List V} {cs : List Value} (h : VRs α l cs) {i : Nat} {v : V} (hv : l[i]? = some v) :
    ∃ c, cs[i]? = some c ∧ VR α v c := by
  induction l generalizing cs i with
  | nil => simp at hv
  | cons a l ih => cases h with
    | cons _ c _ cs h hs =>
      cases i with
      | zero => simp at hv; subst hv; exact ⟨c, by simp, h⟩
      | succ i => simp at hv; obtain ⟨d, h1, h2⟩ := ih hs hv; exact ⟨d, by simpa using h1, h2⟩
theorem VRs.append {α : AM} {l m : List V} {cs ds : List Value} (h : VRs α l cs) (k : VRs α m ds) : VRs α (l ++ m) (cs ++ ds) := by
  induction l generalizing cs with
  | nil => cases h; exact k
  | cons a l ih => cases h with | cons _ c _ cs h hs => exact .cons _ _ _ _ h (ih hs)
theorem VRs.take {α : AM} {l : List V} {cs : List Value} (h : VRs α l cs) (n : Nat) : VRs α (l.take n) (cs.take n) := by
  induction n generalizing l cs with
  | zero => simp; exact .nil
  | succ n ih => cases h with
    | nil => simp; exact .nil
    | cons v c l cs h hs => simp; exact .cons _ _ _ _ h (ih hs)
theorem VRs.drop {α : AM} {l : List V} {cs : List Value} (h : VRs α l cs) (n : Nat) : VRs α (l.drop n) (cs.drop n) := by
  induction n generalizing l cs with
  | zero => simpa using h
  | succ n ih => cases h with
    | nil => simp; exact .nil
    | cons v c l cs h hs => simpa using ih hs
theorem VRs.of_get {α : AM} {l : List V} {cs : List Value} (hl : l.length = cs.length)
    (h : ∀ (i : Nat) (v : V), l[i]? = some v → ∃ c, cs[i]? = some c ∧ VR α v c) : VRs α l cs := by
  induction l generalizing cs with
  | nil => cases cs with
    | nil => exact .nil
    | cons _ _ => simp at hl
  | cons a l ih => cases cs with
    | nil => simp at hl
    | cons c cs =>
      obtain ⟨d, h1, h2⟩ := h 0 a (by simp)
      simp at h1; subst h1
      refine .cons _ _ _ _ h2 (ih (by simpa using hl) fun i v hv => ?_)
      obtain ⟨e, h3, h4⟩ := h (i + 1) v (by simpa using hv)
      exact ⟨e, by simpa using h3, h4⟩

/-- the cells of a value and of its fellow -/
theorem VR.cells {α : AM} {v : V} {c : Value} (h : VR α v c) (hb : v ≠ .no .bot) : VRs α v.cells c.cells.toList := by
  cases h with
  | agg l cs h => exact h
  | bot c => exact absurd rfl hb
  | _ => exact .cons _ _ _ _ (by first | (constructor <;> assumption) | constructor) .nil
end Go.Ev

namespace Go.Ev

theorem pa_toNat (n : Nat) : (pa n).toNat = n := Pa.of_toNat _ _ (Nat.lt_of_lt_of_le (Nat.lt_succ_self n) (by
  have : ∀ k : Nat, k ≤ 2 ^ k := fun k => Nat.le_of_lt Nat.lt_two_pow_self
  exact this _))

/-! ## slots -/
def EnvR (α : AM) (e : T V) (tmps : Array Value) : Prop :=
  ∀ p v, e.get p = some v → ∃ c, tmps[p.toNat]? = some c ∧ VR α v c

theorem EnvR.mono {α α' : AM} (hle : α.le α') {e : T V} {tmps : Array Value} (h : EnvR α e tmps) : EnvR α' e tmps :=
  fun p v hp => let ⟨c, h1, h2⟩ := h p v hp; ⟨c, h1, h2.mono hle⟩

theorem EnvR.set {α : AM} {e : T V} {tmps : Array Value} (h : EnvR α e tmps) {v : V} {c : Value} (hv : VR α v c) {d : Nat} (hd : d < tmps.size) :
    EnvR α (e.set v (pa d)) (tmps.setIfInBounds d c) := by
  intro p u hp
  rw [T.get_set] at hp
  by_cases hpd : pa d = p
  · simp only [hpd, if_true, Option.some.injEq] at hp
    subst hp
    refine ⟨c, ?_, hv⟩
    rw [← hpd, pa_toNat]
    simp [hd]
  · simp only [hpd, if_false] at hp
    obtain ⟨x, h1, h2⟩ := h p u hp
    refine ⟨x, ?_, h2⟩
    rw [Array.getElem?_setIfInBounds_ne, h1]
    intro e1
    exact hpd (Pa.toNat_inj (by rw [pa_toNat]; exact e1))

/-- of an operand: it reads as it does -/
def OdR (α : AM) (e : T V) (ρ : Operand → Value) : Prop := ∀ x : Operand, VR α ((cO x).ev e) (ρ x)

theorem ofS_R (α : AM) (c : Value) : VR α (ofS c) c := by
  unfold ofS
  split <;> first | exact .fn _ _ _ .nil | constructor

theorem ofS_list (α : AM) (cs : List Value) : VRs α (cs.map ofS) cs := by
  induction cs with
  | nil => exact .nil
  | cons c cs ih => exact .cons _ _ _ _ (ofS_R α c) ih

theorem ofV_R (α : AM) (c : Value) : VR α (ofV c) c := by
  unfold ofV
  split
  · rename_i cs
    cases cs with | mk cs => exact .agg _ _ (ofS_list α cs)
  · exact ofS_R α c

theorem odR {α : AM} {e : T V} {a : Act} (h : EnvR α e a.tmps) : OdR α e a.eval := by
  intro x
  cases x with
  | tmp t =>
    simp only [cO, Od.ev, T.val, Act.eval]
    split
    · rename_i v hv
      obtain ⟨c, h1, h2⟩ := h _ _ hv
      rw [pa_toNat] at h1
      simp [Array.getD_eq_getD_getElem?, h1, h2]
    · exact .bot _
  | const v => exact ofV_R α v
  | global g => exact .bot _
  | func f => exact .fn f [] [] .nil

theorem OdR.list {α : AM} {e : T V} {ρ : Operand → Value} (h : OdR α e ρ) (l : List Operand) : VRs α (evL e (l.map cO)) (l.map ρ) := by
  induction l with
  | nil => exact .nil
  | cons x l ih => exact .cons _ _ _ _ (h x) ih

/-! ## memory -/
def pendR : Option Jump → Option Code → Prop
  | none, none => True
  | some .ret, some .ret => True
  | some (.exit i), some (.exit j) => i = j
  | _, _ => False

def CellsR (α : AM) (l : List V) (cs : Array Value) (base : Nat) : Prop :=
  base + l.length ≤ cs.size ∧ ∀ (i : Nat) (v : V), l[i]? = some v → ∃ c, cs[base + i]? = some c ∧ VR α v c

def quietAt (size : Nat) (fr : Nat × Nat) : Prop := fr.1 = fr.2 ∨ size ≤ fr.1

/-- .. and where there is no mark, nothing is -/
def marksAt (mk : Bool) (fr : Nat × Nat) : Prop := mk = false → fr.2 ≤ fr.1

def BR (P : Program) (α : AM) (ls : List LE) (a : Pa) (b : Blk) (L : Loc) (w : World) : Prop :=
  match b with
  | .cells l _ => ∃ cs el fr, w.heap[L.blk]? = some (.cells cs el fr) ∧ cs.size = L.top ∧ quietAt cs.size fr ∧ CellsR α l cs L.base ∧ marksAt L.bm fr
  | .ro l => ∃ cs el fr, w.heap[L.blk]? = some (.cells cs el fr) ∧ cs.size = L.top ∧ CellsR α l cs L.base
  | .map es clock => ∃ ents, w.heap[L.blk]? = some (.map ents clock) ∧ ents.size = es.length ∧
      ∀ (i : Nat) (t : V × V × Nat), es[i]? = some t → ∃ x, ents[i]? = some x ∧ VR α t.1 x.key ∧ VR α t.2.1 x.val ∧ x.born = t.2.2
  | .loop r => ∃ x, w.heap[L.blk]? = some (.loop x) ∧ x.state = r.state ∧ pendR r.pending x.pending ∧ x.fn = r.fn ∧ EnvR α r.env x.tmps ∧ r.nt ≤ x.tmps.size ∧
      r.params = x.params.toList.map pa ∧ (∀ t ∈ x.params.toList, t < r.nt) ∧
      ∃ y, findLE a ls = some y ∧ y.assign = cCode P r.nt (avAt P r.fn) x.assign ∧ y.body = cCode P r.nt (avAt P r.fn) x.body
  | .dfr l => w.heap[L.blk]? = some (.deferred (if l then some [] else none))

def Blk.live : Blk → Bool
  | .cells _ d => !d
  | _ => true
def Blk.isRo : Blk → Bool
  | .ro _ => true
  | _ => false

def lsLe (ls ls' : List LE) : Prop := ∀ a x, findLE a ls = some x → findLE a ls' = some x

theorem CellsR.mono {α α' : AM} (hle : α.le α') {l : List V} {cs : Array Value} {b : Nat} (h : CellsR α l cs b) : CellsR α' l cs b :=
  ⟨h.1, fun i v hv => let ⟨c, h1, h2⟩ := h.2 i v hv; ⟨c, h1, h2.mono hle⟩⟩

theorem BR.mono {P : Program} {α α' : AM} (hle : α.le α') {ls ls' : List LE} (hl : lsLe ls ls') {a : Pa} {b : Blk} {L : Loc} {w w' : World}
    (hw : w'.heap[L.blk]? = w.heap[L.blk]?) (h : BR P α ls a b L w) : BR P α' ls' a b L w' := by
  cases b with
  | cells l d => obtain ⟨cs, el, fr, h1, h2, h3, h4, h5⟩ := h; exact ⟨cs, el, fr, hw.trans h1, h2, h3, h4.mono hle, h5⟩
  | ro l => obtain ⟨cs, el, fr, h1, h2, h4⟩ := h; exact ⟨cs, el, fr, hw.trans h1, h2, h4.mono hle⟩
  | map es clock =>
    obtain ⟨ents, h1, h2, h3⟩ := h
    exact ⟨ents, hw.trans h1, h2, fun i t ht => let ⟨x, k1, k2, k3, k4⟩ := h3 i t ht; ⟨x, k1, k2.mono hle, k3.mono hle, k4⟩⟩
  | loop r =>
    obtain ⟨x, h1, h2, h3, h4, h5, h6, h7, h8, y, h9, h10, h11⟩ := h
    exact ⟨x, hw.trans h1, h2, h3, h4, h5.mono hle, h6, h7, h8, y, hl _ _ h9, h10, h11⟩
  | dfr l => exact hw.trans h

/-- nothing of the outside world has changed -/
def Still (w w' : World) : Prop := w'.os = w.os ∧ w'.output = w.output
theorem Still.refl (w : World) : Still w w := ⟨rfl, rfl⟩
theorem Still.trans {w w1 w2 : World} (h : Still w w1) (h' : Still w1 w2) : Still w w2 := ⟨h'.1.trans h.1, h'.2.trans h.2⟩

structure Cx where
  P : Program
  w0 : World
  N0 : Nat

structure Sim (C : Cx) (α : AM) (Λ : Pa → Prop) (h : Hp) (ls : List LE) (w : World) : Prop where
  dom : ∀ a L, α a = some L → a.toNat < h.next.toNat
  blk : ∀ a L, α a = some L → Λ a → ∃ b, h.get a = some b ∧ BR C.P α ls a b L w
  inj : ∀ a a' L L', α a = some L → α a' = some L' → Λ a → Λ a' → L.blk = L'.blk → C.N0 ≤ L.blk → a = a'
  live : ∀ a L b, α a = some L → h.get a = some b → Λ a ∨ ∃ l, b = .cells l true
  wr : ∀ a L b, α a = some L → Λ a → h.get a = some b → b.isRo = false → C.N0 ≤ L.blk
  low : ∀ i, i < C.N0 → w.heap[i]? = C.w0.heap[i]?
  size : C.N0 ≤ w.heap.size
  still : Still C.w0 w
  fresh : ∀ a, h.next.toNat ≤ a.toNat → h.get a = none
  lsdom : ∀ a x, findLE a ls = some x → a.toNat < h.next.toNat

theorem Sim.lt {C : Cx} {α : AM} {Λ : Pa → Prop} {h : Hp} {ls : List LE} {w : World} (s : Sim C α Λ h ls w) {a : Pa} {L : Loc} (ha : α a = some L) (hΛ : Λ a) :
    L.blk < w.heap.size := by
  obtain ⟨b, _, hb⟩ := s.blk a L ha hΛ
  have : ∃ o, w.heap[L.blk]? = some o := by
    cases b with
    | cells l d => obtain ⟨_, _, _, h1, _⟩ := hb; exact ⟨_, h1⟩
    | ro l => obtain ⟨_, _, _, h1, _⟩ := hb; exact ⟨_, h1⟩
    | map es c => obtain ⟨_, h1, _⟩ := hb; exact ⟨_, h1⟩
    | loop r => obtain ⟨_, h1, _⟩ := hb; exact ⟨_, h1⟩
    | dfr l => exact ⟨_, hb⟩
  obtain ⟨o, ho⟩ := this
  exact (Array.getElem?_eq_some_iff.1 ho).1

/-- a world that is another in what does not count -/
theorem Sim.same {C : Cx} {α : AM} {Λ : Pa → Prop} {h : Hp} {ls : List LE} {w w' : World} (s : Sim C α Λ h ls w) (hw : w'.heap = w.heap) (hst : Still w w') : Sim C α Λ h ls w' where
  dom := s.dom
  blk := fun a L ha hΛ => let ⟨b, h1, h2⟩ := s.blk a L ha hΛ; ⟨b, h1, h2.mono (AM.le_refl α) (fun _ _ h => h) (by rw [hw])⟩
  inj := s.inj
  live := s.live
  wr := s.wr
  low := by rw [hw]; exact s.low
  size := by rw [hw]; exact s.size
  still := s.still.trans hst
  fresh := s.fresh
  lsdom := s.lsdom

def AM.put (α : AM) (a : Pa) (L : Loc) : AM := fun b => if b = a then some L else α b
theorem AM.le_put {α : AM} {a : Pa} {L : Loc} (h : α a = none) : α.le (α.put a L) := by
  intro b M hb
  unfold AM.put
  split
  · rename_i e; subst e; rw [h] at hb; cases hb
  · exact hb
theorem AM.put_self (α : AM) (a : Pa) (L : Loc) : α.put a L a = some L := by simp [AM.put]

theorem Sim.next_none {C : Cx} {α : AM} {Λ : Pa → Prop} {h : Hp} {ls : List LE} {w : World} (s : Sim C α Λ h ls w) : α h.next = none := by
  cases e : α h.next with
  | none => rfl
  | some L => exact absurd (s.dom _ _ e) (Nat.lt_irrefl _)

/-- a world with one block more -/
def Grew (w w' : World) : Prop := w'.heap.size = w.heap.size + 1 ∧ (∀ i, i < w.heap.size → w'.heap[i]? = w.heap[i]?) ∧ Still w w'

/-- the memory is made ahead of the world's -/
theorem Sim.ghost {C : Cx} {α : AM} {Λ : Pa → Prop} {h : Hp} {ls : List LE} {w : World} (s : Sim C α Λ h ls w) (b : Blk) : Sim C α Λ (h.alloc b) ls w := by
  have hne : ∀ a L, α a = some L → a ≠ h.next := fun a L ha e => by subst e; rw [s.next_none] at ha; cases ha
  have hget : ∀ a, a ≠ h.next → (h.alloc b).get a = h.get a := fun a e => by
    simp [Heap.alloc, Heap.get, T.get_set, Ne.symm e]
  have hnx : (h.alloc b).next.toNat = h.next.toNat + 1 := Pa.toNat_succ _
  refine ⟨fun a L ha => by rw [hnx]; exact Nat.lt_succ_of_lt (s.dom a L ha), fun a L ha hΛ => ?_, s.inj, fun a L c ha hg => ?_, fun a L c ha hΛ hg hr => ?_, s.low, s.size, s.still, fun a ha => ?_, fun a x hx => ?_⟩
  · rw [hget a (hne a L ha)]; exact s.blk a L ha hΛ
  · rw [hget a (hne a L ha)] at hg; exact s.live a L c ha hg
  · rw [hget a (hne a L ha)] at hg; exact s.wr a L c ha hΛ hg hr
  · rw [hnx] at ha
    rw [hget a (fun e => by subst e; omega)]
    exact s.fresh a (by omega)
  · rw [hnx]; exact Nat.lt_succ_of_lt (s.lsdom a x hx)

/-- the world makes what the memory has made -/
theorem Sim.fill {C : Cx} {α : AM} {Λ : Pa → Prop} {h : Hp} {ls : List LE} {w w' : World} (s : Sim C α Λ h ls w) {a : Pa} {b : Blk} {top : Nat} {md : Bool}
    (ha : α a = none) (hg : h.get a = some b) (hw : Grew w w')
    (hb : BR C.P (α.put a ⟨w.heap.size, 0, top, md⟩) ls a b ⟨w.heap.size, 0, top, md⟩ w') :
    Sim C (α.put a ⟨w.heap.size, 0, top, md⟩) (fun x => Λ x ∨ x = a) h ls w' := by
  have hle : α.le (α.put a ⟨w.heap.size, 0, top, md⟩) := AM.le_put ha
  have old : ∀ x M, (α.put a ⟨w.heap.size, 0, top, md⟩) x = some M → x ≠ a → α x = some M := fun x M hx hxa => by
    simpa [AM.put, hxa] using hx
  have new : ∀ M, (α.put a ⟨w.heap.size, 0, top, md⟩) a = some M → M = ⟨w.heap.size, 0, top, md⟩ := fun M hM => by
    simp [AM.put] at hM; exact hM.symm
  have hlt : a.toNat < h.next.toNat := by
    rcases Nat.lt_or_ge a.toNat h.next.toNat with h1 | h1
    · exact h1
    · rw [s.fresh a h1] at hg; cases hg
  refine ⟨fun x M hx => ?_, fun x M hx hΛ => ?_, fun x y M K hx hy hΛx hΛy e hN => ?_, fun x M c hx hgx => ?_, fun x M c hx hΛ hgx hr => ?_, fun i hi => ?_, ?_, s.still.trans hw.2.2, s.fresh, s.lsdom⟩
  · by_cases hxa : x = a
    · subst hxa; exact hlt
    · exact s.dom x M (old x M hx hxa)
  · by_cases hxa : x = a
    · subst hxa; rw [new M hx]; exact ⟨b, hg, hb⟩
    · have hΛ' : Λ x := hΛ.resolve_right hxa
      obtain ⟨c, h1, h2⟩ := s.blk x M (old x M hx hxa) hΛ'
      exact ⟨c, h1, h2.mono hle (fun _ _ h => h) (hw.2.1 _ (s.lt (old x M hx hxa) hΛ'))⟩
  · by_cases hxa : x = a
    · by_cases hya : y = a
      · rw [hxa, hya]
      · exfalso
        subst hxa
        rw [new M hx] at e
        have := s.lt (old y K hy hya) (hΛy.resolve_right hya)
        simp at e; omega
    · by_cases hya : y = a
      · exfalso
        subst hya
        rw [new K hy] at e
        have := s.lt (old x M hx hxa) (hΛx.resolve_right hxa)
        simp at e; omega
      · exact s.inj x y M K (old x M hx hxa) (old y K hy hya) (hΛx.resolve_right hxa) (hΛy.resolve_right hya) e hN
  · by_cases hxa : x = a
    · exact .inl (.inr hxa)
    · rcases s.live x M c (old x M hx hxa) hgx with h1 | h1
      · exact .inl (.inl h1)
      · exact .inr h1
  · by_cases hxa : x = a
    · subst hxa; rw [new M hx]; exact s.size
    · exact s.wr x M c (old x M hx hxa) (hΛ.resolve_right hxa) hgx hr
  · rw [hw.2.1 i (Nat.lt_of_lt_of_le hi s.size)]; exact s.low i hi
  · rw [hw.1]; exact Nat.le_succ_of_le s.size

/-- a world in which one block is another -/
def Turned (w w' : World) (k : Nat) : Prop := w'.heap.size = w.heap.size ∧ (∀ i, i ≠ k → w'.heap[i]? = w.heap[i]?) ∧ Still w w'

theorem Turned.refl (w : World) (k : Nat) : Turned w w k := ⟨rfl, fun _ _ => rfl, Still.refl w⟩
theorem Turned.trans {w w1 w2 : World} {k : Nat} (h : Turned w w1 k) (h' : Turned w1 w2 k) : Turned w w2 k :=
  ⟨h'.1.trans h.1, fun i hi => (h'.2.1 i hi).trans (h.2.1 i hi), h.2.2.trans h'.2.2⟩

/-- a block that may be written is another one -/
theorem Sim.turn {C : Cx} {α : AM} {Λ : Pa → Prop} {h : Hp} {ls : List LE} {w w' : World} (s : Sim C α Λ h ls w) {a : Pa} {L : Loc} {b b' : Blk}
    (ha : α a = some L) (hΛ : Λ a) (hg : h.get a = some b) (hro : b.isRo = false) (_hro' : b'.isRo = false) (hw : Turned w w' L.blk)
    (hb : BR C.P α ls a b' L w') : Sim C α Λ (h.put a b') ls w' := by
  have hN : C.N0 ≤ L.blk := s.wr a L b ha hΛ hg hro
  have hget : ∀ x, (h.put a b').get x = if a = x then some b' else h.get x := fun x => by simp [Heap.put, Heap.get, T.get_set]
  refine ⟨s.dom, fun x M hx hΛx => ?_, s.inj, fun x M c hx hgx => ?_, fun x M c hx hΛx hgx hr => ?_, fun i hi => ?_, by rw [hw.1]; exact s.size, s.still.trans hw.2.2, fun x hx => ?_, s.lsdom⟩
  · by_cases hxa : a = x
    · subst hxa
      rw [ha] at hx; cases hx
      exact ⟨b', by rw [hget]; simp, hb⟩
    · obtain ⟨c, h1, h2⟩ := s.blk x M hx hΛx
      refine ⟨c, by rw [hget]; simp [hxa, h1], h2.mono (AM.le_refl α) (fun _ _ h => h) (hw.2.1 _ ?_)⟩
      intro e
      exact hxa (s.inj a x L M ha hx hΛ hΛx e.symm hN)
  · by_cases hxa : a = x
    · subst hxa; exact .inl hΛ
    · rw [hget] at hgx; simp only [hxa, if_false] at hgx; exact s.live x M c hx hgx
  · by_cases hxa : a = x
    · subst hxa; rw [ha] at hx; cases hx; exact hN
    · rw [hget] at hgx; simp only [hxa, if_false] at hgx; exact s.wr x M c hx hΛx hgx hr
  · rw [hw.2.1 i (by omega)]; exact s.low i hi
  · rw [hget]
    by_cases hxa : a = x
    · subst hxa
      exact absurd (s.dom a L ha) (Nat.not_lt.2 hx)
    · simp only [hxa, if_false]; exact s.fresh x hx
end Go.Ev

namespace Go.Ev
variable {P : Program} {w : World}

theorem r_und {t : TypeId} {d : TypeDesc} (h : P.underlying t = some d) : (underlying t).run P w = .ok d w := by simp [underlying, h]
theorem r_info {t : TypeId} {i : TypeInfo} (h : P.info? t = some i) : (typeInfo t).run P w = .ok i w := by simp [typeInfo, h]
theorem r_size {t : TypeId} {i : TypeInfo} (h : P.info? t = some i) : (sizeOf t).run P w = .ok i.size w := by simp [sizeOf, r_info h]
theorem r_zero {t : TypeId} {i : TypeInfo} {v : Value} (h : P.info? t = some i) (hz : i.zero = some v) : (zeroValue t).run P w = .ok v w := by
  simp [zeroValue, r_info h, hz]

theorem sizeT_some {t : TypeId} {n : Nat} (h : sizeT P t = some n) : ∃ i, P.info? t = some i ∧ i.size = n := by
  unfold sizeT at h
  cases e : P.info? t with
  | none => simp [e] at h
  | some i => simp [e] at h; exact ⟨i, rfl, h⟩
theorem zeroT_some {t : TypeId} {z : V} (h : zeroT P t = some z) : ∃ i v, P.info? t = some i ∧ i.zero = some v ∧ z = ofV v := by
  unfold zeroT at h
  cases e : P.info? t with
  | none => simp [e] at h
  | some i =>
    simp only [e] at h
    cases ez : i.zero with
    | none => simp [ez] at h
    | some v => simp [ez] at h; exact ⟨i, v, rfl, ez, h.symm⟩
theorem shapeT_none {t : TypeId} (h : shapeT P t = some none) : ∃ i, P.info? t = some i ∧ ∀ w, (isAgg t).run P w = .ok false w := by
  unfold shapeT at h
  cases e : P.info? t with
  | none => simp [e] at h
  | some i =>
    refine ⟨i, rfl, fun w => ?_⟩
    simp only [e] at h
    cases eu : P.underlying t with
    | none => simp [eu] at h
    | some d => cases d <;> simp [eu] at h <;> simp [isAgg, r_und eu]
theorem shapeT_some {t : TypeId} {n : Nat} (h : shapeT P t = some (some n)) : ∃ i, P.info? t = some i ∧ i.size = n ∧ ∀ w, (isAgg t).run P w = .ok true w := by
  unfold shapeT at h
  cases e : P.info? t with
  | none => simp [e] at h
  | some i =>
    simp only [e] at h
    cases eu : P.underlying t with
    | none => simp [eu] at h
    | some d => cases d <;> simp [eu] at h <;> exact ⟨i, rfl, h, fun w => by simp [isAgg, r_und eu]⟩

/-! ## cells -/
theorem cell_at {cs : Array Value} {el : TypeId} {fr : Nat × Nat} {b o : Nat} {c : Value} (hw : w.heap[b]? = some (.cells cs el fr)) (hc : cs[o]? = some c) :
    w.cell? ⟨b, o, none⟩ = some c := by simp [World.cell?, hw, hc]

theorem add_at (b o n : Nat) : (Addr.mk b o none).add n = ⟨b, o + n, none⟩ := by
  unfold Addr.add
  split
  · rename_i h; simp [h]
  · rfl

theorem r_load {a : Addr} {c : Value} (h : w.cell? a = some c) : (load a).run P w = .ok c w := by simp [h]

theorem r_loadFrom (b o : Nat) : ∀ (cs : List Value) (i : Nat) (acc : Array Value), (∀ (j : Nat) (c : Value), cs[j]? = some c → w.cell? ⟨b, o + i + j, none⟩ = some c) →
    (loadCellsFrom ⟨b, o, none⟩ i cs.length acc).run P w = .ok (acc ++ cs.toArray) w
  | [], i, acc, _ => by simp [loadCellsFrom]
  | c :: cs, i, acc, h => by
    have h0 := h 0 c (by simp)
    have ih := r_loadFrom b o cs (i + 1) (acc.push c) (fun j d hd => by
      have := h (j + 1) d (by simpa using hd)
      rw [show o + (i + 1) + j = o + i + (j + 1) from by omega]; exact this)
    simp only [List.length_cons, loadCellsFrom, Sem.run_bind, add_at]
    rw [r_load (by simpa using h0)]
    simp only [Result.andThen_ok, ih]
    simp

theorem r_loadCells (b o : Nat) (cs : List Value) (h : ∀ (j : Nat) (c : Value), cs[j]? = some c → w.cell? ⟨b, o + j, none⟩ = some c) :
    (loadCells ⟨b, o, none⟩ cs.length).run P w = .ok cs.toArray w := by
  have := r_loadFrom (P := P) b o cs 0 #[] (by simpa using h)
  simpa [loadCells] using this

variable {C : Cx} {α : AM} {Λ : Pa → Prop} {h : Hp} {ls : List LE}

/-- what the memory's cells are in the world -/
theorem Sim.cells (s : Sim C α Λ h ls w) {a : Pa} {L : Loc} (ha : α a = some L) {l : List V} (hl : h.cells a = some l) :
    ∀ (i : Nat) (v : V), l[i]? = some v → ∃ c, w.cell? ⟨L.blk, L.base + i, none⟩ = some c ∧ VR α v c := by
  unfold Heap.cells at hl
  cases hg : h.get a with
  | none => simp [hg] at hl
  | some b =>
    simp only [hg] at hl
    have hΛ : Λ a := by
      rcases s.live a L _ ha hg with h1 | ⟨m, h1⟩
      · exact h1
      · subst h1; simp at hl
    obtain ⟨b', h1, h2⟩ := s.blk a L ha hΛ
    rw [hg] at h1; injection h1 with h1; subst h1
    cases b with
    | cells m d =>
      simp only at hl
      cases d with
      | true => simp at hl
      | false =>
        simp at hl; subst hl
        obtain ⟨cs, el, fr, k1, _, _, ⟨_, k5⟩, _⟩ := h2
        intro i v hv
        obtain ⟨c, k6, k7⟩ := k5 i v hv
        exact ⟨c, cell_at k1 k6, k7⟩
    | ro m =>
      simp at hl; subst hl
      obtain ⟨cs, el, fr, k1, _, _, k5⟩ := h2
      intro i v hv
      obtain ⟨c, k6, k7⟩ := k5 i v hv
      exact ⟨c, cell_at k1 k6, k7⟩
    | map es c => simp at hl
    | loop r => simp at hl
    | dfr l => simp at hl

/-- so many cells from a place on -/
theorem Sim.loadNs (s : Sim C α Λ h ls w) {a : Pa} {L : Loc} (ha : α a = some L) {o n : Nat} {l : List V} (hl : h.loadN a o n = some l) :
    ∃ cs : List Value, cs.length = n ∧ VRs α l cs ∧ ∀ w1 : World, w1.heap = w.heap → (loadCells ⟨L.blk, L.base + o, none⟩ n).run P w1 = .ok cs.toArray w1 := by
  unfold Heap.loadN at hl
  cases hc : h.cells a with
  | none => simp [hc] at hl
  | some m =>
    simp only [hc, dropN_eq] at hl
    obtain ⟨h1, h2⟩ := takeN_eq hl
    have hcells := s.cells ha hc
    have hlen : l.length = n := by rw [h2]; simp at h1 ⊢; omega
    have hget : ∀ (i : Nat) (v : V), l[i]? = some v → ∃ c, w.cell? ⟨L.blk, L.base + o + i, none⟩ = some c ∧ VR α v c := by
      intro i v hv
      rw [h2, List.getElem?_take] at hv
      split at hv
      · rw [List.getElem?_drop] at hv
        obtain ⟨c, k1, k2⟩ := hcells _ _ hv
        exact ⟨c, by rw [Nat.add_assoc]; exact k1, k2⟩
      · cases hv
    have : ∀ (m : List V) (o' : Nat), (∀ (i : Nat) (v : V), m[i]? = some v → ∃ c, w.cell? ⟨L.blk, o' + i, none⟩ = some c ∧ VR α v c) →
        ∃ cs : List Value, cs.length = m.length ∧ VRs α m cs ∧ ∀ (j : Nat) (c : Value), cs[j]? = some c → w.cell? ⟨L.blk, o' + j, none⟩ = some c := by
      intro m
      induction m with
      | nil => intro o' _; exact ⟨[], rfl, .nil, fun j c hj => by simp at hj⟩
      | cons v m ih =>
        intro o' hm
        obtain ⟨c, k1, k2⟩ := hm 0 v (by simp)
        obtain ⟨cs, k3, k4, k5⟩ := ih (o' + 1) (fun i u hu => by
          obtain ⟨d, e1, e2⟩ := hm (i + 1) u (by simpa using hu)
          exact ⟨d, by rw [show o' + 1 + i = o' + (i + 1) from by omega]; exact e1, e2⟩)
        refine ⟨c :: cs, by simp [k3], .cons _ _ _ _ k2 k4, fun j d hd => ?_⟩
        cases j with
        | zero => simp at hd; subst hd; simpa using k1
        | succ j => simp at hd; rw [show o' + (j + 1) = o' + 1 + j from by omega]; exact k5 j d hd
    obtain ⟨cs, k1, k2, k3⟩ := this l (L.base + o) hget
    refine ⟨cs, by rw [k1, hlen], k2, fun w1 hw1 => ?_⟩
    have := r_loadCells (P := P) (w := w1) L.blk (L.base + o) cs (fun j c hj => by
      have := k3 j c hj
      unfold World.cell? at this ⊢
      rw [hw1]; exact this)
    rwa [k1, hlen] at this
theorem Sim.loadN (s : Sim C α Λ h ls w) {a : Pa} {L : Loc} (ha : α a = some L) {o n : Nat} {l : List V} (hl : h.loadN a o n = some l) :
    ∃ cs : List Value, cs.length = n ∧ VRs α l cs ∧ (loadCells ⟨L.blk, L.base + o, none⟩ n).run P w = .ok cs.toArray w :=
  let ⟨cs, h1, h2, h3⟩ := s.loadNs (P := P) ha hl
  ⟨cs, h1, h2, h3 w rfl⟩

theorem r_loadVar1 {t : TypeId} {a : Addr} {c : Value} (ha : (isAgg t).run P w = .ok false w) (hc : w.cell? a = some c) : (loadVar t a).run P w = .ok c w := by
  simp [loadVar, ha, hc]
theorem r_loadVarN {t : TypeId} {a : Addr} {i : TypeInfo} {cs : Array Value} (ha : (isAgg t).run P w = .ok true w) (hi : P.info? t = some i)
    (hc : (loadCells a i.size).run P w = .ok cs w) : (loadVar t a).run P w = .ok (.agg cs) w := by
  simp [loadVar, ha, r_size hi, hc]

theorem loadV_sound (s : Sim C α Λ h ls w) {n : Option Nat} {t : TypeId} (hn : shapeT P t = some n) {x v : V} {c : Value} (hx : VR α x c) (hv : loadV h n x = some v) :
    ∃ a d, c = .pointer (some a) ∧ (loadVar t a).run P w = .ok d w ∧ VR α v d := by
  cases x with
  | ptr a o =>
    cases hx with
    | ptr _ _ L ha =>
      simp only [loadV] at hv
      cases n with
      | none =>
        simp only at hv
        obtain ⟨i, hi, hagg⟩ := shapeT_none hn
        cases hc : h.cells a with
        | none => simp [hc] at hv
        | some l =>
          simp only [hc, nth_eq] at hv
          obtain ⟨d, k1, k2⟩ := s.cells ha hc _ _ hv
          exact ⟨_, d, rfl, r_loadVar1 (hagg w) k1, k2⟩
      | some n =>
        simp only at hv
        obtain ⟨i, hi, hsz, hagg⟩ := shapeT_some hn
        split at hv
        · rename_i l hl
          simp at hv; subst hv
          obtain ⟨cs, k1, k2, k3⟩ := s.loadN (P := P) ha hl
          exact ⟨_, .agg cs.toArray, rfl, r_loadVarN (hagg w) hi (by rw [hsz]; exact k3), .agg _ _ k2⟩
        · cases hv
  | _ => simp [loadV] at hv
end Go.Ev

namespace Go.Ev

theorem kEq_iff {a b : IntKind} (h : kEq a b = true) : a = b := by
  cases a <;> cases b <;> first | rfl | (simp [kEq, kNum, Nat.beq] at h; done)
theorem iEq_eq (a b : Int) : iEq a b = (a == b) := by
  cases a <;> cases b <;> simp [iEq] <;> rw [Bool.eq_iff_iff] <;> simp <;> omega
theorem iLt_eq (a b : Int) : iLt a b = decide (a < b) := by
  cases a <;> cases b <;> simp only [iLt] <;> rw [Bool.eq_iff_iff] <;> simp [Int.negSucc_eq] <;> omega
theorem iAdd_eq (a b : Int) : iAdd a b = a + b := by cases a <;> cases b <;> simp [iAdd]
theorem iSub_eq (a b : Int) : iSub a b = a - b := by
  cases a <;> cases b <;> simp only [iSub]
  rename_i a b
  cases h : Nat.ble b a with
  | true => simp at h; simp; omega
  | false => simp
theorem iMul_eq (a b : Int) : iMul a b = a * b := by cases a <;> cases b <;> simp [iMul]
theorem wrap_nat (k : IntKind) (a : Nat) (h : a ≤ topK k) : k.wrap (Int.ofNat a) = Int.ofNat a := by
  cases k <;> simp only [topK] at h
  · exact IntWalk.i8_in _ (by simp only [Int.ofNat_eq_natCast]; omega)
  · exact IntWalk.i16_in _ (by simp only [Int.ofNat_eq_natCast]; omega)
  · exact IntWalk.i32_in _ (by simp only [Int.ofNat_eq_natCast]; omega)
  · exact IntWalk.i64_in _ (by simp only [Int.ofNat_eq_natCast]; omega)
  · exact IntWalk.u8_in _ (by simp only [Int.ofNat_eq_natCast]; omega)
  · exact IntWalk.u16_in _ (by simp only [Int.ofNat_eq_natCast]; omega)
  · exact IntWalk.u32_in _ (by simp only [Int.ofNat_eq_natCast]; omega)
  · exact IntWalk.u64_in _ (by simp only [Int.ofNat_eq_natCast]; omega)
theorem wrap_neg (k : IntKind) (a : Nat) (h1 : k.signed = true) (h : a ≤ topK k) : k.wrap (Int.negSucc a) = Int.negSucc a := by
  cases k <;> simp only [topK] at h <;> first | cases h1 | skip
  · exact IntWalk.i8_in _ (by simp only [Int.negSucc_eq]; omega)
  · exact IntWalk.i16_in _ (by simp only [Int.negSucc_eq]; omega)
  · exact IntWalk.i32_in _ (by simp only [Int.negSucc_eq]; omega)
  · exact IntWalk.i64_in _ (by simp only [Int.negSucc_eq]; omega)
theorem wrapF_eq (k : IntKind) (n : Int) : wrapF k n = k.wrap n := by
  cases n with
  | ofNat a =>
    simp only [wrapF]
    cases h : Nat.ble a (topK k) with
    | false => rfl
    | true => exact (wrap_nat k a (Nat.le_of_ble_eq_true h)).symm
  | negSucc a =>
    simp only [wrapF]
    cases h : (k.signed && Nat.ble a (topK k)) with
    | false => rfl
    | true =>
      rw [Bool.and_eq_true] at h
      exact (wrap_neg k a h.1 (Nat.le_of_ble_eq_true h.2)).symm
theorem bEq_eq (a b : Bool) : bEq a b = (a == b) := by cases a <;> cases b <;> rfl
theorem sEq_eq (a b : List UInt8) : sEq a b = (a == b) := by
  induction a generalizing b with
  | nil => cases b <;> rfl
  | cons x a ih =>
    cases b with
    | nil => rfl
    | cons y b =>
      simp only [sEq, ih, List.cons_beq_cons]
      cases h : Nat.beq x.toNat y.toNat with
      | true =>
        have : x = y := UInt8.toNat_inj.1 (by simpa using h)
        simp [this]
      | false =>
        have : (x == y) = false := by
          rw [beq_eq_false_iff_ne]; intro e; subst e; simp at h
        simp [this]
theorem sLt_eq (a b : List UInt8) : sLt a b = Op.bytesLess a b := by
  induction a generalizing b with
  | nil => cases b <;> rfl
  | cons x a ih =>
    cases b with
    | nil => rfl
    | cons y b =>
      simp only [sLt, Op.bytesLess, ih]
      by_cases h1 : x < y
      · have : Nat.blt x.toNat y.toNat = true := by simpa [UInt8.lt_iff_toNat_lt] using h1
        simp [this, h1]
      · have h1' : Nat.blt x.toNat y.toNat = false := by
          rw [Bool.eq_false_iff]; intro e; apply h1; simpa [UInt8.lt_iff_toNat_lt] using e
        simp only [h1', h1, cond_false, decide_false, Bool.false_or]
        cases h : Nat.beq x.toNat y.toNat with
        | true =>
          have : x = y := UInt8.toNat_inj.1 (by simpa using h)
          simp [this]
        | false =>
          have : (x == y) = false := by
            rw [beq_eq_false_iff_ne]; intro e; subst e; simp at h
          simp [this]

variable {P : Program} {w : World} {α : AM}

theorem flatT_some {t : TypeId} {q : FlatK} (h : flatT P t = some q) :
    (q = .b ∧ P.underlying t = some .bool) ∨ (q = .i ∧ ∃ k, P.underlying t = some (.int k)) ∨ (q = .s ∧ P.underlying t = some .string) := by
  unfold flatT at h
  split at h <;> first | (cases h; simp_all; done) | cases h

theorem flat_sound {x y : V} {c d : Value} {b : Bool} {q : FlatK} (hx : VR α x c) (hy : VR α y d) (h : flatEq q x y = some b) {t : TypeId} (ht : flatT P t = some q) (n : Nat) :
    (Op.equalIn (n + 1) t c d).run P w = .ok b w := by
  rcases flatT_some ht with ⟨rfl, hu⟩ | ⟨rfl, k, hu⟩ | ⟨rfl, hu⟩
  · cases x <;> simp only [flatEq] at h <;> (try cases h)
    cases y <;> simp only at h <;> (try cases h)
    cases hx; cases hy
    rw [run_equalIn_bool' w n t _ _ hu, bEq_eq]
  · cases x <;> simp only [flatEq] at h <;> (try cases h)
    cases y <;> simp only at h <;> (try cases h)
    rename_i k i k' j
    cases hk : kEq k k' with
    | false => simp [hk] at h
    | true =>
      have := kEq_iff hk; subst this
      simp [hk] at h; subst h
      cases hx; cases hy
      rw [run_equalIn_int w n t _ _ _ _ hu, iEq_eq]
  · cases x <;> simp only [flatEq] at h <;> (try cases h)
    cases y <;> simp only at h <;> (try cases h)
    cases hx; cases hy
    rw [run_equalIn_string w n t _ _ hu, sEq_eq, ByteArray.toList_eq, ByteArray.toList_eq]

theorem isAgg_flat {t : TypeId} {q : FlatK} (ht : flatT P t = some q) : (isAgg t).run P w = .ok false w := by
  rcases flatT_some ht with ⟨_, hu⟩ | ⟨_, k, hu⟩ | ⟨_, hu⟩ <;> simp [isAgg, r_und hu]

theorem r_part1 {t : TypeId} {cs : Array Value} {o : Nat} {c : Value} (ha : (isAgg t).run P w = .ok false w) (hc : cs[o]? = some c) : (Go.part t cs o).run P w = .ok c w := by
  simp [Go.part, ha, hc]

theorem eqFields_sound (n : Nat) {xs ys : List V} {cs ds : List Value} (hx : VRs α xs cs) (hy : VRs α ys ds) :
    ∀ (fs : List Field) (l : List (Nat × FlatK)) (b : Bool), flatOffs P fs = some l → aggEq xs ys l = some b →
      (Op.eqFields (n + 1) cs.toArray ds.toArray fs).run P w = .ok b w
  | [], l, b, hl, hb => by
    simp [flatOffs] at hl; subst hl
    simp [aggEq] at hb; subst hb
    simp [Op.eqFields]
  | f :: fs, l, b, hl, hb => by
    simp only [flatOffs] at hl
    cases hfs : flatOffs P fs with
    | none => simp [hfs] at hl
    | some m =>
      simp only [hfs] at hl
      by_cases hn : f.name ≠ "_"
      · rw [if_pos hn] at hl
        cases hq : flatT P f.type with
        | none => simp [hq] at hl
        | some q =>
          simp [hq] at hl; subst hl
          simp only [aggEq, nth_eq] at hb
          cases ha : xs[f.offset]? with
          | none => simp [ha] at hb
          | some a =>
            cases ha' : ys[f.offset]? with
            | none => simp [ha, ha'] at hb
            | some a' =>
              simp only [ha, ha'] at hb
              obtain ⟨c, hc, hac⟩ := hx.get ha
              obtain ⟨d, hd, had⟩ := hy.get ha'
              have hagg : ∀ w, (isAgg f.type).run P w = .ok false w := fun w => isAgg_flat hq
              cases he : flatEq q a a' with
              | none => simp [he] at hb
              | some r =>
                have hr := flat_sound (P := P) (w := w) hac had he hq n
                have p1 := r_part1 (P := P) (w := w) (cs := cs.toArray) (o := f.offset) (hagg w) (by simpa using hc)
                have p2 := r_part1 (P := P) (w := w) (cs := ds.toArray) (o := f.offset) (hagg w) (by simpa using hd)
                have ih := eqFields_sound n hx hy fs m
                cases r with
                | true =>
                  simp only [he] at hb
                  simp only [Op.eqFields, hn, ne_eq, not_false_eq_true, if_true, Sem.run_bind, p1, Result.andThen_ok, p2, hr]
                  simp [ih b hfs hb]
                | false =>
                  simp [he] at hb; subst hb
                  simp only [Op.eqFields, hn, ne_eq, not_false_eq_true, if_true, Sem.run_bind, p1, Result.andThen_ok, p2, hr]
                  simp
      · rw [if_neg hn] at hl
        cases hl
        simp only [Op.eqFields, hn, if_false]
        exact eqFields_sound n hx hy fs _ b hfs hb

/-- the guard at nil values of an interface, and at structs, lets by -/
theorem r_guard (op : BinOp) (t : TypeId) (x y : Operand) (c d : Value) (h1 : c = .nilIface → d = .nilIface → isC x || isC y)
    (h2 : ∀ a b, c = .agg a → d = .agg b → P.eqGuardType P.depth t = false) : (eqGuard op t x y c d).run P w = .ok () w := by
  unfold eqGuard
  cases op <;> first
    | rfl
    | (simp only [Bool.not_true, Bool.false_eq_true, if_false]
       split
       · have h1' := h1 rfl rfl
         cases x <;> cases y <;> first | rfl | (simp [isC] at h1'; done)
       · rename_i a b
         simp [h2 a b rfl rfl]
       · rfl)

theorem r_equal (t : TypeId) (c d : Value) : ∃ m, (Op.equal t c d) = Op.equalIn (m + 1 + 1) t c d := ⟨9998, rfl⟩

theorem isNil_nil {q : EqK} {x : V} (h : isNil q x = .nil) : (q = .ptr ∧ x = .no .ptr) ∨ (q = .iface ∧ x = .no .iface) ∨ (q = .slice ∧ x = .no .sl) ∨ (q = .func ∧ x = .no .fn) ∨ (q = .map ∧ x = .no .map) := by
  cases x <;> simp only [isNil] at h <;> (try (cases q <;> cases h; done))
  rename_i k
  cases q <;> cases k <;> simp_all
theorem isNil_some {q : EqK} {x : V} (h : isNil q x = .some) : (q = .ptr ∧ ∃ a o, x = .ptr a o) ∨ (q = .iface ∧ ∃ t v, x = .iface t v) ∨ (q = .slice ∧ ∃ a o n c, x = .sl a o n c) ∨ (q = .func ∧ ∃ f l, x = .fn f l) ∨ (q = .map ∧ ∃ a, x = .map a) := by
  cases x <;> simp only [isNil] at h <;> (try (cases q <;> cases h; done)) <;> cases q <;> (try (simp_all; done)) <;> (rename_i k; cases k <;> simp_all)

/-- what a type is held against by -/
theorem eqT_cases (t : TypeId) : (∃ q, eqT P t = .flat q ∧ flatT P t = some q) ∨
    (∃ l fs, eqT P t = .agg l ∧ P.underlying t = some (.struct fs) ∧ flatOffs P fs.toList = some l ∧ P.stoodInHeld t = false ∧ P.eqGuardType P.depth t = false) ∨
    (eqT P t = .ptr ∧ ∃ e, P.underlying t = some (.pointer e)) ∨ (eqT P t = .iface ∧ ∃ e, P.underlying t = some (.interface e)) ∨
    (eqT P t = .slice ∧ ∃ e, P.underlying t = some (.slice e)) ∨ (eqT P t = .func ∧ ∃ a b c, P.underlying t = some (.func a b c)) ∨
    (eqT P t = .map ∧ ∃ a b, P.underlying t = some (.map a b)) ∨ eqT P t = .no := by
  unfold eqT flatT
  cases hu : P.underlying t with
  | none => simp
  | some d =>
    cases d <;> simp
    rename_i fs
    cases hf : flatOffs P fs.toList with
    | none => simp
    | some l =>
      cases hh : (P.stoodInHeld t || P.eqGuardType P.depth t) with
      | true => simp
      | false =>
        have hh' := hh
        rw [Bool.or_eq_false_iff] at hh'
        simp [hh'.1, hh'.2]
theorem eqT_ptr {t : TypeId} (h : eqT P t = .ptr) : ∃ e, P.underlying t = some (.pointer e) := by
  rcases eqT_cases (P := P) t with ⟨_, h1, _⟩ | ⟨_, _, h1, _⟩ | ⟨h1, h2⟩ | ⟨h1, h2⟩ | ⟨h1, h2⟩ | ⟨h1, h2⟩ | ⟨h1, h2⟩ | h1 <;> rw [h] at h1 <;> first | exact h2 | cases h1
theorem eqT_iface {t : TypeId} (h : eqT P t = .iface) : ∃ e, P.underlying t = some (.interface e) := by
  rcases eqT_cases (P := P) t with ⟨_, h1, _⟩ | ⟨_, _, h1, _⟩ | ⟨h1, h2⟩ | ⟨h1, h2⟩ | ⟨h1, h2⟩ | ⟨h1, h2⟩ | ⟨h1, h2⟩ | h1 <;> rw [h] at h1 <;> first | exact h2 | cases h1
theorem eqT_slice {t : TypeId} (h : eqT P t = .slice) : ∃ e, P.underlying t = some (.slice e) := by
  rcases eqT_cases (P := P) t with ⟨_, h1, _⟩ | ⟨_, _, h1, _⟩ | ⟨h1, h2⟩ | ⟨h1, h2⟩ | ⟨h1, h2⟩ | ⟨h1, h2⟩ | ⟨h1, h2⟩ | h1 <;> rw [h] at h1 <;> first | exact h2 | cases h1
theorem eqT_func {t : TypeId} (h : eqT P t = .func) : ∃ a b c, P.underlying t = some (.func a b c) := by
  rcases eqT_cases (P := P) t with ⟨_, h1, _⟩ | ⟨_, _, h1, _⟩ | ⟨h1, h2⟩ | ⟨h1, h2⟩ | ⟨h1, h2⟩ | ⟨h1, h2⟩ | ⟨h1, h2⟩ | h1 <;> rw [h] at h1 <;> first | exact h2 | cases h1
theorem eqT_map {t : TypeId} (h : eqT P t = .map) : ∃ a b, P.underlying t = some (.map a b) := by
  rcases eqT_cases (P := P) t with ⟨_, h1, _⟩ | ⟨_, _, h1, _⟩ | ⟨h1, h2⟩ | ⟨h1, h2⟩ | ⟨h1, h2⟩ | ⟨h1, h2⟩ | ⟨h1, h2⟩ | h1 <;> rw [h] at h1 <;> first | exact h2 | cases h1
theorem eqT_flat {t : TypeId} {q : FlatK} (h : eqT P t = .flat q) : flatT P t = some q := by
  rcases eqT_cases (P := P) t with ⟨_, h1, h2⟩ | ⟨_, _, h1, _⟩ | ⟨h1, h2⟩ | ⟨h1, h2⟩ | ⟨h1, h2⟩ | ⟨h1, h2⟩ | ⟨h1, h2⟩ | h1 <;> rw [h] at h1 <;> first | (cases h1; exact h2) | cases h1
theorem eqT_agg {t : TypeId} {l : List (Nat × FlatK)} (h : eqT P t = .agg l) :
    ∃ fs, P.underlying t = some (.struct fs) ∧ flatOffs P fs.toList = some l ∧ P.stoodInHeld t = false ∧ P.eqGuardType P.depth t = false := by
  rcases eqT_cases (P := P) t with ⟨_, h1, h2⟩ | ⟨_, fs, h1, h2⟩ | ⟨h1, h2⟩ | ⟨h1, h2⟩ | ⟨h1, h2⟩ | ⟨h1, h2⟩ | ⟨h1, h2⟩ | h1 <;> rw [h] at h1 <;> first | (cases h1; exact ⟨fs, h2⟩) | cases h1

section
variable {t : TypeId} (n : Nat)
theorem rq_ptr1 {e : TypeId} (hu : P.underlying t = some (.pointer e)) (b : Option Addr) : (Op.equalIn (n + 1) t (.pointer none) (.pointer b)).run P w = .ok b.isNone w := by
  simp only [Op.equalIn, Sem.run_bind, r_und hu, Result.andThen_ok]; rfl
theorem rq_ptr2 {e : TypeId} (hu : P.underlying t = some (.pointer e)) (a : Addr) : (Op.equalIn (n + 1) t (.pointer (some a)) (.pointer none)).run P w = .ok false w := by
  simp only [Op.equalIn, Sem.run_bind, r_und hu, Result.andThen_ok]; rfl
theorem rq_if1 {e : Array (String × TypeId)} (hu : P.underlying t = some (.interface e)) : (Op.equalIn (n + 1) t .nilIface .nilIface).run P w = .ok true w := by
  simp only [Op.equalIn, Sem.run_bind, r_und hu, Result.andThen_ok]; rfl
theorem rq_if2 {e : Array (String × TypeId)} (hu : P.underlying t = some (.interface e)) (k : TypeId) (v : Value) : (Op.equalIn (n + 1) t .nilIface (.iface k v)).run P w = .ok false w := by
  simp only [Op.equalIn, Sem.run_bind, r_und hu, Result.andThen_ok]; rfl
theorem rq_if3 {e : Array (String × TypeId)} (hu : P.underlying t = some (.interface e)) (k : TypeId) (v : Value) : (Op.equalIn (n + 1) t (.iface k v) .nilIface).run P w = .ok false w := by
  simp only [Op.equalIn, Sem.run_bind, r_und hu, Result.andThen_ok]; rfl
theorem rq_sl1 {e : TypeId} (hu : P.underlying t = some (.slice e)) (i j : Nat) (b : Option Addr) (k l : Nat) : (Op.equalIn (n + 1) t (.slice none i j) (.slice b k l)).run P w = .ok b.isNone w := by
  simp only [Op.equalIn, Sem.run_bind, r_und hu, Result.andThen_ok]; rfl
theorem rq_sl2 {e : TypeId} (hu : P.underlying t = some (.slice e)) (i j : Nat) (a : Addr) (k l : Nat) : (Op.equalIn (n + 1) t (.slice (some a) i j) (.slice none k l)).run P w = .ok false w := by
  simp only [Op.equalIn, Sem.run_bind, r_und hu, Result.andThen_ok]; rfl
theorem rq_fn1 {e1 e2 : Array TypeId} {e3 : Bool} (hu : P.underlying t = some (.func e1 e2 e3)) : (Op.equalIn (n + 1) t .nilFunc .nilFunc).run P w = .ok true w := by
  simp only [Op.equalIn, Sem.run_bind, r_und hu, Result.andThen_ok]; rfl
theorem rq_fn2 {e1 e2 : Array TypeId} {e3 : Bool} (hu : P.underlying t = some (.func e1 e2 e3)) (f : Fn) (a b : Array Value) : (Op.equalIn (n + 1) t .nilFunc (.func f a b)).run P w = .ok false w := by
  simp only [Op.equalIn, Sem.run_bind, r_und hu, Result.andThen_ok]; rfl
theorem rq_fn3 {e1 e2 : Array TypeId} {e3 : Bool} (hu : P.underlying t = some (.func e1 e2 e3)) (f : Fn) (a b : Array Value) : (Op.equalIn (n + 1) t (.func f a b) .nilFunc).run P w = .ok false w := by
  simp only [Op.equalIn, Sem.run_bind, r_und hu, Result.andThen_ok]; rfl
theorem rq_map1 {e1 e2 : TypeId} (hu : P.underlying t = some (.map e1 e2)) (b : Option Nat) : (Op.equalIn (n + 1) t (.map none) (.map b)).run P w = .ok b.isNone w := by
  simp only [Op.equalIn, Sem.run_bind, r_und hu, Result.andThen_ok]; rfl
theorem rq_map2 {e1 e2 : TypeId} (hu : P.underlying t = some (.map e1 e2)) (b : Nat) : (Op.equalIn (n + 1) t (.map (some b)) (.map none)).run P w = .ok false w := by
  simp only [Op.equalIn, Sem.run_bind, r_und hu, Result.andThen_ok]; rfl
end

/-- what two values are held against each other by -/
theorem eqV_sound {x y : V} {c d : Value} {b : Bool} (hx : VR α x c) (hy : VR α y d) {t : TypeId} (h : eqV (eqT P t) x y = some b) :
    (Op.equal t c d).run P w = .ok b w ∧ (∀ e f, c = .agg e → d = .agg f → P.eqGuardType P.depth t = false) ∧ (c = .nilIface → eqT P t = .iface) := by
  obtain ⟨m, hm⟩ := r_equal t c d
  rw [hm]; clear hm
  cases hq : eqT P t with
  | flat q =>
    rw [hq] at h; simp only [eqV] at h
    refine ⟨flat_sound hx hy h (eqT_flat hq) (m + 1), fun e f he _ => ?_, fun he => ?_⟩
    · subst he
      cases hx <;> cases q <;> simp [flatEq] at h
    · subst he
      cases hx <;> cases q <;> simp [flatEq] at h
  | agg l =>
    rw [hq] at h; simp only [eqV] at h
    obtain ⟨fs, hu, hl, hst, hgt⟩ := eqT_agg hq
    cases x <;> simp only at h <;> (try (cases h; done))
    cases y <;> simp only at h <;> (try (cases h; done))
    cases hx with
    | agg xs cs hxs =>
      cases hy with
      | agg ys ds hys =>
        refine ⟨?_, fun _ _ _ _ => hgt, fun he => by cases he⟩
        have hfo : P.fieldsOf t = fs := by simp [Program.fieldsOf, hu]
        rw [run_equalIn_struct w (m + 1) t _ _ (by rw [hfo]; exact hu) hst, hfo]
        exact eqFields_sound m hxs hys fs.toList l b hl h
  | no => rw [hq] at h; simp [eqV, isNil] at h; cases x <;> cases y <;> simp at h
  | ptr =>
    rw [hq] at h; simp only [eqV] at h
    obtain ⟨e, hu⟩ := eqT_ptr hq
    split at h <;> (try (cases h; done)) <;> cases h <;> rename_i h1 h2
    · rcases isNil_nil h1 with ⟨_, rfl⟩ | ⟨h3, _⟩ | ⟨h3, _⟩ | ⟨h3, _⟩ | ⟨h3, _⟩ <;> (try cases h3)
      rcases isNil_nil h2 with ⟨_, rfl⟩ | ⟨h3, _⟩ | ⟨h3, _⟩ | ⟨h3, _⟩ | ⟨h3, _⟩ <;> (try cases h3)
      cases hx; cases hy
      exact ⟨(by first | exact rq_ptr1 _ hu _ | exact rq_ptr2 _ hu _ | exact rq_if1 _ hu | exact rq_if2 _ hu _ _ | exact rq_if3 _ hu _ _ | exact rq_sl1 _ hu _ _ _ _ _ | exact rq_sl2 _ hu _ _ _ _ _ | exact rq_fn1 _ hu | exact rq_fn2 _ hu _ _ _ | exact rq_fn3 _ hu _ _ _ | exact rq_map1 _ hu _ | exact rq_map2 _ hu _), fun _ _ he _ => (by cases he), fun he => (by cases he)⟩
    · rcases isNil_nil h1 with ⟨_, rfl⟩ | ⟨h3, _⟩ | ⟨h3, _⟩ | ⟨h3, _⟩ | ⟨h3, _⟩ <;> (try cases h3)
      rcases isNil_some h2 with ⟨_, _, _, rfl⟩ | ⟨h3, _⟩ | ⟨h3, _⟩ | ⟨h3, _⟩ | ⟨h3, _⟩ <;> (try cases h3)
      cases hx; cases hy
      exact ⟨(by first | exact rq_ptr1 _ hu _ | exact rq_ptr2 _ hu _ | exact rq_if1 _ hu | exact rq_if2 _ hu _ _ | exact rq_if3 _ hu _ _ | exact rq_sl1 _ hu _ _ _ _ _ | exact rq_sl2 _ hu _ _ _ _ _ | exact rq_fn1 _ hu | exact rq_fn2 _ hu _ _ _ | exact rq_fn3 _ hu _ _ _ | exact rq_map1 _ hu _ | exact rq_map2 _ hu _), fun _ _ he _ => (by cases he), fun he => (by cases he)⟩
    · rcases isNil_some h1 with ⟨_, _, _, rfl⟩ | ⟨h3, _⟩ | ⟨h3, _⟩ | ⟨h3, _⟩ | ⟨h3, _⟩ <;> (try cases h3)
      rcases isNil_nil h2 with ⟨_, rfl⟩ | ⟨h3, _⟩ | ⟨h3, _⟩ | ⟨h3, _⟩ | ⟨h3, _⟩ <;> (try cases h3)
      cases hx; cases hy
      exact ⟨(by first | exact rq_ptr1 _ hu _ | exact rq_ptr2 _ hu _ | exact rq_if1 _ hu | exact rq_if2 _ hu _ _ | exact rq_if3 _ hu _ _ | exact rq_sl1 _ hu _ _ _ _ _ | exact rq_sl2 _ hu _ _ _ _ _ | exact rq_fn1 _ hu | exact rq_fn2 _ hu _ _ _ | exact rq_fn3 _ hu _ _ _ | exact rq_map1 _ hu _ | exact rq_map2 _ hu _), fun _ _ he _ => (by cases he), fun he => (by cases he)⟩
  | iface =>
    rw [hq] at h; simp only [eqV] at h
    obtain ⟨e, hu⟩ := eqT_iface hq
    split at h <;> (try (cases h; done)) <;> cases h <;> rename_i h1 h2
    · rcases isNil_nil h1 with ⟨h3, _⟩ | ⟨_, rfl⟩ | ⟨h3, _⟩ | ⟨h3, _⟩ | ⟨h3, _⟩ <;> (try cases h3)
      rcases isNil_nil h2 with ⟨h3, _⟩ | ⟨_, rfl⟩ | ⟨h3, _⟩ | ⟨h3, _⟩ | ⟨h3, _⟩ <;> (try cases h3)
      cases hx; cases hy
      exact ⟨(by first | exact rq_ptr1 _ hu _ | exact rq_ptr2 _ hu _ | exact rq_if1 _ hu | exact rq_if2 _ hu _ _ | exact rq_if3 _ hu _ _ | exact rq_sl1 _ hu _ _ _ _ _ | exact rq_sl2 _ hu _ _ _ _ _ | exact rq_fn1 _ hu | exact rq_fn2 _ hu _ _ _ | exact rq_fn3 _ hu _ _ _ | exact rq_map1 _ hu _ | exact rq_map2 _ hu _), fun _ _ he _ => (by cases he), fun _ => rfl⟩
    · rcases isNil_nil h1 with ⟨h3, _⟩ | ⟨_, rfl⟩ | ⟨h3, _⟩ | ⟨h3, _⟩ | ⟨h3, _⟩ <;> (try cases h3)
      rcases isNil_some h2 with ⟨h3, _⟩ | ⟨_, _, _, rfl⟩ | ⟨h3, _⟩ | ⟨h3, _⟩ | ⟨h3, _⟩ <;> (try cases h3)
      cases hx; cases hy
      exact ⟨(by first | exact rq_ptr1 _ hu _ | exact rq_ptr2 _ hu _ | exact rq_if1 _ hu | exact rq_if2 _ hu _ _ | exact rq_if3 _ hu _ _ | exact rq_sl1 _ hu _ _ _ _ _ | exact rq_sl2 _ hu _ _ _ _ _ | exact rq_fn1 _ hu | exact rq_fn2 _ hu _ _ _ | exact rq_fn3 _ hu _ _ _ | exact rq_map1 _ hu _ | exact rq_map2 _ hu _), fun _ _ he _ => (by cases he), fun _ => rfl⟩
    · rcases isNil_some h1 with ⟨h3, _⟩ | ⟨_, _, _, rfl⟩ | ⟨h3, _⟩ | ⟨h3, _⟩ | ⟨h3, _⟩ <;> (try cases h3)
      rcases isNil_nil h2 with ⟨h3, _⟩ | ⟨_, rfl⟩ | ⟨h3, _⟩ | ⟨h3, _⟩ | ⟨h3, _⟩ <;> (try cases h3)
      cases hx; cases hy
      exact ⟨(by first | exact rq_ptr1 _ hu _ | exact rq_ptr2 _ hu _ | exact rq_if1 _ hu | exact rq_if2 _ hu _ _ | exact rq_if3 _ hu _ _ | exact rq_sl1 _ hu _ _ _ _ _ | exact rq_sl2 _ hu _ _ _ _ _ | exact rq_fn1 _ hu | exact rq_fn2 _ hu _ _ _ | exact rq_fn3 _ hu _ _ _ | exact rq_map1 _ hu _ | exact rq_map2 _ hu _), fun _ _ he _ => (by cases he), fun _ => rfl⟩
  | slice =>
    rw [hq] at h; simp only [eqV] at h
    obtain ⟨e, hu⟩ := eqT_slice hq
    split at h <;> (try (cases h; done)) <;> cases h <;> rename_i h1 h2
    · rcases isNil_nil h1 with ⟨h3, _⟩ | ⟨h3, _⟩ | ⟨_, rfl⟩ | ⟨h3, _⟩ | ⟨h3, _⟩ <;> (try cases h3)
      rcases isNil_nil h2 with ⟨h3, _⟩ | ⟨h3, _⟩ | ⟨_, rfl⟩ | ⟨h3, _⟩ | ⟨h3, _⟩ <;> (try cases h3)
      cases hx; cases hy
      exact ⟨(by first | exact rq_ptr1 _ hu _ | exact rq_ptr2 _ hu _ | exact rq_if1 _ hu | exact rq_if2 _ hu _ _ | exact rq_if3 _ hu _ _ | exact rq_sl1 _ hu _ _ _ _ _ | exact rq_sl2 _ hu _ _ _ _ _ | exact rq_fn1 _ hu | exact rq_fn2 _ hu _ _ _ | exact rq_fn3 _ hu _ _ _ | exact rq_map1 _ hu _ | exact rq_map2 _ hu _), fun _ _ he _ => (by cases he), fun he => (by cases he)⟩
    · rcases isNil_nil h1 with ⟨h3, _⟩ | ⟨h3, _⟩ | ⟨_, rfl⟩ | ⟨h3, _⟩ | ⟨h3, _⟩ <;> (try cases h3)
      rcases isNil_some h2 with ⟨h3, _⟩ | ⟨h3, _⟩ | ⟨_, _, _, _, _, rfl⟩ | ⟨h3, _⟩ | ⟨h3, _⟩ <;> (try cases h3)
      cases hx; cases hy <;>
      exact ⟨(by first | exact rq_ptr1 _ hu _ | exact rq_ptr2 _ hu _ | exact rq_if1 _ hu | exact rq_if2 _ hu _ _ | exact rq_if3 _ hu _ _ | exact rq_sl1 _ hu _ _ _ _ _ | exact rq_sl2 _ hu _ _ _ _ _ | exact rq_fn1 _ hu | exact rq_fn2 _ hu _ _ _ | exact rq_fn3 _ hu _ _ _ | exact rq_map1 _ hu _ | exact rq_map2 _ hu _), fun _ _ he _ => (by cases he), fun he => (by cases he)⟩
    · rcases isNil_some h1 with ⟨h3, _⟩ | ⟨h3, _⟩ | ⟨_, _, _, _, _, rfl⟩ | ⟨h3, _⟩ | ⟨h3, _⟩ <;> (try cases h3)
      rcases isNil_nil h2 with ⟨h3, _⟩ | ⟨h3, _⟩ | ⟨_, rfl⟩ | ⟨h3, _⟩ | ⟨h3, _⟩ <;> (try cases h3)
      cases hy; cases hx <;>
      exact ⟨(by first | exact rq_ptr1 _ hu _ | exact rq_ptr2 _ hu _ | exact rq_if1 _ hu | exact rq_if2 _ hu _ _ | exact rq_if3 _ hu _ _ | exact rq_sl1 _ hu _ _ _ _ _ | exact rq_sl2 _ hu _ _ _ _ _ | exact rq_fn1 _ hu | exact rq_fn2 _ hu _ _ _ | exact rq_fn3 _ hu _ _ _ | exact rq_map1 _ hu _ | exact rq_map2 _ hu _), fun _ _ he _ => (by cases he), fun he => (by cases he)⟩
  | func =>
    rw [hq] at h; simp only [eqV] at h
    obtain ⟨e, e2, e3, hu⟩ := eqT_func hq
    split at h <;> (try (cases h; done)) <;> cases h <;> rename_i h1 h2
    · rcases isNil_nil h1 with ⟨h3, _⟩ | ⟨h3, _⟩ | ⟨h3, _⟩ | ⟨_, rfl⟩ | ⟨h3, _⟩ <;> (try cases h3)
      rcases isNil_nil h2 with ⟨h3, _⟩ | ⟨h3, _⟩ | ⟨h3, _⟩ | ⟨_, rfl⟩ | ⟨h3, _⟩ <;> (try cases h3)
      cases hx; cases hy
      exact ⟨(by first | exact rq_ptr1 _ hu _ | exact rq_ptr2 _ hu _ | exact rq_if1 _ hu | exact rq_if2 _ hu _ _ | exact rq_if3 _ hu _ _ | exact rq_sl1 _ hu _ _ _ _ _ | exact rq_sl2 _ hu _ _ _ _ _ | exact rq_fn1 _ hu | exact rq_fn2 _ hu _ _ _ | exact rq_fn3 _ hu _ _ _ | exact rq_map1 _ hu _ | exact rq_map2 _ hu _), fun _ _ he _ => (by cases he), fun he => (by cases he)⟩
    · rcases isNil_nil h1 with ⟨h3, _⟩ | ⟨h3, _⟩ | ⟨h3, _⟩ | ⟨_, rfl⟩ | ⟨h3, _⟩ <;> (try cases h3)
      rcases isNil_some h2 with ⟨h3, _⟩ | ⟨h3, _⟩ | ⟨h3, _⟩ | ⟨_, _, _, rfl⟩ | ⟨h3, _⟩ <;> (try cases h3)
      cases hx; cases hy
      exact ⟨(by first | exact rq_ptr1 _ hu _ | exact rq_ptr2 _ hu _ | exact rq_if1 _ hu | exact rq_if2 _ hu _ _ | exact rq_if3 _ hu _ _ | exact rq_sl1 _ hu _ _ _ _ _ | exact rq_sl2 _ hu _ _ _ _ _ | exact rq_fn1 _ hu | exact rq_fn2 _ hu _ _ _ | exact rq_fn3 _ hu _ _ _ | exact rq_map1 _ hu _ | exact rq_map2 _ hu _), fun _ _ he _ => (by cases he), fun he => (by cases he)⟩
    · rcases isNil_some h1 with ⟨h3, _⟩ | ⟨h3, _⟩ | ⟨h3, _⟩ | ⟨_, _, _, rfl⟩ | ⟨h3, _⟩ <;> (try cases h3)
      rcases isNil_nil h2 with ⟨h3, _⟩ | ⟨h3, _⟩ | ⟨h3, _⟩ | ⟨_, rfl⟩ | ⟨h3, _⟩ <;> (try cases h3)
      cases hx; cases hy
      exact ⟨(by first | exact rq_ptr1 _ hu _ | exact rq_ptr2 _ hu _ | exact rq_if1 _ hu | exact rq_if2 _ hu _ _ | exact rq_if3 _ hu _ _ | exact rq_sl1 _ hu _ _ _ _ _ | exact rq_sl2 _ hu _ _ _ _ _ | exact rq_fn1 _ hu | exact rq_fn2 _ hu _ _ _ | exact rq_fn3 _ hu _ _ _ | exact rq_map1 _ hu _ | exact rq_map2 _ hu _), fun _ _ he _ => (by cases he), fun he => (by cases he)⟩
  | map =>
    rw [hq] at h; simp only [eqV] at h
    obtain ⟨e, e2, hu⟩ := eqT_map hq
    split at h <;> (try (cases h; done)) <;> cases h <;> rename_i h1 h2
    · rcases isNil_nil h1 with ⟨h3, _⟩ | ⟨h3, _⟩ | ⟨h3, _⟩ | ⟨h3, _⟩ | ⟨_, rfl⟩ <;> (try cases h3)
      rcases isNil_nil h2 with ⟨h3, _⟩ | ⟨h3, _⟩ | ⟨h3, _⟩ | ⟨h3, _⟩ | ⟨_, rfl⟩ <;> (try cases h3)
      cases hx; cases hy
      exact ⟨(by first | exact rq_ptr1 _ hu _ | exact rq_ptr2 _ hu _ | exact rq_if1 _ hu | exact rq_if2 _ hu _ _ | exact rq_if3 _ hu _ _ | exact rq_sl1 _ hu _ _ _ _ _ | exact rq_sl2 _ hu _ _ _ _ _ | exact rq_fn1 _ hu | exact rq_fn2 _ hu _ _ _ | exact rq_fn3 _ hu _ _ _ | exact rq_map1 _ hu _ | exact rq_map2 _ hu _), fun _ _ he _ => (by cases he), fun he => (by cases he)⟩
    · rcases isNil_nil h1 with ⟨h3, _⟩ | ⟨h3, _⟩ | ⟨h3, _⟩ | ⟨h3, _⟩ | ⟨_, rfl⟩ <;> (try cases h3)
      rcases isNil_some h2 with ⟨h3, _⟩ | ⟨h3, _⟩ | ⟨h3, _⟩ | ⟨h3, _⟩ | ⟨_, _, rfl⟩ <;> (try cases h3)
      cases hx; cases hy
      exact ⟨(by first | exact rq_ptr1 _ hu _ | exact rq_ptr2 _ hu _ | exact rq_if1 _ hu | exact rq_if2 _ hu _ _ | exact rq_if3 _ hu _ _ | exact rq_sl1 _ hu _ _ _ _ _ | exact rq_sl2 _ hu _ _ _ _ _ | exact rq_fn1 _ hu | exact rq_fn2 _ hu _ _ _ | exact rq_fn3 _ hu _ _ _ | exact rq_map1 _ hu _ | exact rq_map2 _ hu _), fun _ _ he _ => (by cases he), fun he => (by cases he)⟩
    · rcases isNil_some h1 with ⟨h3, _⟩ | ⟨h3, _⟩ | ⟨h3, _⟩ | ⟨h3, _⟩ | ⟨_, _, rfl⟩ <;> (try cases h3)
      rcases isNil_nil h2 with ⟨h3, _⟩ | ⟨h3, _⟩ | ⟨h3, _⟩ | ⟨h3, _⟩ | ⟨_, rfl⟩ <;> (try cases h3)
      cases hx; cases hy
      exact ⟨(by first | exact rq_ptr1 _ hu _ | exact rq_ptr2 _ hu _ | exact rq_if1 _ hu | exact rq_if2 _ hu _ _ | exact rq_if3 _ hu _ _ | exact rq_sl1 _ hu _ _ _ _ _ | exact rq_sl2 _ hu _ _ _ _ _ | exact rq_fn1 _ hu | exact rq_fn2 _ hu _ _ _ | exact rq_fn3 _ hu _ _ _ | exact rq_map1 _ hu _ | exact rq_map2 _ hu _), fun _ _ he _ => (by cases he), fun he => (by cases he)⟩
end Go.Ev

namespace Go.Ev
variable {C : Cx} {α : AM} {Λ : Pa → Prop} {h : Hp} {ls : List LE} {w : World} {e : T V} {ρ : Operand → Value}

/-- an operation that looks and reckons does so in the world too -/
def PuOk (P : Program) (o : Oper) (f : T V → Hp → Option V) : Prop :=
  ∀ (C : Cx) (α : AM) (Λ : Pa → Prop) (h : Hp) (ls : List LE) (w : World) (e : T V) (ρ : Operand → Value) (v : V), C.P = P → Sim C α Λ h ls w → OdR α e ρ → f e h = some v →
    ∃ c, (execOp ρ o).run P w = .ok (.value c) w ∧ VR α v c

theorem r_val {P : Program} {s : Sem Value} {c : Value} {w w' : World} (hs : s.run P w = .ok c w') :
    (do pure (Next.value (← s)) : Sem Next).run P w = .ok (.value c) w' := by simp [hs]
theorem r_unit {P : Program} {s : Sem Unit} {w w' : World} (hs : s.run P w = .ok () w') :
    (do s; pure Next.skip : Sem Next).run P w = .ok .skip w' := by simp [hs]

variable {P : Program} {o : Oper}

theorem pu_mv {x : Operand} (ho : o.op = .move x ∨ o.op = .assign x) : PuOk P o fun e _ => some ((cO x).ev e) := by
  intro C α Λ h ls w e ρ v _ _ hρ hv
  dsimp only at hv
  simp only [Option.some.injEq] at hv; subst hv
  refine ⟨ρ x, ?_, hρ x⟩
  rcases ho with ho | ho <;> simp only [execOp, ho] <;> rfl

theorem pu_pick {c a b : Operand} (ho : o.op = .pick c a b) : PuOk P o fun e _ => match (cO c).ev e with
    | .bool t => some (bif t then (cO a).ev e else (cO b).ev e)
    | _ => none := by
  intro C α Λ h ls w e ρ v _ _ hρ hv
  dsimp only at hv
  have hc := hρ c
  revert hv
  generalize (cO c).ev e = x at hc
  intro hv
  cases x <;> simp only at hv <;> (try (cases hv; done))
  rename_i t
  simp only [Option.some.injEq] at hv; subst hv
  generalize hd : ρ c = d at hc
  cases hc
  cases t with
  | true => exact ⟨ρ a, by simp [execOp, ho, hd, asBool], hρ a⟩
  | false => exact ⟨ρ b, by simp [execOp, ho, hd, asBool], hρ b⟩

theorem pu_load {t : TypeId} {a : Operand} {n : Option Nat} (ho : o.op = .load t a) (hn : shapeT P t = some n) :
    PuOk P o fun e h => loadV h n ((cO a).ev e) := by
  intro C α Λ h ls w e ρ v hC s hρ hv
  dsimp only at hv
  obtain ⟨ad, d, h1, h2, h3⟩ := loadV_sound (P := P) s hn (hρ a) hv
  refine ⟨d, ?_, h3⟩
  simp only [execOp, ho]
  exact r_val (by simp only [Instr.loadAt, h1, Instr.sureAddr, Sem.run_bind, Sem.run_pure, Result.andThen_ok, h2])

theorem pu_nil {x : Operand} (ho : o.op = .nilCheck x) : PuOk P o fun e _ => match (cO x).ev e with
    | .ptr a o => some (.ptr a o)
    | _ => none := by
  intro C α Λ h ls w e ρ v _ _ hρ hv
  dsimp only at hv
  have hc := hρ x
  revert hv
  generalize (cO x).ev e = y at hc
  intro hv
  cases y <;> simp only at hv <;> (try (cases hv; done))
  simp only [Option.some.injEq] at hv; subst hv
  refine ⟨ρ x, ?_, hc⟩
  generalize hd : ρ x = d at hc
  cases hc
  simp only [execOp, ho, hd]
  rfl

theorem binInt_sound {op : BinOp} {k : IntKind} {a b : Int} {v : V} (hv : binInt op k a b = some v) (t : TypeId) :
    ∃ c, (Go.binOp op t (.int k a) (.int k b)).run P w = .ok c w ∧ VR α v c := by
  have hdiv : ∀ {r : V} {x : Option V}, (bif iEq b 0 then none else x) = some r → b ≠ 0 ∧ x = some r := by
    intro r x hx
    rw [iEq_eq] at hx
    by_cases hb : b = 0
    · subst hb; simp at hx
    · have : (b == 0) = false := by simpa using hb
      rw [this] at hx
      exact ⟨hb, hx⟩
  cases op <;> simp only [binInt] at hv <;> (try (cases hv; done))
  case quo =>
    obtain ⟨hb, hv⟩ := hdiv hv
    simp only [Option.some.injEq] at hv; subst hv
    exact ⟨.int k (k.wrap (a.tdiv b)), by simp [Go.binOp, Op.intDiv, hb], by rw [wrapF_eq]; exact .int _ _⟩
  case rem =>
    obtain ⟨hb, hv⟩ := hdiv hv
    simp only [Option.some.injEq] at hv; subst hv
    exact ⟨.int k (a.tmod b), by simp [Go.binOp, Op.intDiv, hb], .int _ _⟩
  all_goals
    simp only [Option.some.injEq] at hv
    subst hv
    refine ⟨_, ?_, by first | exact .int _ _ | exact .bool _⟩
    simp [Go.binOp, Op.intArith, Op.intBits, Op.intCmp, iAdd_eq, iSub_eq, iMul_eq, wrapF_eq, iEq_eq, iLt_eq, bne]
    try (rw [Bool.eq_iff_iff]; simp)

theorem shift_sound {op : BinOp} {left : Bool} (hop : op = if left then .shl else .shr) {k k' : IntKind} {a b : Int} {v : V} (hv : shiftInt left k a b = some v) (t : TypeId) :
    ∃ c, (Go.binOp op t (.int k a) (.int k' b)).run P w = .ok c w ∧ VR α v c := by
  unfold shiftInt at hv
  rw [iLt_eq] at hv
  by_cases hb : b < 0
  · simp [hb] at hv
  · simp only [hb, decide_false, cond_false] at hv
    cases left with
    | true =>
      simp at hop hv; subst hop; subst hv
      exact ⟨_, by simp [Go.binOp, Op.shift, hb], .int _ _⟩
    | false =>
      simp at hop hv; subst hop; subst hv
      exact ⟨_, by simp [Go.binOp, Op.shift, hb], .int _ _⟩

theorem len_data (s : ByteArray) : s.data.toList.length = s.size := Array.length_toList

theorem binStr_sound {op : BinOp} {a b : ByteArray} {v : V} (hv : binStr op a.data.toList b.data.toList = some v) (t : TypeId) :
    ∃ c, (Go.binOp op t (.string a) (.string b)).run P w = .ok c w ∧ VR α v c := by
  cases op <;> simp only [binStr] at hv <;> (try (cases hv; done))
  case add =>
    cases hb : Nat.ble (a.data.toList.length + b.data.toList.length) 9223372036854775807 with
    | false => rw [hb] at hv; cases hv
    | true =>
      simp only [hb, cond_true, Option.some.injEq] at hv; subst hv
      have hle := Nat.le_of_ble_eq_true hb
      refine ⟨.string (a ++ b), ?_, ?_⟩
      · have h1 : a.size = a.data.toList.length := (len_data a).symm
        have h2 : b.size = b.data.toList.length := (len_data b).symm
        have h3 : ¬ (((a.size + b.size : Nat) : Int) > IntKind.i64.max) := by
          have : IntKind.i64.max = 9223372036854775807 := by decide
          rw [this]; omega
        simp only [Go.binOp, Op.stringOp]
        rw [if_neg h3]; rfl
      · have := VR.str (α := α) (a ++ b)
        rwa [ByteArray.toList_data_append] at this
  all_goals
    simp only [Option.some.injEq] at hv
    subst hv
    refine ⟨_, ?_, .bool _⟩
    simp [Go.binOp, Op.stringOp, sEq_eq, sLt_eq, ByteArray.toList_eq]

/-- no number, no string -/
def noNum : Value → Bool
  | .int _ _ => false
  | .float _ _ => false
  | .complex _ _ _ => false
  | .string _ => false
  | _ => true
theorem r_eql {t : TypeId} {c d : Value} {r : Bool} (hc : noNum c = true) (hr : (Op.equal t c d).run P w = .ok r w) : (Go.binOp .eql t c d).run P w = .ok (.bool r) w := by
  have : (Go.binOp .eql t c d) = (do pure (.bool (← Op.equal t c d)) : Sem Value) := by
    cases c <;> simp [noNum] at hc <;> cases d <;> rfl
  rw [this]; simp [hr]
theorem r_neq {t : TypeId} {c d : Value} {r : Bool} (hc : noNum c = true) (hr : (Op.equal t c d).run P w = .ok r w) : (Go.binOp .neq t c d).run P w = .ok (.bool (!r)) w := by
  have : (Go.binOp .neq t c d) = (do pure (.bool (!(← Op.equal t c d))) : Sem Value) := by
    cases c <;> simp [noNum] at hc <;> cases d <;> rfl
  rw [this]; simp [hr]
/-- what is (un)like has a kind -/
theorem eqV_kind {t : TypeId} {a b : V} {r : Bool} (h : eqV (eqT P t) a b = some r) :
    (∃ k i k' j, a = .int k i ∧ b = .int k' j ∧ k = k' ∧ r = (i == j)) ∨ (∃ i j, a = .str i ∧ b = .str j ∧ r = (i == j)) ∨
      ((∀ k i, a ≠ .int k i) ∧ (∀ i, a ≠ .str i) ∧ a ≠ .no .bot) := by
  cases a with
  | int k i =>
    cases hq : eqT P t with
    | flat q =>
      rw [hq] at h
      cases q <;> simp only [eqV, flatEq] at h <;> (try (cases h; done))
      cases b <;> simp only at h <;> (try (cases h; done))
      rename_i k' j
      cases hk : kEq k k' with
      | false => simp [hk] at h
      | true =>
        simp only [hk, cond_true, Option.some.injEq] at h
        exact .inl ⟨k, i, k', j, rfl, rfl, kEq_iff hk, by rw [← h, iEq_eq]⟩
    | agg l => rw [hq] at h; simp [eqV] at h
    | _ => rw [hq] at h; simp [eqV, isNil] at h
  | str i =>
    cases hq : eqT P t with
    | flat q =>
      rw [hq] at h
      cases q <;> simp only [eqV, flatEq] at h <;> (try (cases h; done))
      cases b <;> simp only at h <;> (try (cases h; done))
      rename_i j
      simp only [Option.some.injEq] at h
      exact .inr (.inl ⟨i, j, rfl, rfl, by rw [← h, sEq_eq]⟩)
    | agg l => rw [hq] at h; simp [eqV] at h
    | _ => rw [hq] at h; simp [eqV, isNil] at h
  | no k =>
    refine .inr (.inr ⟨by simp, by simp, ?_⟩)
    intro e; cases e
    cases hq : eqT P t with
    | flat q => rw [hq] at h; cases q <;> simp [eqV, flatEq] at h
    | agg l => rw [hq] at h; simp [eqV] at h
    | _ => rw [hq] at h; simp [eqV, isNil] at h
  | _ => exact .inr (.inr ⟨by simp, by simp, by simp⟩)

theorem bin_sound {op : BinOp} {t : TypeId} {x y : Operand} {a b : V} {c d : Value} {v : V} (hx : VR α a c) (hy : VR α b d)
    (hi : eqT P t = .iface → (isC x || isC y) = true) (hv : binV op (eqT P t) a b = some v) :
    ∃ r, (do eqGuard op t x y c d; Go.binOp op t c d : Sem Value).run P w = .ok r w ∧ VR α v r := by
  have guard : ∀ {c d : Value} {k : IntKind} {i : Int}, c = .int k i → (eqGuard op t x y c d).run P w = .ok () w := by
    intro c d k i hc; subst hc
    exact r_guard op t x y _ d (fun e => by cases e) (fun _ _ e => by cases e)
  have guards : ∀ {c d : Value} {i : ByteArray}, c = .string i → (eqGuard op t x y c d).run P w = .ok () w := by
    intro c d i hc; subst hc
    exact r_guard op t x y _ d (fun e => by cases e) (fun _ _ e => by cases e)
  have eqs : ∀ {r : Bool}, eqV (eqT P t) a b = some r → (eqGuard op t x y c d).run P w = .ok () w ∧ (Op.equal t c d).run P w = .ok r w := by
    intro r hr
    obtain ⟨h1, h2, h3⟩ := eqV_sound (P := P) (w := w) hx hy hr
    exact ⟨r_guard op t x y c d (fun e _ => hi (h3 e)) (fun u u' e e' => h2 u u' e e'), h1⟩
  have general : ∀ {v : V}, binG op a b = some v → ∃ r, (do eqGuard op t x y c d; Go.binOp op t c d : Sem Value).run P w = .ok r w ∧ VR α v r := by
    intro v hv
    unfold binG at hv
    cases a with
    | int k i => cases b with
      | int k' j =>
        simp only at hv
        cases hk : kEq k k' with
        | false => simp [hk] at hv
        | true =>
          have := kEq_iff hk; subst this
          simp only [hk, cond_true] at hv
          cases hx; cases hy
          obtain ⟨r, h1, h2⟩ := binInt_sound (P := P) (w := w) (α := α) hv t
          exact ⟨r, by simp only [Sem.run_bind, guard rfl, Result.andThen_ok, h1], h2⟩
      | _ => simp at hv
    | str i => cases b with
      | str j =>
        simp only at hv
        cases hx; cases hy
        obtain ⟨r, h1, h2⟩ := binStr_sound (P := P) (w := w) (α := α) hv t
        exact ⟨r, by simp only [Sem.run_bind, guards rfl, Result.andThen_ok, h1], h2⟩
      | _ => simp at hv
    | _ => simp at hv
  cases op
  case shl =>
    simp only [binV] at hv
    cases a <;> simp only at hv <;> (try (cases hv; done))
    cases b <;> simp only at hv <;> (try (cases hv; done))
    cases hx; cases hy
    obtain ⟨r, h1, h2⟩ := shift_sound (P := P) (w := w) (α := α) (op := .shl) (left := true) rfl hv t
    exact ⟨r, by simp only [Sem.run_bind, guard rfl, Result.andThen_ok]; exact h1, h2⟩
  case shr =>
    simp only [binV] at hv
    cases a <;> simp only at hv <;> (try (cases hv; done))
    cases b <;> simp only at hv <;> (try (cases hv; done))
    cases hx; cases hy
    obtain ⟨r, h1, h2⟩ := shift_sound (P := P) (w := w) (α := α) (op := .shr) (left := false) rfl hv t
    exact ⟨r, by simp only [Sem.run_bind, guard rfl, Result.andThen_ok]; exact h1, h2⟩
  case eql =>
    simp only [binV] at hv
    cases hr : eqV (eqT P t) a b with
    | none => simp [hr] at hv
    | some r =>
      simp [hr] at hv; subst hv
      obtain ⟨h1, h2⟩ := eqs hr
      refine ⟨.bool r, ?_, .bool r⟩
      simp only [Sem.run_bind, h1, Result.andThen_ok]
      rcases eqV_kind hr with ⟨k, i, k', j, rfl, rfl, rfl, rfl⟩ | ⟨i, j, rfl, rfl, rfl⟩ | ⟨n1, n2, n3⟩
      · cases hx; cases hy; simp [Go.binOp, Op.intCmp]
      · cases hx; cases hy; simp [Go.binOp, Op.stringOp, ByteArray.toList_eq]
      · refine r_eql ?_ h2
        cases hx <;> first | rfl | exact absurd rfl (n1 _ _) | exact absurd rfl (n2 _) | exact absurd rfl n3
  case neq =>
    simp only [binV] at hv
    cases hr : eqV (eqT P t) a b with
    | none => simp [hr] at hv
    | some r =>
      simp [hr] at hv; subst hv
      obtain ⟨h1, h2⟩ := eqs hr
      refine ⟨.bool (!r), ?_, .bool (!r)⟩
      simp only [Sem.run_bind, h1, Result.andThen_ok]
      rcases eqV_kind hr with ⟨k, i, k', j, rfl, rfl, rfl, rfl⟩ | ⟨i, j, rfl, rfl, rfl⟩ | ⟨n1, n2, n3⟩
      · cases hx; cases hy; simp [Go.binOp, Op.intCmp, bne]
      · cases hx; cases hy; simp [Go.binOp, Op.stringOp, ByteArray.toList_eq]
      · refine r_neq ?_ h2
        cases hx <;> first | rfl | exact absurd rfl (n1 _ _) | exact absurd rfl (n2 _) | exact absurd rfl n3
  all_goals exact general hv

theorem pu_bin {op : BinOp} {t yt : TypeId} {x y : Operand} (ho : o.op = .binOp op t x y yt) (hi : eqT P t = .iface → (isC x || isC y) = true) :
    PuOk P o fun e _ => binV op (eqT P t) ((cO x).ev e) ((cO y).ev e) := by
  intro C α Λ h ls w e ρ v _ _ hρ hv
  dsimp only at hv
  obtain ⟨r, h1, h2⟩ := bin_sound (P := P) (w := w) (hρ x) (hρ y) hi hv
  exact ⟨r, by simp only [execOp, ho]; exact r_val h1, h2⟩

theorem pu_un {op : UnOp} {t : TypeId} {x : Operand} (ho : o.op = .unOp op t x) : PuOk P o fun e _ => unV op ((cO x).ev e) := by
  intro C α Λ h ls w e ρ v _ _ hρ hv
  dsimp only at hv
  have hx := hρ x
  revert hv
  generalize (cO x).ev e = a at hx
  intro hv
  have : ∃ c, (Op.unary op (ρ x)).run P w = .ok c w ∧ VR α v c := by
    cases op <;> simp only [unV] at hv <;> (try (cases hv; done))
    all_goals
      cases a <;> simp only at hv <;> (try (cases hv; done))
      simp only [Option.some.injEq] at hv
      subst hv
      generalize ρ x = c at hx ⊢
      cases hx
      refine ⟨_, ?_, by first | exact .int _ _ | exact .bool _⟩
      simp [Op.unary, Op.intArith, Op.intBits, wrapF_eq, iSub_eq]
  obtain ⟨c, h1, h2⟩ := this
  exact ⟨c, by simp only [execOp, ho]; exact r_val h1, h2⟩

theorem pu_convInt {sT dT : TypeId} {x : Operand} {k k' : IntKind} (ho : o.op = .convert sT dT x) (hs : P.underlying sT = some (.int k')) (hd : P.underlying dT = some (.int k)) :
    PuOk P o fun e _ => match (cO x).ev e with
      | .int _ n => some (.int k (wrapF k n))
      | _ => none := by
  intro C α Λ h ls w e ρ v _ _ hρ hv
  dsimp only at hv
  have hx := hρ x
  revert hv
  generalize (cO x).ev e = a at hx
  intro hv
  cases a <;> simp only at hv <;> (try (cases hv; done))
  simp only [Option.some.injEq] at hv
  subst hv
  generalize hc : ρ x = c at hx
  cases hx
  exact ⟨_, by simp only [execOp, ho, hc]; exact r_val (by simp [convert, r_und hs, r_und hd, Conv.intToInt, wrapF_eq]), .int _ _⟩

theorem pu_convSame {sT dT : TypeId} {x : Operand} (ho : o.op = .convert sT dT x) (hs : P.underlying sT = some .string) (hd : P.underlying dT = some .string) :
    PuOk P o fun e _ => match (cO x).ev e with
      | .str s => some (.str s)
      | _ => none := by
  intro C α Λ h ls w e ρ v _ _ hρ hv
  dsimp only at hv
  have hx := hρ x
  revert hv
  generalize (cO x).ev e = a at hx
  intro hv
  cases a <;> simp only at hv <;> (try (cases hv; done))
  simp only [Option.some.injEq] at hv
  subst hv
  generalize hc : ρ x = c at hx
  cases hx with
  | str s => exact ⟨.string s, by simp only [execOp, ho, hc]; exact r_val (by simp [convert, r_und hs, r_und hd]), .str s⟩

theorem bytesOf_sound : ∀ {l : List V} {cs : List Value} {bs : List UInt8}, VRs α l cs → bytesOf l = some bs →
    ∃ ns : List Int, cs = ns.map (Value.int .u8) ∧ bs = ns.map fun n => UInt8.ofNat n.toNat
  | [], _, bs, hl, hb => by
    cases hl; simp [bytesOf] at hb; subst hb; exact ⟨[], rfl, rfl⟩
  | v :: l, _, bs, .cons _ c _ cs hc hs, hb => by
    cases v <;> simp only [bytesOf] at hb <;> (try (cases hb; done))
    rename_i k n
    cases k <;> simp only at hb <;> (try (cases hb; done))
    cases hr : bytesOf l with
    | none => simp [hr] at hb
    | some r =>
      simp only [hr, Option.some.injEq] at hb; subst hb
      obtain ⟨ns, h1, h2⟩ := bytesOf_sound hs hr
      cases hc
      exact ⟨n :: ns, by simp [h1], by simp [h2]⟩

theorem push_fold (ns : List Int) : ∀ s : ByteArray, (ns.foldl (fun r n => r.push (UInt8.ofNat n.toNat)) s).data.toList = s.data.toList ++ ns.map fun n => UInt8.ofNat n.toNat := by
  induction ns with
  | nil => intro s; simp
  | cons n ns ih => intro s; rw [List.foldl_cons, ih]; simp [ByteArray.push]

theorem pu_convStr {sT dT el : TypeId} {x : Operand} (ho : o.op = .convert sT dT x) (hs : P.underlying sT = some (.slice el)) (he : P.underlying el = some (.int .u8)) (hd : P.underlying dT = some .string) :
    PuOk P o fun e h => match (cO x).ev e with
      | .sl a o n _ => match h.loadN a o n with
        | some l => match bytesOf l with | some s => some (.str s) | none => none
        | none => none
      | .no k => match k with | .sl => some (.str []) | _ => none
      | _ => none := by
  intro C α Λ h ls w e ρ v _ s hρ hv
  dsimp only at hv
  have hx := hρ x
  revert hv
  generalize (cO x).ev e = a at hx
  intro hv
  have str_of : ∀ (b : ByteArray) (l : List UInt8), b.data.toList = l → VR α (.str l) (.string b) := fun b l hb => by subst hb; exact .str b
  cases a <;> simp only at hv <;> (try (cases hv; done))
  · rename_i a off n c
    cases hl : h.loadN a off n with
    | none => simp [hl] at hv
    | some l =>
      simp only [hl] at hv
      cases hb : bytesOf l with
      | none => simp [hb] at hv
      | some bs =>
        simp only [hb, Option.some.injEq] at hv; subst hv
        generalize hc : ρ x = d at hx
        cases hx with
        | sl _ _ _ _ L capC ha hn hcap =>
          obtain ⟨cs, k1, k2, k3⟩ := s.loadN (P := P) ha hl
          obtain ⟨ns, h1, h2⟩ := bytesOf_sound k2 hb
          subst h1
          refine ⟨.string (ns.foldl (fun r n => r.push (UInt8.ofNat n.toNat)) ByteArray.empty), ?_, str_of _ _ ?_⟩
          · simp only [execOp, ho, hc]
            exact r_val (by rw [run_convert_bytes_string w sT dT el _ _ _ hs he hd]; exact run_bytesToString w _ n capC ns (by simpa using k3))
          · rw [push_fold, h2]; rfl
        | sl0 _ _ _ ad hcap =>
          have hl0 : l = [] := by
            unfold Heap.loadN at hl
            cases hcl : h.cells a with
            | none => simp [hcl] at hl
            | some m => simp [hcl, takeN] at hl; exact hl
          subst hl0
          simp [bytesOf] at hb; subst hb
          refine ⟨.string .empty, ?_, str_of _ _ ?_⟩
          · simp only [execOp, ho, hc]
            exact r_val (by rw [run_convert_bytes_string w sT dT el _ _ _ hs he hd]; exact run_bytesToString w ad 0 0 [] (by simp [loadCells, loadCellsFrom]))
          · rfl
  · rename_i k
    cases k <;> simp only at hv <;> (try (cases hv; done))
    simp only [Option.some.injEq] at hv; subst hv
    generalize hc : ρ x = d at hx
    cases hx
    refine ⟨.string .empty, ?_, str_of _ _ rfl⟩
    simp only [execOp, ho, hc]
    exact r_val (by rw [run_convert_bytes_string w sT dT el _ _ _ hs he hd]; simp [Conv.bytesToString])

theorem pu_mkI {t : TypeId} {d : TypeDesc} {x : Operand} (ho : o.op = .makeInterface t x) (hd : P.underlying t = some d) (hn : ∀ m, d ≠ .interface m) :
    PuOk P o fun e _ => some (.iface t ((cO x).ev e)) := by
  intro C α Λ h ls w e ρ v _ _ hρ hv
  dsimp only at hv
  simp only [Option.some.injEq] at hv; subst hv
  refine ⟨.iface t (ρ x), ?_, .iface _ _ _ (hρ x)⟩
  simp only [execOp, ho]
  refine r_val ?_
  simp only [Instr.makeInterface, Sem.run_bind, r_und hd, Result.andThen_ok]
  cases d <;> first | rfl | exact absurd rfl (hn _)

theorem pu_mkF {f : FuncId} {first caps : Array Operand} (ho : o.op = .makeFunc (.func f) first caps) (hf : first.size = 0) :
    PuOk P o fun e _ => some (.fn f (evL e (caps.toList.map cO))) := by
  intro C α Λ h ls w e ρ v _ _ hρ hv
  dsimp only at hv
  simp only [Option.some.injEq] at hv; subst hv
  have : first = #[] := Array.eq_empty_of_size_eq_zero hf
  subst this
  refine ⟨.func (.func f) #[] (caps.map ρ), ?_, ?_⟩
  · simp only [execOp, ho]; exact r_val (by simp [Instr.makeFunc])
  · have := hρ.list caps.toList
    have h2 := VR.fn f _ _ this
    have e : caps.map ρ = ⟨caps.toList.map ρ⟩ := by rw [← Array.toList_map]
    rw [e]; exact h2
end Go.Ev

namespace Go.Ev
variable {C : Cx} {α : AM} {Λ : Pa → Prop} {h : Hp} {ls : List LE} {w : World} {e : T V} {ρ : Operand → Value}
variable {P : Program} {o : Oper}

/-! ## slices -/
theorem sbound_sound {d y : Nat} {x : Option V} {c : Option Value} {n : Nat} (hx : ∀ v, x = some v → ∃ u, c = some u ∧ VR α v u) (hn : x = none → c = none)
    (hs : sbound d y x = some n) (code : BoundsCode) :
    (match c with | some v => Instr.sliceBound v y code | none => (pure d : Sem Nat)).run P w = .ok n w ∧ (x ≠ none → n ≤ y) ∧ (x = none → n = d) := by
  cases x with
  | none =>
    simp [sbound] at hs; subst hs
    rw [hn rfl]
    exact ⟨rfl, fun e => absurd rfl e, fun _ => rfl⟩
  | some v =>
    obtain ⟨u, hu, huv⟩ := hx v rfl
    cases v <;> simp only [sbound] at hs <;> (try (cases hs; done))
    rename_i k i
    cases i <;> simp only at hs <;> (try (cases hs; done))
    rename_i i
    cases hb : Nat.ble i y with
    | false => simp [hb] at hs
    | true =>
      simp only [hb, cond_true, Option.some.injEq] at hs; subst hs
      cases huv
      rw [hu]
      have := Nat.le_of_ble_eq_true hb
      refine ⟨?_, fun _ => this, fun e => by cases e⟩
      have := run_sliceBound (P := P) w k (Int.ofNat i) y code (by simp) (by simpa using this)
      simpa using this

theorem blt_self (n : Nat) : Nat.blt n n = false := by
  unfold Nat.blt
  cases h : Nat.ble n.succ n with
  | false => rfl
  | true => exact absurd (Nat.le_of_ble_eq_true h) (Nat.not_succ_le_self n)
theorem sbound_some {d d' y y' : Nat} {v : V} {n : Nat} (h : sbound d y (some v) = some n) (hy : y ≤ y') : sbound d' y' (some v) = some n := by
  cases v with
  | int k i =>
    cases i with
    | ofNat i =>
      simp only [sbound] at h ⊢
      cases hb : Nat.ble i y with
      | false => simp [hb] at h
      | true =>
        have : Nat.ble i y' = true := Nat.ble_eq_true_of_le (Nat.le_trans (Nat.le_of_ble_eq_true hb) hy)
        simp only [hb, cond_true] at h
        simp only [this, cond_true, h]
    | negSucc i => simp [sbound] at h
  | _ => simp [sbound] at h
theorem sbound_more {d y y' : Nat} {x : Option V} {n : Nat} (h : sbound d y x = some n) (hy : y ≤ y') : sbound d y' x = some n := by
  cases x with
  | none => exact h
  | some v => exact sbound_some h hy

theorem oev_some (hρ : OdR α e ρ) {x : Option Operand} {v : V} (h : oev e (x.map cO) = some v) : ∃ u, x.map ρ = some u ∧ VR α v u := by
  cases x with
  | none => simp [oev] at h
  | some x => simp [oev] at h; subst h; exact ⟨ρ x, rfl, hρ x⟩
theorem oev_none {x : Option Operand} (h : oev e (x.map cO) = none) : x.map ρ = none := by
  cases x with
  | none => rfl
  | some x => simp [oev] at h

theorem sbounds_sound (hρ : OdR α e ρ) {n c : Nat} {lo hi mx : Option Operand} {l hh m : Nat} (isS : Bool) (hn : n ≤ c)
    (hs : sbounds n c (oev e (lo.map cO)) (oev e (hi.map cO)) (oev e (mx.map cO)) = some (l, hh, m)) (hmx : mx.isSome = true → hi.isSome = true) :
    (Instr.sliceBounds isS n c (lo.map ρ) (hi.map ρ) (mx.map ρ)).run P w = .ok (l, hh, m) w ∧ l ≤ hh ∧ hh ≤ m ∧ m ≤ c ∧ (mx = none → m = c) := by
  unfold sbounds at hs
  cases h1 : sbound c c (oev e (mx.map cO)) with
  | none => simp [h1] at hs
  | some m' =>
    simp only [h1] at hs
    cases h2 : sbound n m' (oev e (hi.map cO)) with
    | none => simp [h2] at hs
    | some h' =>
      simp only [h2] at hs
      cases h3 : sbound 0 h' (oev e (lo.map cO)) with
      | none => simp [h3] at hs
      | some l' =>
        simp only [h3, Option.some.injEq, Prod.mk.injEq] at hs
        obtain ⟨rfl, rfl, rfl⟩ := hs
        have s1 := fun code => sbound_sound (P := P) (w := w) (c := mx.map ρ) (fun v hv => oev_some hρ hv) (fun hv => oev_none hv) h1 code
        have s2 := fun code => sbound_sound (P := P) (w := w) (c := hi.map ρ) (fun v hv => oev_some hρ hv) (fun hv => oev_none hv) h2 code
        have s3 := fun code => sbound_sound (P := P) (w := w) (c := lo.map ρ) (fun v hv => oev_some hρ hv) (fun hv => oev_none hv) h3 code
        have b1 : m' ≤ c := by
          by_cases hm : oev e (mx.map cO) = none
          · rw [(s1 .index).2.2 hm]; exact Nat.le_refl _
          · exact (s1 .index).2.1 hm
        have b2 : h' ≤ m' := by
          by_cases hm : oev e (hi.map cO) = none
          · rw [(s2 .index).2.2 hm]
            have : mx = none := by
              cases mx with
              | none => rfl
              | some y =>
                have := hmx rfl
                cases hi with
                | none => cases this
                | some z => simp [oev] at hm
            subst this
            rw [(s1 .index).2.2 rfl]; exact hn
          · exact (s2 .index).2.1 hm
        have b3 : l' ≤ h' := by
          by_cases hm : oev e (lo.map cO) = none
          · rw [(s3 .index).2.2 hm]; exact Nat.zero_le _
          · exact (s3 .index).2.1 hm
        refine ⟨?_, b3, b2, b1, fun hm => by subst hm; exact (s1 .index).2.2 rfl⟩
        unfold Instr.sliceBounds
        cases mx with
        | none =>
          have e1 := (s1 .index).1
          cases hi with
          | none =>
            cases lo with
            | none =>
              have f1 := (s1 .index).1; have f2 := (s2 .index).1; have f3 := (s3 .index).1
              simp at f1 f2 f3; subst f1; subst f2; subst f3
              rfl
            | some lo =>
              have f1 := (s1 .index).1; have f2 := (s2 .index).1
              simp at f1 f2; subst f1; subst f2
              have f3 := (s3 .sliceB).1
              simp only [Option.map_some] at f3
              simp [f3]
          | some hi =>
            have f1 := (s1 .index).1
            simp at f1; subst f1
            have f2 := (s2 (if isS then .sliceAcap else .sliceAlen)).1
            simp only [Option.map_some] at f2
            cases lo with
            | none =>
              have f3 := (s3 .index).1
              simp at f3; subst f3
              simp [f2]
            | some lo =>
              have f3 := (s3 .sliceB).1
              simp only [Option.map_some] at f3
              simp [f2, f3]
        | some mx =>
          have f1 := (s1 (if isS then .slice3Acap else .slice3Alen)).1
          simp only [Option.map_some] at f1
          cases hi with
          | none => exact absurd (hmx rfl) (by simp)
          | some hi =>
            have f2 := (s2 .slice3B).1
            simp only [Option.map_some] at f2
            cases lo with
            | none =>
              have f3 := (s3 .index).1
              simp at f3; subst f3
              simp [f1, f2]
            | some lo =>
              have f3 := (s3 .slice3C).1
              simp only [Option.map_some] at f3
              simp [f1, f2, f3]

/-- an address further on -/
theorem add_some (b o n : Nat) : (some (Addr.mk b o none)).map (·.add n) = some ⟨b, o + n, none⟩ := by simp [add_at]

theorem cap_cut {L : Loc} {o cc s n d : Nat} (h : L.base + o + cc * s = L.top ∧ (s = 1 ∨ L.bm = false)) (hd : n + d = cc) : L.base + (o + n * s) + d * s = L.top ∧ (s = 1 ∨ L.bm = false) := by
  subst hd
  refine ⟨?_, h.2⟩
  replace h := h.1
  rw [Nat.add_mul] at h
  omega

theorem pu_sliceSl {t el : TypeId} {i : TypeInfo} {x : Operand} {lo hi mx : Option Operand} (ho : o.op = .slice t x lo hi mx) (ht : P.underlying t = some (.slice el)) (hi' : P.info? el = some i)
    (hmx : mx.isSome = true → hi.isSome = true) :
    PuOk P o fun e _ => sliceV i.size ((cO x).ev e) (oev e (lo.map cO)) (oev e (hi.map cO)) (oev e (mx.map cO)) := by
  intro C α Λ h ls w e ρ v _ _ hρ hv
  dsimp only at hv
  have hx := hρ x
  revert hv
  generalize (cO x).ev e = a at hx
  intro hv
  suffices hs : ∃ c, (Instr.slice t (ρ x) (lo.map ρ) (hi.map ρ) (mx.map ρ)).run P w = .ok c w ∧ VR α v c by
    obtain ⟨c, h1, h2⟩ := hs
    refine ⟨c, ?_, h2⟩
    simp only [execOp, ho]
    refine r_val ?_
    simp only [Instr.sliceAt, Sem.run_bind, r_und ht, Result.andThen_ok, h1]
  have run : ∀ {ad : Option Addr} {n c l hh m : Nat}, ρ x = .slice ad n c → (Instr.sliceBounds true n c (lo.map ρ) (hi.map ρ) (mx.map ρ)).run P w = .ok (l, hh, m) w →
      (Instr.slice t (ρ x) (lo.map ρ) (hi.map ρ) (mx.map ρ)).run P w = .ok (.slice (if m = l then ad else ad.map (·.add (l * i.size))) (hh - l) (m - l)) w := by
    intro ad n c l hh m hxx hb
    simp only [Instr.slice, hxx, Sem.run_bind, r_und ht, Result.andThen_ok, hb, r_size hi', Sem.run_pure]
  cases a <;> simp only [sliceV] at hv <;> (try (cases hv; done))
  · rename_i a off n c
    cases c with
    | ex c =>
      simp only at hv
      cases hb : sbounds n c (oev e (lo.map cO)) (oev e (hi.map cO)) (oev e (mx.map cO)) with
      | none => simp [hb] at hv
      | some p =>
        obtain ⟨l, hh, m⟩ := p
        simp only [hb, Option.some.injEq] at hv; subst hv
        generalize hc : ρ x = d at hx
        cases hx with
        | sl _ _ _ _ L capC ha hn hcap =>
          simp only [CapR] at hcap; subst hcap
          obtain ⟨b1, b2, b3, b4, b5⟩ := sbounds_sound (P := P) (w := w) hρ true hn hb hmx
          refine ⟨_, hc ▸ run hc b1, ?_⟩
          by_cases hm : m = l
          · subst hm
            simp only [if_true, Nat.sub_self, Nat.beq_refl, cond_true]
            have : hh - m = 0 := by omega
            rw [this]
            exact .sl0 _ _ _ _ (.inl rfl)
          · have hf : Nat.beq m l = false := by rw [Bool.eq_false_iff]; intro e1; exact hm (Nat.eq_of_beq_eq_true e1)
            simp only [hm, if_false, hf, cond_false, add_some]
            have := VR.sl (α := α) a (off + l * i.size) (hh - l) (.ex (m - l)) L (m - l) ha (by omega) rfl
            simpa [Nat.add_assoc] using this
        | sl0 _ _ _ ad hcap =>
          have hc0 : c = 0 := sl0_ex hcap
          subst hc0
          obtain ⟨b1, b2, b3, b4, b5⟩ := sbounds_sound (P := P) (w := w) hρ true (Nat.le_refl 0) hb hmx
          refine ⟨_, hc ▸ run hc b1, ?_⟩
          have : m = 0 := by omega
          subst this
          have : hh = 0 := by omega
          subst this
          have : l = 0 := by omega
          subst this
          exact .sl0 _ _ _ _ (.inl rfl)
    | un s =>
      simp only at hv
      cases hse : Nat.beq s i.size with
      | false => simp [hse] at hv
      | true =>
        have hss := Nat.eq_of_beq_eq_true hse
        subst hss
        simp only [hse, cond_true] at hv
        cases hb : sbounds n n (oev e (lo.map cO)) (oev e (hi.map cO)) (oev e (mx.map cO)) with
        | none => simp [hb] at hv
        | some p =>
          obtain ⟨l, hh, m⟩ := p
          simp only [hb] at hv
          generalize hc : ρ x = d at hx
          cases mx with
          | none =>
            simp only [oev, Option.map_none, Option.some.injEq] at hv
            subst hv
            cases hx with
            | sl _ _ _ _ L capC ha hn hcap =>
              simp only [CapR] at hcap
              -- the same bounds, of the true capacity
              have hb' : sbounds n capC (oev e (lo.map cO)) (oev e (hi.map cO)) (oev e ((none : Option Operand).map cO)) = some (l, hh, capC) := by
                unfold sbounds at hb ⊢
                have q : oev e ((none : Option Operand).map cO) = none := rfl
                have q1 : ∀ d y, sbound d y none = some d := fun _ _ => rfl
                simp only [q, q1] at hb ⊢
                revert hb
                cases h2 : sbound n n (oev e (hi.map cO)) with
                | none => intro hb; simp at hb
                | some h' =>
                  have h2' : sbound n capC (oev e (hi.map cO)) = some h' := sbound_more h2 hn
                  intro hb
                  simp only [h2']
                  simp only at hb
                  revert hb
                  cases sbound 0 h' (oev e (lo.map cO)) with
                  | none => intro hb; simp at hb
                  | some l' => intro hb; simp at hb; simp [hb]
              obtain ⟨b1, b2, b3, b4, b5⟩ := sbounds_sound (P := P) (w := w) hρ true hn hb' (by intro hh; cases hh)
              have hhn : hh ≤ n := by
                obtain ⟨_, _, c3, c4, _⟩ := sbounds_sound (P := P) (w := w) hρ true (Nat.le_refl n) hb (by intro hh; cases hh)
                omega
              refine ⟨_, hc ▸ run hc b1, ?_⟩
              by_cases hm : capC = l
              · subst hm
                simp only [if_true, Nat.sub_self]
                have : hh - capC = 0 := by omega
                rw [this]
                exact .sl0 _ _ _ _ (.inr ⟨_, L, rfl, ha, by omega⟩)
              · simp only [hm, if_false, add_some]
                have := VR.sl (α := α) a (off + l * i.size) (hh - l) (.un i.size) L (capC - l) ha (by omega) (cap_cut hcap (by omega))
                simpa [Nat.add_assoc] using this
            | sl0 _ _ _ ad hcap =>
              obtain ⟨b1, b2, b3, b4, b5⟩ := sbounds_sound (P := P) (w := w) hρ true (Nat.le_refl 0) hb (by intro hh; cases hh)
              refine ⟨_, hc ▸ run hc b1, ?_⟩
              have : m = 0 := by omega
              subst this
              have : hh = 0 := by omega
              subst this
              have : l = 0 := by omega
              subst this
              rcases hcap with hcap | ⟨s', L, h1, h2, h3⟩
              · cases hcap
              · exact .sl0 _ _ _ _ (.inr ⟨_, L, rfl, h2, by omega⟩)
          | some mx =>
            simp only [oev, Option.map_some] at hv
            cases hx with
            | sl _ _ _ _ L capC ha hn hcap =>
              simp only [CapR] at hcap
              have hb' : sbounds n capC (oev e (lo.map cO)) (oev e (hi.map cO)) (oev e ((some mx).map cO)) = some (l, hh, m) := by
                unfold sbounds at hb ⊢
                revert hb
                cases h1 : sbound n n (oev e ((some mx).map cO)) with
                | none => intro hb; simp at hb
                | some m' =>
                  have h1' : sbound capC capC (oev e ((some mx).map cO)) = some m' := sbound_some h1 hn
                  intro hb
                  simp only [h1']
                  exact hb
              obtain ⟨b1, b2, b3, b4, b5⟩ := sbounds_sound (P := P) (w := w) hρ true hn hb' hmx
              have hmn : m ≤ n := (sbounds_sound (P := P) (w := w) hρ true (Nat.le_refl n) hb hmx).2.2.2.1
              refine ⟨_, hc ▸ run hc b1, ?_⟩
              by_cases hm : m = l
              · subst hm
                have hf : Nat.blt m m = false := blt_self m
                simp only [hf, cond_false, Option.some.injEq] at hv; subst hv
                simp only [if_true, Nat.sub_self]
                have : hh - m = 0 := by omega
                rw [this]
                exact .sl0 _ _ _ _ (.inl rfl)
              · have hlt : Nat.blt l m = true := by simpa using (by omega : l < m)
                simp only [hlt, cond_true, Option.some.injEq] at hv; subst hv
                simp only [hm, if_false, add_some]
                have := VR.sl (α := α) a (off + l * i.size) (hh - l) (.ex (m - l)) L (m - l) ha (by omega) rfl
                simpa [Nat.add_assoc] using this
            | sl0 _ _ _ ad hcap =>
              obtain ⟨b1, b2, b3, b4, b5⟩ := sbounds_sound (P := P) (w := w) hρ true (Nat.le_refl 0) hb hmx
              refine ⟨_, hc ▸ run hc b1, ?_⟩
              have : m = 0 := by omega
              subst this
              have : hh = 0 := by omega
              subst this
              have : l = 0 := by omega
              subst this
              have hf : Nat.blt 0 0 = false := rfl
              simp only [hf, cond_false, Option.some.injEq] at hv; subst hv
              exact .sl0 _ _ _ _ (.inl rfl)
  · rename_i k
    cases k <;> simp only at hv <;> (try (cases hv; done))
    cases hb : sbounds 0 0 (oev e (lo.map cO)) (oev e (hi.map cO)) (oev e (mx.map cO)) with
    | none => simp [hb] at hv
    | some p =>
      obtain ⟨l, hh, m⟩ := p
      simp only [hb, Option.some.injEq] at hv; subst hv
      generalize hc : ρ x = d at hx
      cases hx
      obtain ⟨b1, b2, b3, b4, b5⟩ := sbounds_sound (P := P) (w := w) hρ true (Nat.le_refl 0) hb hmx
      refine ⟨_, hc ▸ run hc b1, ?_⟩
      have : m = 0 := by omega
      subst this
      have : hh = 0 := by omega
      subst this
      have : l = 0 := by omega
      subst this
      exact .noSl

theorem str_of {b : ByteArray} {l : List UInt8} (hb : b.data.toList = l) : VR α (.str l) (.string b) := by subst hb; exact .str b

theorem extract_list (s : ByteArray) (l h : Nat) : (s.extract l h).data.toList = (s.data.toList.drop l).take (h - l) := by
  obtain ⟨⟨s⟩⟩ := s
  have := ByteArray.extract_mk s l h
  exact congrArg (fun b : ByteArray => b.data.toList) this

theorem pu_sliceStr {t : TypeId} {x : Operand} {lo hi : Option Operand} (ho : o.op = .slice t x lo hi none) (ht : P.underlying t = some .string) :
    PuOk P o fun e _ => sliceS ((cO x).ev e) (oev e (lo.map cO)) (oev e (hi.map cO)) := by
  intro C α Λ h ls w e ρ v _ _ hρ hv
  dsimp only at hv
  have hx := hρ x
  revert hv
  generalize (cO x).ev e = a at hx
  intro hv
  cases a <;> simp only [sliceS] at hv <;> (try (cases hv; done))
  rename_i s
  generalize hc : ρ x = d at hx
  cases hx with
  | str s =>
    cases hb : sbounds s.data.toList.length s.data.toList.length (oev e (lo.map cO)) (oev e (hi.map cO)) none with
    | none => rw [hb] at hv; cases hv
    | some p =>
      obtain ⟨l, hh, m⟩ := p
      simp only [hb, dropN_eq] at hv
      cases htk : takeN (hh - l) (s.data.toList.drop l) with
      | none => simp [htk] at hv
      | some r =>
        simp only [htk, Option.some.injEq] at hv; subst hv
        obtain ⟨_, hr⟩ := takeN_eq htk
        rw [len_data] at hb
        obtain ⟨b1, _⟩ := sbounds_sound (P := P) (w := w) hρ (mx := none) false (Nat.le_refl s.size) hb (by intro hh; cases hh)
        refine ⟨.string (s.extract l hh), ?_, str_of (by rw [extract_list, hr])⟩
        simp only [execOp, ho, hc]
        refine r_val ?_
        simp only [Option.map_none] at b1
        simp only [Instr.sliceAt, Sem.run_bind, r_und ht, Result.andThen_ok, Instr.slice, Option.map_none, Option.isSome_none, Bool.false_eq_true, if_false, b1, Sem.run_pure]

theorem pu_sliceArr {t el : TypeId} {i : TypeInfo} {x : Operand} {lo hi : Option Operand} {n : Nat} (ho : o.op = .slice t x lo hi none) (ht : P.underlying t = some (.array n el)) (hi' : P.info? el = some i) :
    PuOk P o fun e _ => sliceA n i.size ((cO x).ev e) (oev e (lo.map cO)) (oev e (hi.map cO)) := by
  intro C α Λ h ls w e ρ v _ _ hρ hv
  dsimp only at hv
  have hx := hρ x
  revert hv
  generalize (cO x).ev e = a at hx
  intro hv
  cases a <;> simp only [sliceA] at hv <;> (try (cases hv; done))
  rename_i a off
  generalize hc : ρ x = d at hx
  cases hx with
  | ptr _ _ L ha =>
    cases hb : sbounds n n (oev e (lo.map cO)) (oev e (hi.map cO)) none with
    | none => simp [hb] at hv
    | some p =>
      obtain ⟨l, hh, m⟩ := p
      simp only [hb, Option.some.injEq] at hv; subst hv
      obtain ⟨b1, b2, b3, b4, b5⟩ := sbounds_sound (P := P) (w := w) hρ (mx := none) false (Nat.le_refl n) hb (by intro hh; cases hh)
      simp only [Option.map_none] at b1
      refine ⟨.slice (some (if m = l then ⟨L.blk, L.base + off, none⟩ else (Addr.mk L.blk (L.base + off) none).add (l * i.size))) (hh - l) (m - l), ?_, ?_⟩
      · simp only [execOp, ho, hc]
        refine r_val ?_
        simp only [Instr.sliceAt, Sem.run_bind, r_und ht, Result.andThen_ok, Instr.sureAddr, Option.map_none, b1, r_size hi', Sem.run_pure]
      · by_cases hm : m = l
        · subst hm
          simp only [if_true, Nat.sub_self, Nat.beq_refl, cond_true]
          have : hh - m = 0 := by omega
          rw [this]
          exact .sl0 _ _ _ _ (.inl rfl)
        · have hf : Nat.beq m l = false := by rw [Bool.eq_false_iff]; intro e1; exact hm (Nat.eq_of_beq_eq_true e1)
          simp only [hm, if_false, hf, cond_false, add_at]
          have := VR.sl (α := α) a (off + l * i.size) (hh - l) (.ex (m - l)) L (m - l) ha (by omega) rfl
          simpa [Nat.add_assoc] using this
/-- a slice of a slice, beyond its length -/
theorem pu_sliceX {t el : TypeId} {i : TypeInfo} {x : Operand} {lo hi : Option Operand} (ho : o.op = .slice t x lo hi none) (ht : P.underlying t = some (.slice el)) (hi' : P.info? el = some i) :
    PuOk P o fun e h => sliceX h i.size ((cO x).ev e) (oev e (lo.map cO)) (oev e (hi.map cO)) := by
  intro C α Λ h ls w e ρ v _ sim hρ hv
  dsimp only at hv
  have hx := hρ x
  revert hv
  generalize (cO x).ev e = a at hx
  intro hv
  suffices hs : ∃ c, (Instr.slice t (ρ x) (lo.map ρ) (hi.map ρ) ((none : Option Operand).map ρ)).run P w = .ok c w ∧ VR α v c by
    obtain ⟨c, h1, h2⟩ := hs
    refine ⟨c, ?_, h2⟩
    simp only [execOp, ho]
    refine r_val ?_
    simp only [Instr.sliceAt, Sem.run_bind, r_und ht, Result.andThen_ok, h1]
  have run : ∀ {ad : Option Addr} {n c l hh m : Nat}, ρ x = .slice ad n c → (Instr.sliceBounds true n c (lo.map ρ) (hi.map ρ) ((none : Option Operand).map ρ)).run P w = .ok (l, hh, m) w →
      (Instr.slice t (ρ x) (lo.map ρ) (hi.map ρ) ((none : Option Operand).map ρ)).run P w = .ok (.slice (if m = l then ad else ad.map (·.add (l * i.size))) (hh - l) (m - l)) w := by
    intro ad n c l hh m hxx hb
    simp only [Instr.slice, hxx, Sem.run_bind, r_und ht, Result.andThen_ok, hb, r_size hi', Sem.run_pure]
  cases a <;> simp only [sliceX] at hv <;> (try (cases hv; done))
  rename_i a off n c
  cases c with
  | ex c => simp at hv
  | un s =>
    simp only at hv
    cases hse : Nat.beq s i.size with
    | false => simp [hse] at hv
    | true =>
      have hss := Nat.eq_of_beq_eq_true hse
      subst hss
      simp only [hse, cond_true] at hv
      generalize hN : extOf h i.size a off = N at hv
      cases hle : Nat.ble n N with
      | false => simp [hle] at hv
      | true =>
        simp only [hle, cond_true] at hv
        have hnN := Nat.le_of_ble_eq_true hle
        cases hb : sbounds n N (oev e (lo.map cO)) (oev e (hi.map cO)) none with
        | none => simp [hb] at hv
        | some p =>
          obtain ⟨l, hh, m⟩ := p
          simp only [hb, Option.some.injEq] at hv
          subst hv
          -- what the block tells of the capacity
          have cap : ∀ {L : Loc} {capC : Nat}, α a = some L → L.base + off + capC * i.size = L.top → N ≤ capC := by
            intro L capC ha hcap
            rw [← hN]
            unfold extOf
            cases hg : h.get a with
            | none => exact Nat.zero_le _
            | some b =>
              cases b with
              | cells lc d =>
                cases d with
                | true => exact Nat.zero_le _
                | false =>
                  have hΛ : Λ a := by
                    rcases sim.live a L _ ha hg with h1 | ⟨m, h1⟩
                    · exact h1
                    · cases h1
                  obtain ⟨b', h1, h2⟩ := sim.blk a L ha hΛ
                  rw [hg] at h1; cases h1
                  obtain ⟨cs, el', fr, k1, k2, k3, ⟨k4, k5⟩, _⟩ := h2
                  show (lc.length - off) / i.size ≤ capC
                  rcases Nat.eq_zero_or_pos i.size with hz | hz
                  · rw [hz]; simp
                  · have k6 : lc.length - off ≤ capC * i.size := by omega
                    exact Nat.div_le_of_le_mul (by rw [Nat.mul_comm]; exact k6)
              | ro _ => exact Nat.zero_le _
              | map _ _ => exact Nat.zero_le _
              | loop _ => exact Nat.zero_le _
              | dfr _ => exact Nat.zero_le _
          generalize hc : ρ x = d at hx
          cases hx with
          | sl _ _ _ _ L capC ha hn hcap =>
            simp only [CapR] at hcap
            have hNc := cap ha hcap.1
            have hb' : sbounds n capC (oev e (lo.map cO)) (oev e (hi.map cO)) (oev e ((none : Option Operand).map cO)) = some (l, hh, capC) := by
              unfold sbounds at hb ⊢
              have q : oev e ((none : Option Operand).map cO) = none := rfl
              have q1 : ∀ d y, sbound d y none = some d := fun _ _ => rfl
              simp only [q, q1] at hb ⊢
              revert hb
              cases h2 : sbound n N (oev e (hi.map cO)) with
              | none => intro hb; simp at hb
              | some h' =>
                have h2' : sbound n capC (oev e (hi.map cO)) = some h' := sbound_more h2 hNc
                intro hb
                simp only [h2']
                simp only at hb
                revert hb
                cases sbound 0 h' (oev e (lo.map cO)) with
                | none => intro hb; simp at hb
                | some l' => intro hb; simp at hb; simp [hb]
            obtain ⟨b1, b2, b3, b4, b5⟩ := sbounds_sound (P := P) (w := w) hρ true hn hb' (by intro hh; cases hh)
            refine ⟨_, hc ▸ run hc b1, ?_⟩
            by_cases hm : capC = l
            · subst hm
              simp only [if_true, Nat.sub_self]
              have : hh - capC = 0 := by omega
              rw [this]
              exact .sl0 _ _ _ _ (.inr ⟨_, L, rfl, ha, by omega⟩)
            · simp only [hm, if_false, add_some]
              have := VR.sl (α := α) a (off + l * i.size) (hh - l) (.un i.size) L (capC - l) ha (by omega) (cap_cut hcap (by omega))
              simpa [Nat.add_assoc] using this
          | sl0 _ _ _ ad hcap =>
            rcases hcap with hcap | ⟨s', L, h1, h2, h3⟩
            · cases hcap
            · have hN0 : N ≤ 0 := cap h2 (capC := 0) (by omega)
              have hN0 : N = 0 := by omega
              rw [hN0] at hb
              obtain ⟨b1, b2, b3, b4, b5⟩ := sbounds_sound (P := P) (w := w) (mx := none) hρ true (Nat.le_refl 0) hb (by intro hh; cases hh)
              refine ⟨_, hc ▸ run hc b1, ?_⟩
              have : m = 0 := by omega
              subst this
              have : hh = 0 := by omega
              subst this
              have : l = 0 := by omega
              subst this
              exact .sl0 _ _ _ _ (.inr ⟨_, L, rfl, h2, by omega⟩)

theorem pu_sliceSX {t el : TypeId} {i : TypeInfo} {x : Operand} {lo hi mx : Option Operand} (ho : o.op = .slice t x lo hi mx) (ht : P.underlying t = some (.slice el)) (hi' : P.info? el = some i)
    (hmx : mx.isSome = true → hi.isSome = true) :
    PuOk P o fun e h => orSliceX h i.size ((cO x).ev e) (oev e (lo.map cO)) (oev e (hi.map cO)) (oev e (mx.map cO))
      (sliceV i.size ((cO x).ev e) (oev e (lo.map cO)) (oev e (hi.map cO)) (oev e (mx.map cO))) := by
  intro C α Λ h ls w e ρ v hC sim hρ hv
  dsimp only at hv
  have h1 := pu_sliceSl ho ht hi' hmx C α Λ h ls w e ρ v hC sim hρ
  revert hv
  cases hsv : sliceV i.size ((cO x).ev e) (oev e (lo.map cO)) (oev e (hi.map cO)) (oev e (mx.map cO)) with
  | some u =>
    intro hv
    have : u = v := by cases hq : oev e (mx.map cO) <;> simpa [hq, orSliceX] using hv
    subst this
    exact h1 hsv
  | none =>
    intro hv
    cases mx with
    | some m => simp [oev, orSliceX] at hv
    | none => exact pu_sliceX ho ht hi' C α Λ h ls w e ρ v hC sim hρ (by simpa [oev, orSliceX] using hv)
end Go.Ev
