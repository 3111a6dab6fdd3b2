/- A program of this law is run by an evaluator that is proved right: what it is. It holds for every program of the model. -/
import GoSem.Core.World
import GoSem.Core.View
import GoSem.Op.String
import GoSem.Core.Layout
import GoSem.Core.Region
import GoSem.Op.Equal
namespace Go.Ev

/-- the number of a block, or of a slot, as a way through a tree: z is 0, l p is 2 p + 1, r p is 2 p + 2 -/
inductive Pa where
  | z
  | l (p : Pa)
  | r (p : Pa)
  deriving DecidableEq

def Pa.toNat : Pa → Nat
  | .z => 0
  | .l p => 2 * p.toNat + 1
  | .r p => 2 * p.toNat + 2
def Pa.succ : Pa → Pa
  | .z => .l .z
  | .l p => .r p
  | .r p => .l p.succ
def Pa.of : Nat → Nat → Pa
  | 0, _ => .z
  | f + 1, k => if k = 0 then .z else if k % 2 = 1 then .l (Pa.of f (k / 2)) else .r (Pa.of f (k / 2 - 1))
def Pa.beq : Pa → Pa → Bool
  | .z, .z => true
  | .l p, .l q => p.beq q
  | .r p, .r q => p.beq q
  | _, _ => false

/-- the kinds of nil -/
inductive NK where
  | ptr | sl | map | fn | iface | bot

/-- a slice's capacity: known, or not (then: how many cells an element has) -/
inductive Cap where
  | ex (c : Nat)
  | un (s : Nat)

inductive V where
  | bool (b : Bool)
  | int (k : IntKind) (n : Int)
  | str (s : List UInt8)
  | ptr (a : Pa) (o : Nat)
  | sl (a : Pa) (o n : Nat) (c : Cap)
  | agg (l : List V)
  | tup (l : List V)
  | no (k : NK)
  | map (a : Pa)
  | fn (f : Nat) (caps : List V)
  | yld (l : Pa)
  | iface (t : Nat) (v : V)

inductive T (α : Type) where
  | E
  | N (v : Option α) (l r : T α)

structure Heap (B : Type) where
  next : Pa
  t : T B

/-- an operand -/
inductive Od where
  | t (i : Pa)
  | c (v : V)

/-- how two values of a type are held against each other -/
inductive FlatK where
  | i | b | s
inductive EqK where
  | flat (q : FlatK)          -- ints, bools, strings
  | ptr
  | iface
  | slice
  | func
  | map
  | agg (l : List (Nat × FlatK))        -- the cells that count: all of them flat
  | no

inductive Jump where
  | ret
  | exit (id : Nat)

/-- a deferred call, or the mark of a loop over a function -/
inductive Def where
  | call (f : Nat) (args : List V)
  | mark (a : Pa)

inductive Ctl where
  | call (f : Nat) (args : List V)
  | yield (l : Pa) (args : List V)
  | defer (d : Def)
  | recover
  | panic (v : V)
  | bad (n : Nat)

/-- what an operation does: it looks and reckons; it makes memory of what it is handed; it turns memory; it leaves the frame -/
inductive Sm (B : Type) where
  | pu (f : T V → Heap B → Option V)
  | al (f : T V → Option (B × (Pa → V)))
  | st (f : T V → Heap B → Option (V × Heap B))
  | ct (f : T V → Ctl)

structure RO (B : Type) where
  dst : Option Pa
  sem : Sm B
  guard : Option (Pa × Bool)

inductive RS (B : Type) where
  | op (o : RO B)
  | chk (o : RO B)

inductive IC (B : Type) where
  | skip
  | region (rs : List (RS B))
  | seq (a b : IC B)
  | cond (c : Od) (a b : IC B)
  | block (id : Nat) (b : IC B)
  | loop (b : IC B)
  | rangeFunc (f : Od) (ps : List Pa) (a b : IC B)
  | exit (id : Nat)
  | ret
  | bad

/-- a loop over a function, but for its code -/
structure ALoop where
  state : LoopState
  pending : Option Jump
  fn : Nat
  nt : Nat
  env : T V
  params : List Pa

inductive Blk where
  | cells (l : List V) (dead : Bool)
  | ro (l : List V)
  | map (es : List (V × V × Nat)) (clock : Nat)
  | loop (l : ALoop)
  | dfr (live : Bool)
end Go.Ev

namespace Go.Ev
/-! what the kernel does most: by recursors, so that it has little to do -/
noncomputable section
def T.get {α : Type} (t : T α) : Pa → Option α :=
  T.rec (motive := fun _ => Pa → Option α) (fun _ => none)
    (fun v _ _ ihl ihr p => Pa.rec (motive := fun _ => Option α) v (fun p _ => ihl p) (fun p _ => ihr p) p) t
/-- a tree with one leaf -/
def T.one {α : Type} (x : α) (p : Pa) : T α :=
  Pa.rec (motive := fun _ => T α) (.N (some x) .E .E) (fun _ ih => .N none ih .E) (fun _ ih => .N none .E ih) p
def T.set {α : Type} (x : α) (t : T α) : Pa → T α :=
  T.rec (motive := fun _ => Pa → T α) (fun p => T.one x p)
    (fun v l r ihl ihr p => Pa.rec (motive := fun _ => T α) (.N (some x) l r) (fun p _ => .N v (ihl p) r) (fun p _ => .N v l (ihr p)) p) t
end
end Go.Ev

namespace Go.Ev
noncomputable section
abbrev Hp := Heap Blk
abbrev Sem1 := Sm Blk

def Heap.get {B : Type} (h : Heap B) (a : Pa) : Option B := h.t.get a
def Heap.put {B : Type} (h : Heap B) (a : Pa) (b : B) : Heap B := ⟨h.next, h.t.set b a⟩
def Heap.alloc {B : Type} (h : Heap B) (b : B) : Heap B := ⟨h.next.succ, h.t.set b h.next⟩

/-! whole numbers, so that the kernel has little to do -/
def iLt : Int → Int → Bool
  | .ofNat a, .ofNat b => Nat.blt a b
  | .ofNat _, .negSucc _ => false
  | .negSucc _, .ofNat _ => true
  | .negSucc a, .negSucc b => Nat.blt b a
def iEq : Int → Int → Bool
  | .ofNat a, .ofNat b => Nat.beq a b
  | .ofNat _, .negSucc _ => false
  | .negSucc _, .ofNat _ => false
  | .negSucc a, .negSucc b => Nat.beq a b
def iAdd : Int → Int → Int
  | .ofNat a, .ofNat b => .ofNat (Nat.add a b)
  | a, b => a + b
def iSub : Int → Int → Int
  | .ofNat a, .ofNat b => bif Nat.ble b a then .ofNat (Nat.sub a b) else .ofNat a - .ofNat b
  | a, b => a - b
def iMul : Int → Int → Int
  | .ofNat a, .ofNat b => .ofNat (Nat.mul a b)
  | a, b => a * b
def topK : IntKind → Nat
  | .i8 => 127 | .i16 => 32767 | .i32 => 2147483647 | .i64 => 9223372036854775807
  | .u8 => 255 | .u16 => 65535 | .u32 => 4294967295 | .u64 => 18446744073709551615
def wrapF (k : IntKind) : Int → Int
  | .ofNat a => bif Nat.ble a (topK k) then .ofNat a else k.wrap (.ofNat a)
  | .negSucc a => bif k.signed && Nat.ble a (topK k) then .negSucc a else k.wrap (.negSucc a)

def kNum : IntKind → Nat
  | .i8 => 0 | .i16 => 1 | .i32 => 2 | .i64 => 3 | .u8 => 4 | .u16 => 5 | .u32 => 6 | .u64 => 7
def kEq (a b : IntKind) : Bool := Nat.beq (kNum a) (kNum b)
def bEq (a b : Bool) : Bool := bif a then b else !b
def sEq : List UInt8 → List UInt8 → Bool
  | [], [] => true
  | a :: x, b :: y => bif Nat.beq a.toNat b.toNat then sEq x y else false
  | _, _ => false
def sLt : List UInt8 → List UInt8 → Bool
  | _, [] => false
  | [], _ :: _ => true
  | a :: x, b :: y => bif Nat.blt a.toNat b.toNat then true else bif Nat.beq a.toNat b.toNat then sLt x y else false

def flatEq (q : FlatK) (x y : V) : Option Bool :=
  match q with
  | .i => match x with
    | .int k a => match y with
      | .int k' b => bif kEq k k' then some (iEq a b) else none
      | _ => none
    | _ => none
  | .b => match x with
    | .bool a => match y with
      | .bool b => some (bEq a b)
      | _ => none
    | _ => none
  | .s => match x with
    | .str a => match y with
      | .str b => some (sEq a b)
      | _ => none
    | _ => none

def nth {α : Type} : List α → Nat → Option α
  | [], _ => none
  | a :: l, n => bif Nat.beq n 0 then some a else nth l (Nat.sub n 1)

def aggEq (x y : List V) : List (Nat × FlatK) → Option Bool
  | [] => some true
  | (o, q) :: r => match nth x o with
    | none => none
    | some a => match nth y o with
      | none => none
      | some b => match flatEq q a b with
        | some true => aggEq x y r
        | some false => some false
        | none => none

inductive NilIs where
  | nil | some | other
def isNil (q : EqK) : V → NilIs
  | .no k => match q, k with
    | .ptr, .ptr => .nil
    | .iface, .iface => .nil
    | .slice, .sl => .nil
    | .func, .fn => .nil
    | .map, .map => .nil
    | _, _ => .other
  | .ptr _ _ => match q with | .ptr => .some | _ => .other
  | .iface _ _ => match q with | .iface => .some | _ => .other
  | .sl .. => match q with | .slice => .some | _ => .other
  | .fn .. => match q with | .func => .some | _ => .other
  | .map _ => match q with | .map => .some | _ => .other
  | _ => .other

def eqV (q : EqK) (x y : V) : Option Bool :=
  match q with
  | .flat q => flatEq q x y
  | .agg l => match x with
    | .agg a => match y with
      | .agg b => aggEq a b l
      | _ => none
    | _ => none
  | q => match isNil q x, isNil q y with
    | .nil, .nil => some true
    | .nil, .some => some false
    | .some, .nil => some false
    | _, _ => none

def binInt (op : BinOp) (k : IntKind) (a b : Int) : Option V :=
  match op with
  | .add => some (.int k (wrapF k (iAdd a b)))
  | .sub => some (.int k (wrapF k (iSub a b)))
  | .mul => some (.int k (wrapF k (iMul a b)))
  | .quo => bif iEq b 0 then none else some (.int k (wrapF k (a.tdiv b)))
  | .rem => bif iEq b 0 then none else some (.int k (a.tmod b))
  | .and => some (.int k (k.wrap (BitVec.ofInt k.bits a &&& BitVec.ofInt k.bits b).toNat))
  | .or => some (.int k (k.wrap (BitVec.ofInt k.bits a ||| BitVec.ofInt k.bits b).toNat))
  | .xor => some (.int k (k.wrap (BitVec.ofInt k.bits a ^^^ BitVec.ofInt k.bits b).toNat))
  | .andNot => some (.int k (k.wrap (BitVec.ofInt k.bits a &&& ~~~ BitVec.ofInt k.bits b).toNat))
  | .eql => some (.bool (iEq a b))
  | .neq => some (.bool (!iEq a b))
  | .lss => some (.bool (iLt a b))
  | .leq => some (.bool (!iLt b a))
  | .gtr => some (.bool (iLt b a))
  | .geq => some (.bool (!iLt a b))
  | .shl => none
  | .shr => none

def shiftInt (left : Bool) (k : IntKind) (a b : Int) : Option V :=
  bif iLt b 0 then none else
  bif left then some (.int k (k.wrap (a * 2 ^ (min b.toNat k.bits)))) else some (.int k (a.fdiv (2 ^ (min b.toNat k.bits))))

def binStr (op : BinOp) (a b : List UInt8) : Option V :=
  match op with
  | .add => bif Nat.ble (a.length + b.length) 9223372036854775807 then some (.str (a ++ b)) else none
  | .eql => some (.bool (sEq a b))
  | .neq => some (.bool (!sEq a b))
  | .lss => some (.bool (sLt a b))
  | .leq => some (.bool (sLt a b || sEq a b))
  | .gtr => some (.bool (!(sLt a b || sEq a b)))
  | .geq => some (.bool (!sLt a b))
  | _ => none

/-- all else of two numbers, of two strings -/
def binG (op : BinOp) (x y : V) : Option V :=
  match x with
  | .int k a => match y with
    | .int k' b => bif kEq k k' then binInt op k a b else none
    | _ => none
  | .str a => match y with
    | .str b => binStr op a b
    | _ => none
  | _ => none

/-- by the operator, which is known ahead: shifts, (un)like, all else -/
def binV (op : BinOp) (q : EqK) (x y : V) : Option V :=
  match op with
  | .shl => match x with
    | .int k a => match y with
      | .int _ b => shiftInt true k a b
      | _ => none
    | _ => none
  | .shr => match x with
    | .int k a => match y with
      | .int _ b => shiftInt false k a b
      | _ => none
    | _ => none
  | .eql => (eqV q x y).map .bool
  | .neq => (eqV q x y).map fun b => .bool (!b)
  | op => binG op x y

def unV (op : UnOp) (x : V) : Option V :=
  match op with
  | .neg => match x with
    | .int k n => some (.int k (wrapF k (iSub 0 n)))
    | _ => none
  | .not => match x with
    | .bool b => some (.bool (!b))
    | _ => none
  | .xor => match x with
    | .int k n => some (.int k (k.wrap (BitVec.ofInt k.bits (if k.signed then -1 else k.max) ^^^ BitVec.ofInt k.bits n).toNat))
    | _ => none
  | .plus => none

/-! operands -/
def T.val (e : T V) (i : Pa) : V := match e.get i with | some v => v | none => .no .bot
def Od.ev (e : T V) : Od → V
  | .t i => e.val i
  | .c v => v
def evL (e : T V) : List Od → List V
  | [] => []
  | x :: r => x.ev e :: evL e r
def oev (e : T V) : Option Od → Option V
  | none => none
  | some x => some (x.ev e)

/-- the cells of a value -/
def V.cells : V → List V
  | .agg l => l
  | v => [v]

def takeN {α : Type} : Nat → List α → Option (List α)
  | 0, _ => some []
  | n + 1, l => match l with
    | a :: l => match takeN n l with | some r => some (a :: r) | none => none
    | [] => none
def dropN {α : Type} : Nat → List α → List α
  | 0, l => l
  | n + 1, l => match l with
    | _ :: l => dropN n l
    | [] => []
def over : List V → List V → Option (List V)
  | l, [] => some l
  | l, x :: xs => match l with
    | _ :: l => match over l xs with | some r => some (x :: r) | none => none
    | [] => none
/-- what stands at a place, and behind it, is others -/
def splice : Nat → List V → List V → Option (List V)
  | 0, l, xs => over l xs
  | n + 1, l, xs => match l with
    | a :: l => match splice n l xs with | some r => some (a :: r) | none => none
    | [] => none

def Heap.cells (h : Hp) (a : Pa) : Option (List V) :=
  match h.get a with
  | none => none
  | some b => match b with
    | .cells l d => bif d then none else some l
    | .ro l => some l
    | _ => none
def Heap.loadN (h : Hp) (a : Pa) (o n : Nat) : Option (List V) :=
  match h.cells a with
  | some l => takeN n (dropN o l)
  | none => none

def isScalar : V → Bool
  | .agg _ => false
  | .tup _ => false
  | .no k => match k with | .bot => false | _ => true
  | _ => true
def allScalar : List V → Bool
  | [] => true
  | v :: l => bif isScalar v then allScalar l else false
def Heap.storeN (h : Hp) (a : Pa) (o : Nat) (xs : List V) : Option Hp :=
  match h.get a with
  | none => none
  | some b => match b with
    | .cells l d => bif d then none else bif allScalar xs then match splice o l xs with | some l' => some (h.put a (.cells l' false)) | none => none else none
    | _ => none

/-- parts put into their places -/
def fillP (e : T V) : List (Nat × Nat × Od) → List V → Option (List V)
  | [], z => some z
  | (o, n, x) :: r, z =>
    let cs := (x.ev e).cells
    bif Nat.beq cs.length n then bif allScalar cs then match splice o z cs with | some z' => fillP e r z' | none => none else none else none

def byteV (b : UInt8) : V := .int .u8 (.ofNat b.toNat)
def bytesOf : List V → Option (List UInt8)
  | [] => some []
  | v :: l => match v with
    | .int k n => match k with
      | .u8 => match bytesOf l with | some r => some (UInt8.ofNat n.toNat :: r) | none => none
      | _ => none
    | _ => none

def part (n : Option Nat) (l : List V) (o : Nat) : Option V :=
  match n with
  | none => nth l o
  | some n => match takeN n (dropN o l) with | some r => some (.agg r) | none => none

def sbound (d : Nat) (y : Nat) : Option V → Option Nat
  | none => some d
  | some v => match v with
    | .int _ i => match i with
      | .ofNat i => bif Nat.ble i y then some i else none
      | .negSucc _ => none
    | _ => none

/-- low, high and max, of a length and a capacity -/
def sbounds (n c : Nat) (lo hi mx : Option V) : Option (Nat × Nat × Nat) :=
  match sbound c c mx with
  | none => none
  | some m => match sbound n m hi with
    | none => none
    | some h => match sbound 0 h lo with
      | none => none
      | some l => some (l, h, m)

/-- a slice of an array behind a pointer -/
def sliceA (n esz : Nat) (x : V) (lo hi : Option V) : Option V :=
  match x with
  | .ptr a o => match sbounds n n lo hi none with
    | some (l, h, m) => some (.sl a (bif Nat.beq m l then o else o + l * esz) (h - l) (.ex (m - l)))
    | none => none
  | _ => none
/-- a part of a string -/
def sliceS (x : V) (lo hi : Option V) : Option V :=
  match x with
  | .str s => match sbounds s.length s.length lo hi none with
    | some (l, h, _) => match takeN (h - l) (dropN l s) with | some r => some (.str r) | none => none
    | none => none
  | _ => none
/-- a slice of a slice; where its capacity is not known: up to its length -/
def sliceV (esz : Nat) (x : V) (lo hi mx : Option V) : Option V :=
  match x with
  | .no k => match k with
    | .sl => match sbounds 0 0 lo hi mx with
      | some _ => some (.no .sl)
      | none => none
    | _ => none
  | .sl a o n c => match c with
    | .ex c => match sbounds n c lo hi mx with
      | some (l, h, m) => some (.sl a (bif Nat.beq m l then o else o + l * esz) (h - l) (.ex (m - l)))
      | none => none
    | .un s => bif Nat.beq s esz then match sbounds n n lo hi mx with
      | some (l, h, m) => match mx with
        | none => some (.sl a (o + l * esz) (h - l) (.un s))
        | some _ => bif Nat.blt l m then some (.sl a (o + l * esz) (h - l) (.ex (m - l))) else some (.sl a o 0 (.ex 0))
      | none => none else none
  | _ => none

/-- how many elements are there at the least, where a capacity is not known -/
def extOf (h : Hp) (esz : Nat) (a : Pa) (o : Nat) : Nat :=
  match h.get a with
  | some b => match b with
    | .cells l d => bif d then 0 else Nat.div (Nat.sub l.length o) esz
    | _ => 0
  | none => 0
/-- a slice of a slice, beyond its length: as far as its block is known to go -/
def sliceX (h : Hp) (esz : Nat) (x : V) (lo hi : Option V) : Option V :=
  match x with
  | .sl a o n c => match c with
    | .un s => bif Nat.beq s esz then
        bif Nat.ble n (extOf h esz a o) then match sbounds n (extOf h esz a o) lo hi none with
          | some (l, hh, _) => some (.sl a (o + l * esz) (hh - l) (.un s))
          | none => none
        else none
      else none
    | _ => none
  | _ => none

def findK (q : EqK) (k : V) : List (V × V × Nat) → Nat → Option (Option (Nat × V))
  | [], _ => some none
  | (k', v, _) :: r, i => match eqV q k k' with
    | some b => bif b then some (some (i, v)) else findK q k r (i + 1)
    | none => none

def fitsF (q : FlatK) (k : V) : Bool :=
  match q with
  | .i => match k with | .int _ _ => true | _ => false
  | .b => match k with | .bool _ => true | _ => false
  | .s => match k with | .str _ => true | _ => false
def fitsL (a : List V) : List (Nat × FlatK) → Bool
  | [] => true
  | (o, q) :: r => match nth a o with
    | some k => bif fitsF q k then fitsL a r else false
    | none => false
/-- might it be a key? -/
def fits (q : EqK) (k : V) : Bool :=
  match q with
  | .flat q => fitsF q k
  | .agg l => match k with | .agg a => fitsL a l | _ => false
  | _ => false

def Heap.mapOf (h : Hp) : V → Option (List (V × V × Nat))
  | .map r => match h.get r with
    | some b => match b with
      | .map es _ => some es
      | _ => none
    | none => none
  | .no k => match k with | .map => some [] | _ => none
  | _ => none

def mm (isMax : Bool) (x y : V) : Option V :=
  match x with
  | .int k x => match y with
    | .int k' y => bif kEq k k' then some (.int k (bif isMax then (bif iLt x y then y else x) else (bif iLt y x then y else x))) else none
    | _ => none
  | _ => none
def mmL (isMax : Bool) (e : T V) : List Od → V → Option V
  | [], x => some x
  | y :: r, x => match mm isMax x (y.ev e) with | some z => mmL isMax e r z | none => none

/-! ## what only looks, and reckons -/
def smMv (x : Od) : Sem1 := .pu fun e _ => some (x.ev e)
def smPick (c a b : Od) : Sem1 := .pu fun e _ => match c.ev e with
  | .bool t => some (bif t then a.ev e else b.ev e)
  | _ => none
def smBuild (z : List V) (ps : List (Nat × Nat × Od)) : Sem1 := .pu fun e _ => match fillP e ps z with | some l => some (.agg l) | none => none
def loadV (h : Hp) (n : Option Nat) : V → Option V
  | .ptr a o => match n with
    | none => match h.cells a with
      | some l => nth l o
      | none => none
    | some n => match h.loadN a o n with | some l => some (.agg l) | none => none
  | _ => none
def smLoad (n : Option Nat) (x : Od) : Sem1 := .pu fun e h => loadV h n (x.ev e)
def smNil (x : Od) : Sem1 := .pu fun e _ => match x.ev e with
  | .ptr a o => some (.ptr a o)
  | _ => none
def smBin (op : BinOp) (q : EqK) (x y : Od) : Sem1 := .pu fun e _ => binV op q (x.ev e) (y.ev e)
def smUn (op : UnOp) (x : Od) : Sem1 := .pu fun e _ => unV op (x.ev e)
def smConvInt (k : IntKind) (x : Od) : Sem1 := .pu fun e _ => match x.ev e with
  | .int _ n => some (.int k (wrapF k n))
  | _ => none
def smConvSame (x : Od) : Sem1 := .pu fun e _ => match x.ev e with
  | .str s => some (.str s)
  | _ => none
def smConvStr (x : Od) : Sem1 := .pu fun e h => match x.ev e with
  | .sl a o n _ => match h.loadN a o n with
    | some l => match bytesOf l with | some s => some (.str s) | none => none
    | none => none
  | .no k => match k with | .sl => some (.str []) | _ => none
  | _ => none
/-- bytes of a text that does not change, as a slice: the row is marked; it goes by another name then -/
def capMark : Cap → Option Cap
  | .ex c => some (.ex c)
  | .un s => bif Nat.beq s 1 then some (.un 1) else none
def markV (h : Hp) (x : V) : Option (V × Hp) :=
  match x with
  | .sl a o n c => bif Nat.beq n 0 then none else match capMark c with
    | none => none
    | some c' => match h.get a with
      | none => none
      | some b => match b with
        | .cells l d => bif d then none else some (.sl h.next o n c', (h.put a (.cells l true)).alloc (.cells l false))
        | _ => none
  | _ => none
def smMark (x : Od) : Sem1 := .st fun e h => markV h (x.ev e)
def smMkI (t : Nat) (x : Od) : Sem1 := .pu fun e _ => some (.iface t (x.ev e))
def smMkF (f : Nat) (caps : List Od) : Sem1 := .pu fun e _ => some (.fn f (evL e caps))
def orSliceX (h : Hp) (s : Nat) (x : V) (lo hi : Option V) : Option V → Option V → Option V
  | some _, r => r
  | none, r => match r with
    | some v => some v
    | none => sliceX h s x lo hi
def smSlice (s : Nat) (x : Od) (lo hi mx : Option Od) : Sem1 := .pu fun e h => orSliceX h s (x.ev e) (oev e lo) (oev e hi) (oev e mx) (sliceV s (x.ev e) (oev e lo) (oev e hi) (oev e mx))
def smSliceS (x : Od) (lo hi : Option Od) : Sem1 := .pu fun e _ => sliceS (x.ev e) (oev e lo) (oev e hi)
def smSliceA (n s : Nat) (x : Od) (lo hi : Option Od) : Sem1 := .pu fun e _ => sliceA n s (x.ev e) (oev e lo) (oev e hi)
def smFAddr (off : Nat) (x : Od) : Sem1 := .pu fun e _ => match x.ev e with
  | .ptr a o => some (.ptr a (o + off))
  | _ => none
def smField (off : Nat) (n : Option Nat) (x : Od) : Sem1 := .pu fun e _ => match x.ev e with
  | .agg l => part n l off
  | _ => none
def smIAddr (arr : Option Nat) (s : Nat) (x i : Od) : Sem1 := .pu fun e _ => match i.ev e with
  | .int _ j => match j with
    | .ofNat j => match arr with
      | some n => match x.ev e with
        | .ptr a o => bif Nat.blt j n then some (.ptr a (o + j * s)) else none
        | _ => none
      | none => match x.ev e with
        | .sl a o n _ => bif Nat.blt j n then some (.ptr a (o + j * s)) else none
        | _ => none
    | .negSucc _ => none
  | _ => none
def smIndexS (x i : Od) : Sem1 := .pu fun e _ => match i.ev e with
  | .int _ j => match j with
    | .ofNat j => match x.ev e with
      | .str s => match nth s j with | some b => some (byteV b) | none => none
      | _ => none
    | .negSucc _ => none
  | _ => none
def smIndexA (len s : Nat) (n : Option Nat) (x i : Od) : Sem1 := .pu fun e _ => match i.ev e with
  | .int _ j => match j with
    | .ofNat j => match x.ev e with
      | .agg l => bif Nat.blt j len then part n l (j * s) else none
      | _ => none
    | .negSucc _ => none
  | _ => none
def withOk (ok : Bool) (v : V) (b : Bool) : V := bif ok then .tup [v, .bool b] else v
def lookV (h : Hp) (q : EqK) (z x k : V) (ok : Bool) : Option V :=
  match h.mapOf x with
  | some es => bif fits q k then match findK q k es 0 with
    | some r => match r with
      | some (_, v) => some (withOk ok v true)
      | none => some (withOk ok z false)
    | none => none else none
  | none => none
def smLookup (q : EqK) (z : V) (x i : Od) (ok : Bool) : Sem1 := .pu fun e h => lookV h q z (x.ev e) (i.ev e) ok
def smAssert (t : Nat) (z : V) (x : Od) (ok : Bool) : Sem1 := .pu fun e _ => match x.ev e with
  | .iface t' v => bif Nat.beq t t' then some (withOk ok v true) else bif ok then some (.tup [z, .bool false]) else none
  | .no k => match k with
    | .iface => bif ok then some (.tup [z, .bool false]) else none
    | _ => none
  | _ => none
def smExt (x : Od) (i : Nat) : Sem1 := .pu fun e _ => match x.ev e with
  | .tup l => nth l i
  | _ => none
def lenSl : V → Option V
  | .sl _ _ n _ => some (.int .i64 (.ofNat n))
  | .no k => match k with | .sl => some (.int .i64 (.ofNat 0)) | _ => none
  | _ => none
def lenStr : V → Option V
  | .str s => some (.int .i64 (.ofNat s.length))
  | _ => none
def capSl : V → Option V
  | .sl _ _ _ c => match c with | .ex c => some (.int .i64 (.ofNat c)) | .un _ => none
  | .no k => match k with | .sl => some (.int .i64 (.ofNat 0)) | _ => none
  | _ => none
def smLenSl (x : Od) : Sem1 := .pu fun e _ => lenSl (x.ev e)
def smLenStr (x : Od) : Sem1 := .pu fun e _ => lenStr (x.ev e)
def smCap (x : Od) : Sem1 := .pu fun e _ => capSl (x.ev e)
def smMM (m : Bool) (x : Od) (l : List Od) : Sem1 := .pu fun e _ => mmL m e l (x.ev e)

/-! ## what makes memory -/
def smAlloc (z : List V) : Sem1 := .al fun _ => some (.cells z false, fun a => .ptr a 0)
def smBox (x : Od) : Sem1 := .al fun e => let cs := (x.ev e).cells; bif allScalar cs then some (.cells cs false, fun a => .ptr a 0) else none
def smBuildSl (z : List V) (n : Nat) (ps : List (Nat × Nat × Od)) : Sem1 := .al fun e => match fillP e ps z with
  | some l => bif allScalar l then some (.cells l false, fun a => .sl a 0 n (.ex n)) else none
  | none => none
def smConvBytes (x : Od) : Sem1 := .al fun e => match x.ev e with
  | .str s => some (.cells (s.map byteV) false, fun a => .sl a 0 s.length (.un 1))
  | _ => none
def smMkMap : Sem1 := .al fun _ => some (.map [] 0, fun a => .map a)
def repL (z : List V) : Nat → List V
  | 0 => []
  | n + 1 => z ++ repL z n
def natOf : V → Option Nat
  | .int _ j => match j with
    | .ofNat j => some j
    | .negSucc _ => none
  | _ => none
def smMkSl (z : List V) (bytes : Nat) (l c : Od) : Sem1 := .al fun e => match natOf (l.ev e) with
  | some l => match natOf (c.ev e) with
    | some c => bif Nat.ble l c && (Nat.ble c 281474976710656 && Nat.ble (bytes * c) 281474976710656) then some (.cells (repL z c) false, fun a => .sl a 0 l (.ex c)) else none
    | none => none
  | none => none

/-! ## what turns memory -/
def undefV : V := .tup []
def oH (v : V) : Option Hp → Option (V × Hp)
  | some h => some (v, h)
  | none => none
def smStore (n : Nat) (a x : Od) : Sem1 := .st fun e h => match a.ev e with
  | .ptr b o => let cs := (x.ev e).cells
    bif Nat.beq cs.length n then oH undefV (h.storeN b o cs) else none
  | _ => none
/-- the cells of the first n elements of what is appended, or copied -/
def srcN (h : Hp) (esz n : Nat) : V → Option (List V)
  | .sl a o _ _ => h.loadN a o (n * esz)
  | .str s => bif Nat.beq esz 1 then match takeN n s with | some r => some (r.map byteV) | none => none else none
  | .no k => match k with
    | .sl => bif Nat.beq n 0 then some [] else none
    | _ => none
  | _ => none
def srcLen : V → Option Nat
  | .sl _ _ n _ => some n
  | .str s => some s.length
  | .no k => match k with
    | .sl => some 0
    | _ => none
  | _ => none
def appNew (h : Hp) (esz n : Nat) (xs : List V) : Option (V × Hp) :=
  bif Nat.ble n 1073741824 then bif allScalar xs then some (.sl h.next 0 n (.un esz), h.alloc (.cells xs false)) else none else none
def appTo (h : Hp) (esz n : Nat) (xs : List V) (s : V) : Option (V × Hp) :=
    match s with
    | .no k => match k with
      | .sl => bif Nat.beq n 0 then some (.no .sl, h) else appNew h esz n xs
      | _ => none
    | .sl a o m c =>
      bif Nat.beq n 0 then some (.sl a o m c, h) else
      match c with
      | .ex c => bif Nat.ble (m + n) c then oH (.sl a o (m + n) (.ex c)) (h.storeN a (o + m * esz) xs) else
        match h.loadN a o (m * esz) with
        | some old => appNew h esz (m + n) (old ++ xs)
        | none => none
      | .un s => bif Nat.beq s esz then
        match h.get a with
        | none => none
        | some b => match b with
          | .cells l d => bif d then none else
            bif Nat.ble (o + (m + n) * esz) l.length then oH (.sl a o (m + n) (.un s)) (h.storeN a (o + m * esz) xs) else
            match takeN (m * esz) (dropN o l) with
            | some old => appNew (h.put a (.cells l true)) esz (m + n) (old ++ xs)
            | none => none
          | _ => none
        else none
    | _ => none
def appOf (h : Hp) (esz : Nat) (s x : V) : Option (V × Hp) :=
  match srcLen x with
  | none => none
  | some n => match srcN h esz n x with
    | none => none
    | some xs => appTo h esz n xs s
def smApp (esz : Nat) (s x : Od) : Sem1 := .st fun e h => appOf h esz (s.ev e) (x.ev e)
def appZ (h : Hp) (esz : Nat) (z : List V) (s x : V) : Option (V × Hp) :=
  match natOf x with
  | none => none
  | some n => bif Nat.ble n 1073741824 then appTo h esz n (repL z n) s else none
def smAppZ (esz : Nat) (z : List V) (s x : Od) : Sem1 := .st fun e h => appZ h esz z (s.ev e) (x.ev e)
def copyOf (h : Hp) (esz : Nat) (d s : V) : Option (V × Hp) :=
  match srcLen s with
  | none => none
  | some k => match d with
    | .sl a o m _ => match srcN h esz (Nat.min k m) s with
      | some xs => oH (.int .i64 (.ofNat (Nat.min k m))) (h.storeN a o xs)
      | none => none
    | .no q => match q with | .sl => some (.int .i64 (.ofNat 0), h) | _ => none
    | _ => none
def smCopy (esz : Nat) (d s : Od) : Sem1 := .st fun e h => copyOf h esz (d.ev e) (s.ev e)
def smClear (z : List V) (x : Od) : Sem1 := .st fun e h => match x.ev e with
  | .sl a o n _ => oH undefV (h.storeN a o (repL z n))
  | .no k => match k with | .sl => some (undefV, h) | _ => none
  | _ => none
def Heap.map2 (h : Hp) : V → Option (Pa × List (V × V × Nat) × Nat)
  | .map r => match h.get r with
    | some b => match b with
      | .map es clock => some (r, es, clock)
      | _ => none
    | none => none
  | _ => none
def smMapUpd (q : EqK) (m k x : Od) : Sem1 := .st fun e h => match h.map2 (m.ev e) with
  | some (r, es, clock) => match (bif fits q (k.ev e) then findK q (k.ev e) es 0 else none) with
    | some f => match f with
      | some _ => none
      | none => some (undefV, h.put r (.map (es ++ [(k.ev e, x.ev e, clock)]) (clock + 1)))
    | none => none
  | none => none
def smMapEnt (q : EqK) (z : V) (m k : Od) : Sem1 := .st fun e h => match h.map2 (m.ev e) with
  | some (r, es, clock) => match (bif fits q (k.ev e) then findK q (k.ev e) es 0 else none) with
    | some f => match f with
      | some _ => none
      | none => some (.tup [z, .int .i64 (.ofNat clock)], h.put r (.map (es ++ [(k.ev e, z, clock)]) (clock + 1)))
    | none => none
  | none => none
def smEntSt (m s x : Od) : Sem1 := .st fun e h => match h.map2 (m.ev e) with
  | some (r, es, clock) => match natOf (s.ev e) with
    | some b => match es.findIdx? (fun t => Nat.beq t.2.2 b) with
      | some i => some (undefV, h.put r (.map (es.modify i fun t => (t.1, x.ev e, t.2.2)) clock))
      | none => none
    | none => none
  | none => none

/-! ## what leaves the frame -/
def smCallF (g : Nat) (args : List Od) : Sem1 := .ct fun e => .call g (evL e args)
def smCall (f : Od) (args : List Od) : Sem1 := .ct fun e => match f.ev e with
  | .fn g caps => .call g (evL e args ++ caps)
  | .yld l => .yield l (evL e args)
  | _ => .bad 59
def smDefer (f : Od) (args : List Od) : Sem1 := .ct fun e => match f.ev e with
  | .fn g caps => .defer (.call g (evL e args ++ caps))
  | _ => .bad 60
def smRecover : Sem1 := .ct fun _ => .recover
def smPanic (x : Od) : Sem1 := .ct fun e => match x.ev e with
  | .iface t v => .panic (.iface t v)
  | _ => .bad 61
def smBad (n : Nat) : Sem1 := .ct fun _ => .bad n
end
end Go.Ev

namespace Go.Ev
noncomputable section
def ofS : Value → V
  | .bool b => .bool b
  | .int k n => .int k n
  | .string s => .str s.data.toList
  | .pointer none => .no .ptr
  | .slice none 0 0 => .no .sl
  | .map none => .no .map
  | .func (.func f) ⟨[]⟩ ⟨[]⟩ => .fn f []
  | .nilFunc => .no .fn
  | .nilIface => .no .iface
  | _ => .no .bot

def ofV : Value → V
  | .agg cs => .agg (cs.toList.map ofS)
  | v => ofS v

def pa (n : Nat) : Pa := Pa.of (n + 1) n

def cO : Operand → Od
  | .tmp t => .t (pa t)
  | .const v => .c (ofV v)
  | .global _ => .c (.no .bot)
  | .func f => .c (.fn f [])

section
variable (P : Program) (nt : Nat)

def zeroT (t : TypeId) : Option V :=
  match P.info? t with
  | some i => i.zero.map ofV
  | none => none

def sizeT (t : TypeId) : Option Nat := (P.info? t).map (·.size)

/-- none: a value of one cell; some n: an aggregate of n cells -/
def shapeT (t : TypeId) : Option (Option Nat) :=
  match P.info? t with
  | some i => match P.underlying t with
    | some (.struct _) => some (some i.size)
    | some (.array _ _) => some (some i.size)
    | some _ => some none
    | none => none
  | none => none

def flatT (t : TypeId) : Option FlatK :=
  match P.underlying t with
  | some .bool => some .b
  | some (.int _) => some .i
  | some .string => some .s
  | _ => none

def flatOffs : List Field → Option (List (Nat × FlatK))
  | [] => some []
  | f :: fs => match flatOffs fs with
    | some l => if f.name ≠ "_" then (match flatT P f.type with | some q => some ((f.offset, q) :: l) | none => none) else some l
    | none => none

def eqT (t : TypeId) : EqK :=
  match P.underlying t with
  | some .bool => .flat .b
  | some (.int _) => .flat .i
  | some .string => .flat .s
  | some (.pointer _) => .ptr
  | some (.interface _) => .iface
  | some (.slice _) => .slice
  | some (.func _ _ _) => .func
  | some (.map _ _) => .map
  | some (.struct fs) => match flatOffs P fs.toList with
    | some l => bif P.stoodInHeld t || P.eqGuardType P.depth t then .no else .agg l
    | none => .no
  | _ => .no

def partsT (place : Nat → Option (Nat × Nat)) : List (Nat × Operand) → Option (List (Nat × Nat × Od))
  | [] => some []
  | (i, x) :: r => match place i with
    | some (o, n) => match partsT place r with
      | some l => some ((o, n, cO x) :: l)
      | none => none
    | none => none

def cConv (s d : TypeId) (x : Od) : Sem1 :=
  match P.underlying d with
  | some (.int k) => match P.underlying s with
    | some (.int _) => smConvInt k x
    | _ => smBad 6
  | some .string => match P.underlying s with
    | some .string => smConvSame x
    | some (.slice e) => match P.underlying e with
      | some (.int .u8) => smConvStr x
      | _ => smBad 6
    | _ => smBad 6
  | some (.slice e) => match P.underlying s with
    | some .string => match P.underlying e with
      | some (.int .u8) => smConvBytes x
      | _ => smBad 6
    | some (.slice _) => bif Nat.beq s d then match P.underlying e with
      | some (.int .u8) => smMark x
      | _ => smBad 6 else smBad 6
    | _ => smBad 6
  | _ => smBad 6

def elemOf? (t : TypeId) : Option TypeInfo :=
  match P.underlying t with
  | some (.slice e) => P.info? e
  | _ => none

def cBuiltin (b : Builtin) (args : List Od) (types : Array TypeId) : Sem1 :=
  match b with
  | .len => match args with
    | [x] => match (types[0]?).bind P.underlying with
      | some (.slice _) => smLenSl x
      | some .string => smLenStr x
      | _ => smBad 20
    | _ => smBad 20
  | .cap => match args with
    | [x] => match (types[0]?).bind P.underlying with
      | some (.slice _) => smCap x
      | _ => smBad 20
    | _ => smBad 20
  | .append => match args with
    | [s, x] => match (types[0]?).bind (elemOf? P) with
      | some i => match (types[1]?).bind P.underlying with
        | some (.int _) => match i.zero with
          | some z => if i.bytes ≤ 65536 ∧ 0 < i.bytes ∧ 0 < i.size ∧ (ofV z).cells.length = i.size then smAppZ i.size (ofV z).cells s x else smBad 19
          | none => smBad 19
        | some _ => match i.zero with
          | some z => if i.bytes ≤ 65536 ∧ 0 < i.size ∧ (ofV z).cells.length = i.size then smApp i.size s x else smBad 19
          | none => smBad 19
        | none => smBad 19
      | none => smBad 19
    | _ => smBad 19
  | .copy => match args with
    | [d, s] => match (types[0]?).bind (elemOf? P) with
      | some i => smCopy i.size d s
      | none => smBad 19
    | _ => smBad 19
  | .min => match args with
    | x :: r => smMM false x r
    | [] => smBad 20
  | .max => match args with
    | x :: r => smMM true x r
    | [] => smBad 20
  | .clear => match args with
    | [x] => match (types[0]?).bind (elemOf? P) with
      | some i => match i.zero with
        | some z => smClear (ofV z).cells x
        | none => smBad 19
      | none => smBad 19
    | _ => smBad 19
  | .recover => smRecover
  | .panic => match args with
    | [x] => smPanic x
    | _ => smBad 20
  | _ => smBad 20

/-- keys that are looked up: numbers, texts, and structs of them -/
def keyOk : EqK → Bool
  | .flat _ => true
  | .agg _ => true
  | _ => false

def isC : Operand → Bool
  | .const _ => true
  | _ => false

def cOp : Op → Sem1
  | .move x => smMv (cO x)
  | .assign x => smMv (cO x)
  | .pick c a b => smPick (cO c) (cO a) (cO b)
  | .alloc e => match zeroT P e with
    | some z => smAlloc z.cells
    | none => smBad 1
  | .box _ x => smBox (cO x)
  | .build t ps =>
    match P.underlying t with
    | some (.struct fs) => match (bif fs.toList.all (fun f => (sizeT P f.type).isSome) then zeroT P t else none) with
      | some z => match partsT (fun i => (fs[i]?).bind fun f => (sizeT P f.type).map fun n => (f.offset, n)) ps.toList with
        | some l => smBuild z.cells l
        | none => smBad 2
      | none => smBad 2
    | some (.array _ e) => match zeroT P t with
      | some z => match sizeT P e with
        | some n => match partsT (fun i => some (i * n, n)) ps.toList with
          | some l => smBuild z.cells l
          | none => smBad 2
        | none => smBad 2
      | none => smBad 2
    | _ => smBad 2
  | .buildSlice t len ps => match elemOf? P t with
    | some i => match i.zero with
      | some z => if len * i.size ≤ 16777216 ∧ (ofV z).cells.length = i.size then match partsT (fun j => some (j * i.size, i.size)) ps.toList with
        | some l => smBuildSl (repL (ofV z).cells len) len l
        | none => smBad 3 else smBad 3
      | none => smBad 3
    | none => smBad 3
  | .load t a => match shapeT P t with
    | some n => smLoad n (cO a)
    | none => smBad 4
  | .store t a x => match sizeT P t with
    | some n => smStore n (cO a) (cO x)
    | none => smBad 5
  | .nilCheck x => smNil (cO x)
  | .binOp op t x y _ => match eqT P t with
    | .iface => bif isC x || isC y then smBin op .iface (cO x) (cO y) else smBad 24
    | q => smBin op q (cO x) (cO y)
  | .unOp op _ x => smUn op (cO x)
  | .convert s d x => cConv P s d (cO x)
  | .makeInterface t x => match P.underlying t with
    | some (.interface _) => smBad 7
    | some _ => smMkI t (cO x)
    | none => smBad 7
  | .makeFunc (.func f) first caps => if first.size = 0 then smMkF f (caps.toList.map cO) else smBad 8
  | .makeMap _ none => smMkMap
  | .makeSlice t l c => match elemOf? P t with
    | some i => match i.zero with
      | some z => if (ofV z).cells.length = i.size then smMkSl (ofV z).cells i.bytes (cO l) (cO c) else smBad 9
      | none => smBad 9
    | none => smBad 9
  | .slice t x lo hi mx => match P.underlying t with
    | some (.array n e) => match mx with
      | none => match sizeT P e with
        | some s => smSliceA n s (cO x) (lo.map cO) (hi.map cO)
        | none => smBad 10
      | some _ => smBad 10
    | some .string => match mx with
      | none => smSliceS (cO x) (lo.map cO) (hi.map cO)
      | some _ => smBad 10
    | some (.slice e) => match sizeT P e with
      | some s => bif mx.isSome && hi.isNone then smBad 10 else smSlice s (cO x) (lo.map cO) (hi.map cO) (mx.map cO)
      | none => smBad 10
    | _ => smBad 10
  | .fieldAddr t x f => match P.underlying t with
    | some (.struct fs) => match fs[f]? with
      | some g => match sizeT P g.type with
        | some (_ + 1) => smFAddr g.offset (cO x)
        | _ => smBad 11
      | none => smBad 11
    | _ => smBad 11
  | .field t x f => match P.underlying t with
    | some (.struct fs) => match fs[f]? with
      | some g => match shapeT P g.type with
        | some n => smField g.offset n (cO x)
        | none => smBad 12
      | none => smBad 12
    | _ => smBad 12
  | .indexAddr t x i => match P.underlying t with
    | some (.array n e) => match sizeT P e with
      | some s => smIAddr (some n) s (cO x) (cO i)
      | none => smBad 13
    | some (.slice e) => match sizeT P e with
      | some s => smIAddr none s (cO x) (cO i)
      | none => smBad 13
    | _ => smBad 13
  | .index t x i => match P.underlying t with
    | some .string => smIndexS (cO x) (cO i)
    | some (.array len e) => match sizeT P e with
      | some s => match shapeT P e with
        | some sh => smIndexA len s sh (cO x) (cO i)
        | none => smBad 14
      | none => smBad 14
    | _ => smBad 14
  | .lookup t x i ok => match P.underlying t with
    | some (.map k e) => match zeroT P e with
      | some z => bif keyOk (eqT P k) then smLookup (eqT P k) z (cO x) (cO i) ok else smBad 15
      | none => smBad 15
    | _ => smBad 15
  | .mapUpdate t m k x => match P.underlying t with
    | some (.map kt _) => bif keyOk (eqT P kt) then smMapUpd (eqT P kt) (cO m) (cO k) (cO x) else smBad 16
    | _ => smBad 16
  | .mapEntry t m k => match P.underlying t with
    | some (.map kt e) => match zeroT P e with
      | some z => bif keyOk (eqT P kt) then smMapEnt (eqT P kt) z (cO m) (cO k) else smBad 17
      | none => smBad 17
    | _ => smBad 17
  | .entryStore _ m s x => smEntSt (cO m) (cO s) (cO x)
  | .typeAssert x _ t ok => match P.underlying t with
    | some (.interface _) => smBad 18
    | some _ => match zeroT P t with
      | some z => smAssert t z (cO x) ok
      | none => smBad 18
    | none => smBad 18
  | .extract x i => smExt (cO x) i
  | .call c => match c.callee with
    | .builtin b => cBuiltin P b (c.args.toList.map cO) c.argTypes
    | .value f => match f with
      | .func g => smCallF g (c.args.toList.map cO)
      | f => smCall (cO f) (c.args.toList.map cO)
    | _ => smBad 21
  | .defer c => match c.callee with
    | .value f => smDefer (cO f) (c.args.toList.map cO)
    | _ => smBad 21
  | .panic x => smPanic (cO x)
  | _ => smBad 21

def dstOf (ops : Array Oper) (j : Nat) : Option Nat := (ops[j]?).bind (·.dst)

/-- does it write into a slot that is there? -/
def dstOk (o : Oper) : Bool :=
  match o.dst with
  | none => true
  | some d => Nat.blt d nt
def cRO (ops : Array Oper) (o : Oper) : RO Blk :=
  match o.guard with
  | none => { dst := o.dst.map pa, sem := bif dstOk nt o then cOp P o.op else smBad 23, guard := none }
  | some (j, w) => match dstOf ops j with
    | some d => bif dstOk nt o then { dst := o.dst.map pa, sem := cOp P o.op, guard := some (pa d, w) } else { dst := none, sem := smBad 23, guard := none }
    | none => { dst := none, sem := smBad 22, guard := none }

/-- has it an effect, that is: does it do more than read, reckon and make new memory? -/
def isEff (s : Sem1) : Bool :=
  match s with
  | .pu _ => false
  | .al _ => false
  | .st _ => true
  | .ct _ => true

def isApp : Op → Bool
  | .call c => match c.callee with
    | .builtin b => match b with
      | .append => true
      | _ => false
    | _ => false
  | _ => false

/-- reads memory, or makes some: to be looked at anew behind what has an effect -/
def isLook : Op → Bool
  | .load .. | .lookup .. | .alloc _ | .box .. | .buildSlice .. | .makeMap .. | .makeSlice .. | .convert .. | .slice .. => true
  | _ => false

def tmpOf : Operand → Option Nat
  | .tmp t => some t
  | _ => none
/-- the slots that an operation looks at -/
def namesOf (ops : Array Oper) (o : Oper) : List Nat :=
  match o.guard with
  | none => o.op.operands.toList.filterMap tmpOf
  | some (g, _) => match dstOf ops g with
    | some d => d :: o.op.operands.toList.filterMap tmpOf
    | none => o.op.operands.toList.filterMap tmpOf
def hasN (l : List Nat) (t : Nat) : Bool := l.any fun u => Nat.beq u t

def predStep (s : Nat) (e : Edge) : Nat := bif Region.binds .any e then Nat.lor s (2 ^ e.on) else s
def predMask (o : Oper) : Nat := o.after.toList.foldl predStep 0
def ancStep (ancs : List Nat) (s : Nat) (e : Edge) : Nat := bif Region.binds .any e then Nat.lor s (Nat.lor (2 ^ e.on) (ancs.getD e.on 0)) else s
def ancMask (ancs : List Nat) (o : Oper) : Nat := o.after.toList.foldl (ancStep ancs) 0

structure DOp where
  i : Nat
  o : Oper
  pred : Nat
  anc : Nat
  eff : Bool

/-- has it no effect, and a place for what it says? -/
def isN (ops : Array Oper) (o : Oper) : Bool :=
  match o.op with
  | .assign _ => false
  | _ => match (cRO P nt ops o).sem with
    | .pu _ => match o.dst with
      | some _ => true
      | none => false
    | .al _ => match o.dst with
      | some _ => true
      | none => false
    | .st _ => false
    | .ct _ => false

def dOps (ops : Array Oper) : List Oper → Nat → List Nat → List DOp
  | [], _, _ => []
  | o :: r, i, ancs => ⟨i, o, predMask o, ancMask ancs o, !(isN P nt ops o)⟩ :: dOps ops r (i + 1) (ancs ++ [ancMask ancs o])

def takeFirst (p : DOp → Bool) : List DOp → Option (DOp × List DOp)
  | [] => none
  | d :: r => bif p d then some (d, r) else match takeFirst p r with
    | some (x, r') => some (x, d :: r')
    | none => none

def readyD (done : Nat) (d : DOp) : Bool := Nat.beq (Nat.land d.pred done) d.pred

def dstIs (o : Oper) (t : Nat) : Bool :=
  match o.dst with
  | some d => Nat.beq d t
  | none => false

/-- what is to be looked at anew behind x -/
def chksOf (ops : Array Oper) (x : DOp) : List DOp → List (RS Blk)
  | [] => []
  | y :: r => bif y.eff then chksOf ops x r else bif Nat.testBit x.anc y.i then chksOf ops x r else
    bif isLook y.o.op || (match x.o.dst with | some d => hasN (namesOf ops y.o) d | none => false) then .chk (cRO P nt ops y.o) :: chksOf ops x r else chksOf ops x r

def plan (ops : Array Oper) : Nat → Nat → List DOp → List DOp → List (RS Blk)
  | 0, _, _, _ => []
  | f + 1, done, past, rem =>
    match takeFirst (fun d => !d.eff && readyD done d) rem with
    | some (d, rem') => .op (cRO P nt ops d.o) :: plan ops f (Nat.lor done (2 ^ d.i)) (d :: past) rem'
    | none => match takeFirst (readyD done) rem with
      | some (d, rem') => bif rem'.any (readyD done) then [.op { dst := none, sem := smBad 26, guard := none }] else
          .op (cRO P nt ops d.o) :: (chksOf P nt ops d past ++ plan ops f (Nat.lor done (2 ^ d.i)) (d :: past) rem')
      | none => []

/-- each slot has one writer, and who looks at what is only reckoned comes behind it -/
def pairOk (ops : Array Oper) (x y : DOp) : Bool :=
  match x.o.dst with
  | none => true
  | some d => !(dstIs y.o d) && (x.eff || !(hasN (namesOf ops y.o) d) || Nat.testBit y.anc x.i)
def selfOk (ops : Array Oper) (x : DOp) : Bool :=
  match x.o.dst with
  | none => true
  | some d => x.eff || !(hasN (namesOf ops x.o) d)
def edgesOk (x : DOp) : Bool := x.o.after.toList.all fun e => !(Region.binds .any e) || Nat.blt e.on x.i
def regionOk (ops : Array Oper) (l : List DOp) : Bool :=
  l.all fun x => edgesOk x && (selfOk ops x && l.all fun y => Nat.beq x.i y.i || pairOk ops x y)

/-- none that may be ahead writes a slot of a result -/
def avoids (av : List Nat) (l : List DOp) : Bool := l.all fun x => x.eff || (match x.o.dst with | some d => !(hasN av d) | none => true)

def drawn (av : List Nat) (ops : Array Oper) (l : List DOp) : IC Blk := bif P.follows .mixedOrders && (regionOk ops l && avoids av l) then .region (plan P nt ops ops.size 0 [] l) else .bad

def cCode (av : List Nat) : Code → IC Blk
  | .skip => .skip
  | .region _ ops draw => bif draw then drawn P nt av ops (dOps P nt ops ops.toList 0 []) else .region (ops.toList.map fun o => .op (cRO P nt ops o))
  | .seq a b => .seq (cCode av a) (cCode av b)
  | .cond c a b => .cond (cO c) (cCode av a) (cCode av b)
  | .block id b => .block id (cCode av b)
  | .loop b => .loop (cCode av b)
  | .rangeFunc f ps a b => bif ps.toList.all (fun t => Nat.blt t nt) then .rangeFunc (cO f) (ps.toList.map pa) (cCode av a) (cCode av b) else .bad
  | .exit id => .exit id
  | .ret => .ret
  | .label _ => .skip
  | .scope _ => .bad
  | .goto _ => .bad
  | .refuse _ => .bad

/-- the slots that a function's results are read from -/
def slotsOf : List ResultVar → List Nat
  | [] => []
  | .tmp t :: r => t :: slotsOf r
  | .cell a _ :: r => a :: slotsOf r
def avOf (fn : Func) : List Nat := slotsOf fn.results.toList
def avAt (f : Nat) : List Nat :=
  match P.funcs[f]? with
  | some fn => avOf fn
  | none => []

def cRes : List ResultVar → Option (List (Pa × Option (Option Nat)))
  | [] => some []
  | .tmp t :: r => match cRes r with
    | some l => some ((pa t, none) :: l)
    | none => none
  | .cell a t :: r => match shapeT P t with
    | some n => match cRes r with
      | some l => some ((pa a, some n) :: l)
      | none => none
    | none => none

structure IFn where
  body : IC Blk
  nt : Nat
  res : List (Pa × Option (Option Nat))

/-- a function: its text, or what it is known to do -/
inductive FnI where
  | code (f : IFn)
  | intr (g : List V → Hp → Option (V × Hp))

def cFn (f : Nat) : Option IFn :=
  match P.funcs[f]? with
  | some fn => match fn.body with
    | some c => match cRes P fn.results.toList with
      | some res => some { body := cCode P fn.ntmps (avOf fn) c, nt := fn.ntmps, res }
      | none => none
    | none => none
  | none => none
end
end
end Go.Ev

namespace Go.Ev
noncomputable section
inductive Item where
  | code (c : IC Blk)
  | inBlock (id : Nat)
  | inLoop (b : IC Blk)
  | reg (rs : List (RS Blk))
  | inRF (l : Pa)
  | endRF (l : Pa)
  | begin

inductive Mode where
  | run
  | returning
  | panicking (v : V) (recovered : Bool)

/-- what stays of a frame -/
structure FK where
  fn : Nat
  nt : Nat
  deferred : Bool
  round : Option Pa

structure Fr where
  k : FK
  env : T V
  todo : List Item
  defers : List Def
  mode : Mode

structure LE where
  id : Pa
  assign : IC Blk
  body : IC Blk

inductive Nx where
  | go (fr : Fr) (cs : List Fr) (h : Hp) (ls : List LE)
  | done (v : V) (h : Hp)
  | bad (n : Nat) (fn : Nat)

def findLE (l : Pa) : List LE → Option LE
  | [] => none
  | x :: r => bif x.id.beq l then some x else findLE l r

def T.put (e : T V) (v : V) : Option Pa → T V
  | none => e
  | some d => e.set v d

def putArgs : List V → Pa → T V → T V
  | [], _, e => e
  | v :: r, i, e => putArgs r i.succ (e.set v i)

def setParams : List Pa → List V → T V → Option (T V)
  | [], vs, e => match vs with | [] => some e | _ :: _ => none
  | p :: ps, vs, e => match vs with
    | v :: vs => setParams ps vs (e.set v p)
    | [] => none

def enter (fn : IFn) (f : Nat) (args : List V) (deferred : Bool) : Fr :=
  ⟨⟨f, fn.nt, deferred, none⟩, putArgs args .z .E, [.code fn.body], [], .run⟩

def exitTo (id : Nat) : List Item → Option (List Item)
  | [] => none
  | i :: k => match i with
    | .inBlock j => bif Nat.beq j id then some k else exitTo id k
    | _ => exitTo id k

inductive W3 where
  | yes | no | bad
def wantedV (e : T V) : Option (Pa × Bool) → W3
  | none => .yes
  | some (d, w) => match e.get d with
    | some v => match v with
      | .bool b => bif bEq b w then .yes else .no
      | .tup _ => .no
      | _ => .bad
    | none => .bad

def resOf (e : T V) (h : Hp) : List (Pa × Option (Option Nat)) → Option (List V)
  | [] => some []
  | (t, c) :: r => match (match c with | none => some (e.val t) | some n => loadV h n (e.val t)) with
    | some v => match resOf e h r with
      | some l => some (v :: l)
      | none => none
    | none => none
def oneOf (l : List V) : V :=
  match l with
  | [] => .tup []
  | v :: r => match r with
    | [] => v
    | _ :: _ => .tup l

def capEq : Cap → Cap → Bool
  | .ex a, .ex b => Nat.beq a b
  | .un a, .un b => Nat.beq a b
  | _, _ => false
def nkEq : NK → NK → Bool
  | .ptr, .ptr => true
  | .sl, .sl => true
  | .map, .map => true
  | .fn, .fn => true
  | .iface, .iface => true
  | _, _ => false
def sameS : V → V → Bool
  | .int k a, y => match y with | .int k' b => kEq k k' && iEq a b | _ => false
  | .bool a, y => match y with | .bool b => bEq a b | _ => false
  | .str a, y => match y with | .str b => sEq a b | _ => false
  | .ptr a o, y => match y with | .ptr b p => a.beq b && Nat.beq o p | _ => false
  | .sl a o n c, y => match y with | .sl b p m d => (a.beq b && Nat.beq o p) && (Nat.beq n m && capEq c d) | _ => false
  | .map a, y => match y with | .map b => a.beq b | _ => false
  | .no k, y => match y with | .no j => nkEq k j | _ => false
  | _, _ => false
def sameL : List V → List V → Bool
  | [], m => match m with | [] => true | _ :: _ => false
  | a :: l, m => match m with | b :: m => bif sameS a b then sameL l m else false | [] => false
def same : V → V → Bool
  | .agg a, y => match y with | .agg b => sameL a b | _ => false
  | .tup a, y => match y with | .tup b => sameL a b | _ => false
  | a, b => sameS a b

def blkId : V → Option Pa
  | .ptr a _ => some a
  | .sl a _ _ _ => some a
  | .map a => some a
  | _ => none

def sameB : Blk → Blk → Bool
  | .cells l d, y => match y with | .cells m d' => bif d || d' then false else sameL l m | _ => false
  | .map es c, y => match y with
    | .map fs k => bif Nat.beq c k then match es with
      | [] => match fs with
        | [] => true
        | _ :: _ => false
      | _ :: _ => false else false
    | _ => false
  | _, _ => false

/-- an operation that may not have been carried out yet would come to the same -/
def chkOp (e : T V) (h : Hp) (o : RO Blk) : Bool :=
  match wantedV e o.guard with
  | .no => match o.dst with
    | none => false
    | some d => match e.get d with
      | some (.tup []) => true
      | _ => false
  | .bad => false
  | .yes => match o.dst with
    | none => false
    | some d => match e.get d with
      | none => false
      | some v => match o.sem with
        | .pu f => match f e h with
          | some w => same v w
          | none => false
        | .al f => match f e with
          | some (b, mk) => match blkId v with
            | some a => match h.get a with
              | some b' => bif same v (mk a) then sameB b b' else false
              | none => false
            | none => false
          | none => false
        | .st _ => false
        | .ct _ => false

inductive OR where
  | fin (e : T V) (h : Hp)
  | ctl (c : Ctl) (o : RO Blk) (rs : List (RS Blk)) (e : T V) (h : Hp)
  | bad (n : Nat)

/-- the operations of a region, one behind the other, till one leaves the frame -/
def runOps (rs : List (RS Blk)) : T V → Hp → OR :=
  List.rec (motive := fun _ => T V → Hp → OR) (fun e h => .fin e h)
    (fun s rs ih e h => RS.rec (motive := fun _ => OR)
      (fun o => W3.rec (motive := fun _ => OR)
        (Sm.rec (motive := fun _ => OR)
          (fun f => Option.rec (motive := fun _ => OR) (.bad 70) (fun v => ih (e.put v o.dst) h) (f e h))
          (fun f => Option.rec (motive := fun _ => OR) (.bad 71) (fun p => ih (e.put (p.2 h.next) o.dst) (h.alloc p.1)) (f e))
          (fun f => Option.rec (motive := fun _ => OR) (.bad 72) (fun p => ih (e.put p.1 o.dst) p.2) (f e h))
          (fun f => .ctl (f e) o rs e h) o.sem)
        (ih (e.put undefV o.dst) h) (.bad 87) (wantedV e o.guard))
      (fun o => Bool.rec (motive := fun _ => OR) (.bad 92) (ih e h) (chkOp e h o)) s) rs


section
variable (F : Nat → Option FnI)

/-- the value that a call hands back, into the operation that waits for it -/
def finish (c : Fr) (v : V) (cs : List Fr) (h : Hp) (ls : List LE) : Nx :=
  match c.mode with
  | .run => match c.todo with
    | [] => .bad 89 c.k.fn
    | i :: k => match i with
      | .reg rs => match rs with
        | [] => .bad 89 c.k.fn
        | s :: rs => match s with
          | .op o => .go ⟨c.k, c.env.put v o.dst, .reg rs :: k, c.defers, .run⟩ cs h ls
          | .chk _ => .bad 89 c.k.fn
      | .inRF l => .go ⟨c.k, c.env, .endRF l :: k, c.defers, .run⟩ cs h ls
      | _ => .bad 89 c.k.fn
  | _ => .bad 89 c.k.fn

def doCall (fr : Fr) (cs : List Fr) (h : Hp) (ls : List LE) (f : Nat) (args : List V) : Nx :=
  match F f with
  | some x => match x with
    | .code fn => .go (enter fn f args false) (fr :: cs) h ls
    | .intr g => match g args h with
      | some p => finish fr p.1 cs p.2 ls
      | none => .bad 79 f
  | none => .bad 80 f

def doYield (fr : Fr) (cs : List Fr) (h : Hp) (ls : List LE) (l : Pa) (args : List V) : Nx :=
  match h.get l with
  | some b => match b with
    | .loop r => match setParams r.params args r.env with
      | some e => match findLE l ls with
        | some x => .go ⟨⟨r.fn, r.nt, false, some l⟩, e, [.code x.assign, .begin, .code x.body], [], .run⟩ (fr :: cs) h ls
        | none => .bad 81 r.fn
      | none => .bad 81 r.fn
    | _ => .bad 82 0
  | none => .bad 82 0

/-- an operation that leaves the frame -/
def doCtl (K : FK) (e : T V) (o : RO Blk) (rs : List (RS Blk)) (k : List Item) (ds : List Def) (cs : List Fr) (h : Hp) (ls : List LE) : Ctl → Nx
  | .call f args => doCall F ⟨K, e, .reg (.op o :: rs) :: k, ds, .run⟩ cs h ls f args
  | .yield l args => doYield ⟨K, e, .reg (.op o :: rs) :: k, ds, .run⟩ cs h ls l args
  | .defer d => match K.round with
    | none => .go ⟨K, e.put undefV o.dst, .reg rs :: k, d :: ds, .run⟩ cs h ls
    | some _ => .bad 84 K.fn
  | .recover => match cs with
    | [] => .bad 85 K.fn
    | c :: cs' => bif K.deferred then match K.round with
      | some _ => .bad 85 K.fn
      | none => match c.mode with
        | .panicking v r => bif r then .go ⟨K, e.put (.no .iface) o.dst, .reg rs :: k, ds, .run⟩ cs h ls
            else .go ⟨K, e.put v o.dst, .reg rs :: k, ds, .run⟩ (⟨c.k, c.env, c.todo, c.defers, .panicking v true⟩ :: cs') h ls
        | _ => .go ⟨K, e.put (.no .iface) o.dst, .reg rs :: k, ds, .run⟩ cs h ls
      else .bad 85 K.fn
  | .panic v => .go ⟨K, e, .reg (.op o :: rs) :: k, ds, .panicking v false⟩ cs h ls
  | .bad n => .bad n K.fn

def doReturn (K : FK) (cs : List Fr) (h : Hp) (ls : List LE) (v : V) : Nx :=
  match cs with
  | [] => match K.round with
    | some _ => .bad 88 K.fn
    | none => bif K.deferred then .bad 88 K.fn else .done v h
  | c :: cs' =>
    bif K.deferred then
      match c.mode with
      | .panicking _ r => bif r then .go ⟨c.k, c.env, c.todo, c.defers, .returning⟩ cs' h ls else .go c cs' h ls
      | .returning => .go c cs' h ls
      | .run => .bad 88 K.fn
    else finish c v cs' h ls

def leaveV (fr : Fr) (cs : List Fr) (h : Hp) (ls : List LE) (j : Option Jump) : Nx :=
  match fr.k.round with
  | none => match j with
    | none => .go ⟨fr.k, fr.env, fr.todo, fr.defers, .returning⟩ cs h ls
    | some j => match j with
      | .ret => .go ⟨fr.k, fr.env, fr.todo, fr.defers, .returning⟩ cs h ls
      | .exit _ => .bad 90 fr.k.fn
  | some l => match h.get l with
    | some b => match b with
      | .loop r => match fr.defers with
        | [] => doReturn fr.k cs (h.put l (.loop { r with state := match j with | none => .ready | some _ => .done, pending := j })) ls (.bool (match j with | none => true | some _ => false))
        | _ :: _ => .bad 91 fr.k.fn
      | _ => .bad 91 fr.k.fn
    | none => .bad 91 fr.k.fn

def jumpCode : Option Jump → List Item
  | none => []
  | some j => match j with
    | .ret => [.code .ret]
    | .exit id => [.code (.exit id)]

def pushC : IC Blk → List Item → List Item
  | .skip, k => k
  | .seq a b, k => pushC a (.code b :: k)
  | .region rs, k => .reg rs :: k
  | c, k => .code c :: k

def stepCode (K : FK) (e : T V) (k : List Item) (ds : List Def) (cs : List Fr) (h : Hp) (ls : List LE) : IC Blk → Nx
  | .skip => .go ⟨K, e, k, ds, .run⟩ cs h ls
  | .region rs => .go ⟨K, e, .reg rs :: k, ds, .run⟩ cs h ls
  | .seq a b => .go ⟨K, e, pushC a (.code b :: k), ds, .run⟩ cs h ls
  | .cond c a b => match c.ev e with
    | .bool t => .go ⟨K, e, pushC (bif t then a else b) k, ds, .run⟩ cs h ls
    | _ => .bad 97 K.fn
  | .block id b => .go ⟨K, e, pushC b (.inBlock id :: k), ds, .run⟩ cs h ls
  | .loop b => .go ⟨K, e, pushC b (.inLoop b :: k), ds, .run⟩ cs h ls
  | .rangeFunc f ps a b => match K.round with
    | some _ => .bad 98 K.fn
    | none => match f.ev e with
      | .fn g caps => match F g with
        | some (.code fn) => .go (enter fn g (.yld h.next.succ :: caps) false) (⟨K, e, .inRF h.next.succ :: k, .mark h.next :: ds, .run⟩ :: cs)
            ((h.alloc (.dfr true)).alloc (.loop { state := .ready, pending := none, fn := K.fn, nt := K.nt, env := e, params := ps })) (⟨h.next.succ, a, b⟩ :: ls)
        | _ => .bad 80 g
      | _ => .bad 98 K.fn
  | .exit id => match exitTo id k with
    | some k' => .go ⟨K, e, k', ds, .run⟩ cs h ls
    | none => leaveV ⟨K, e, k, ds, .run⟩ cs h ls (some (.exit id))
  | .ret => leaveV ⟨K, e, k, ds, .run⟩ cs h ls (some .ret)
  | .bad => .bad 99 K.fn

def stepItem (K : FK) (e : T V) (k : List Item) (ds : List Def) (cs : List Fr) (h : Hp) (ls : List LE) : Item → Nx
  | .reg rs => match runOps rs e h with
    | .fin e h => .go ⟨K, e, k, ds, .run⟩ cs h ls
    | .ctl c o rs e h => doCtl F K e o rs k ds cs h ls c
    | .bad n => .bad n K.fn
  | .code c => stepCode F K e k ds cs h ls c
  | .inBlock _ => .go ⟨K, e, k, ds, .run⟩ cs h ls
  | .inLoop b => .go ⟨K, e, pushC b (.inLoop b :: k), ds, .run⟩ cs h ls
  | .inRF _ => .bad 93 K.fn
  | .endRF l => match h.get l with
    | some b => match b with
      | .loop r => match r.state with
        | .busy => .bad 94 K.fn
        | _ => .go ⟨K, e, jumpCode r.pending ++ k, ds, .run⟩ cs (h.put l (.loop { r with state := .exhausted })) ls
      | _ => .bad 95 K.fn
    | none => .bad 95 K.fn
  | .begin => match K.round with
    | some l => match h.get l with
      | some b => match b with
        | .loop r => match r.state with
          | .ready => .go ⟨K, e, k, ds, .run⟩ cs (h.put l (.loop { r with state := .busy })) ls
          | _ => .bad 96 K.fn
        | _ => .bad 96 K.fn
      | none => .bad 96 K.fn
    | none => .bad 96 K.fn

/-- a frame that is left -/
def unwind (fr : Fr) (cs : List Fr) (h : Hp) (ls : List LE) : Nx :=
  match fr.defers with
  | d :: ds => match d with
    | .mark a => match h.get a with
      | some b => match b with
        | .dfr l => bif l then .go ⟨fr.k, fr.env, fr.todo, ds, fr.mode⟩ cs (h.put a (.dfr false)) ls else .bad 206 fr.k.fn
        | _ => .bad 206 fr.k.fn
      | none => .bad 206 fr.k.fn
    | .call f args => match F f with
      | some (.code fn) => .go (enter fn f args true) (⟨fr.k, fr.env, fr.todo, ds, fr.mode⟩ :: cs) h ls
      | _ => .bad 80 f
  | [] => match fr.mode with
    | .returning => match F fr.k.fn with
      | some (.code fn) => match resOf fr.env h fn.res with
        | some l => doReturn fr.k cs h ls (oneOf l)
        | none => .bad 200 fr.k.fn
      | _ => .bad 201 fr.k.fn
    | .panicking v r => bif r then .bad 202 fr.k.fn else match F fr.k.fn with
      | some _ => match cs with
        | c :: cs' => match c.mode with
          | .run => .go ⟨c.k, c.env, c.todo, c.defers, .panicking v false⟩ cs' h ls
          | _ => .bad 203 fr.k.fn
        | [] => .bad 204 fr.k.fn
      | none => .bad 207 fr.k.fn
    | .run => .bad 205 fr.k.fn

def step (fr : Fr) (cs : List Fr) (h : Hp) (ls : List LE) : Nx :=
  match fr with
  | ⟨K, e, todo, ds, m⟩ => match m with
    | .run => match todo with
      | [] => leaveV ⟨K, e, [], ds, .run⟩ cs h ls none
      | i :: k => stepItem F K e k ds cs h ls i
    | m => unwind F ⟨K, e, todo, ds, m⟩ cs h ls

/-- so that the kernel comes back to its own loop at each round -/
def again (ih : Fr → List Fr → Hp → List LE → Nx) (fr : Fr) (cs : List Fr) (h : Hp) (ls : List LE) : Nx := ih fr cs h ls
def run (n : Nat) : Fr → List Fr → Hp → List LE → Nx :=
  Nat.rec (motive := fun _ => Fr → List Fr → Hp → List LE → Nx) (fun fr cs h ls => .go fr cs h ls)
    (fun _ ih fr cs h ls => Nx.rec (motive := fun _ => Nx) (fun fr cs h ls => again ih fr cs h ls) (fun v h => .done v h) (fun a b => .bad a b) (step F fr cs h ls)) n

end

def startH : Hp := ⟨.z, .E⟩
def runFn (P : Program) (n f : Nat) (args : List V) : Nx :=
  match cFn P f with
  | some fn => run (fun i => (cFn P i).map .code) n (enter fn f args false) [] startH []
  | none => .bad 300 f

/-! ## functions told by contracts -/
def repB (l : List UInt8) : Nat → List UInt8
  | 0 => []
  | n + 1 => l ++ repB l n
/-- strings.Repeat -/
def repI (args : List V) (h : Hp) : Option (V × Hp) :=
  match args with
  | [] => none
  | a :: r => match a with
    | .str s => match r with
      | [] => none
      | b :: r => match r with
        | _ :: _ => none
        | [] => match b with
          | .int k i => match k with
            | .i64 => match i with
              | .ofNat n => bif Nat.ble n 9223372036854775807 then bif Nat.ble (Nat.mul s.length n) 140737488355328 then some (.str (repB s n), h) else none else none
              | .negSucc _ => none
            | _ => none
          | _ => none
    | _ => none
/-- in two blocks -/
def apart (s v : V) : Bool :=
  match v with
  | .sl a _ _ _ => match s with
    | .sl b _ _ _ => !(a.beq b)
    | _ => true
  | _ => false
def nat64 : V → Option Nat
  | .int k i => match k with
    | .i64 => match i with
      | .ofNat n => some n
      | .negSucc _ => none
    | _ => none
  | _ => none
/-- may it be told where a row of that capacity stands then? -/
def insCap (i n m : Nat) (c : Cap) : Bool :=
  bif Nat.beq i n then true else match c with
    | .un s => !(Nat.beq s 1)
    | .ex c => !(Nat.ble (n + m) c)
/-- slices.Insert of elements of so many cells: as if what stands from i on, behind what comes, were put behind the front -/
def insI (esz : Nat) (args : List V) (h : Hp) : Option (V × Hp) :=
  match args with
  | [] => none
  | s :: r => match r with
    | [] => none
    | iv :: r => match r with
      | [] => none
      | v :: r => match r with
        | _ :: _ => none
        | [] => match (bif apart s v then srcLen v else none) with
          | none => none
          | some m => bif Nat.beq m 0 then none else match srcN h esz m v with
            | none => none
            | some xs => match nat64 iv with
              | none => none
              | some i => match s with
                | .no k => match k with
                  | .sl => bif Nat.beq i 0 then (bif allScalar xs then appTo h esz m xs (.no .sl) else none) else none
                  | _ => none
                | .sl a o n c => bif (bif Nat.ble i n then (bif Nat.ble (n + m) 1000000000 then insCap i n m c else false) else false) then match h.loadN a (o + i * esz) ((n - i) * esz) with
                    | some old => bif allScalar (xs ++ old) then appTo h esz (m + (n - i)) (xs ++ old) (.sl a o i c) else none
                    | none => none
                  else none
                | _ => none
/-- how often a byte stands in a string -/
def cntB (c : UInt8) : List UInt8 → Nat
  | [] => 0
  | a :: l => bif Nat.beq a.toNat c.toNat then Nat.succ (cntB c l) else cntB c l
/-- where it stands first -/
def idxB (c : UInt8) : List UInt8 → Option Nat
  | [] => none
  | a :: l => bif Nat.beq a.toNat c.toNat then some 0 else match idxB c l with
    | some i => some (Nat.succ i)
    | none => none
/-- a text, and one of a byte -/
def twoS : List V → Option (List UInt8 × UInt8)
  | [] => none
  | a :: r => match a with
    | .str s => match r with
      | [] => none
      | b :: r => match r with
        | _ :: _ => none
        | [] => match b with
          | .str t => match t with
            | [] => none
            | c :: t => match t with
              | [] => some (s, c)
              | _ :: _ => none
          | _ => none
    | _ => none
/-- strings.Count, of one byte -/
def cntI (args : List V) (h : Hp) : Option (V × Hp) :=
  match twoS args with
  | some (s, c) => some (.int .i64 (.ofNat (cntB c s)), h)
  | none => none
/-- strings.Index, of one byte -/
def idxI (args : List V) (h : Hp) : Option (V × Hp) :=
  match twoS args with
  | some (s, c) => match idxB c s with
    | some i => some (.int .i64 (.ofNat i), h)
    | none => some (.int .i64 (.negSucc 0), h)
  | none => none
/-- a function without arguments, which makes one row -/
def rowI (l : List V) (args : List V) (h : Hp) : Option (V × Hp) :=
  match args with
  | [] => some (.ptr h.next 0, h.alloc (.cells l false))
  | _ :: _ => none
def u32s : List Nat → List V
  | [] => []
  | n :: r => .int .u32 (.ofNat n) :: u32s r
/-- what each byte does to a sum: CRC-32C -/
def crcTab : List V := u32s [0, 4067132163, 3778769143, 324072436, 3348797215, 904991772, 648144872, 3570033899, 2329499855, 2024987596, 1809983544, 2575936315, 1296289744, 3207089363, 2893594407, 1578318884, 274646895, 3795141740, 4049975192, 51262619, 3619967088, 632279923, 922689671, 3298075524, 2592579488, 1760304291, 2075979607, 2312596564, 1562183871, 2943781820, 3156637768, 1313733451, 549293790, 3537243613, 3246849577, 871202090, 3878099393, 357341890, 102525238, 4101499445, 2858735121, 1477399826, 1264559846, 3107202533, 1845379342, 2677391885, 2361733625, 2125378298, 820201905, 3263744690, 3520608582, 598981189, 4151959214, 85089709, 373468761, 3827903834, 3124367742, 1213305469, 1526817161, 2842354314, 2107672161, 2412447074, 2627466902, 1861252501, 1098587580, 3004210879, 2688576843, 1378610760, 2262928035, 1955203488, 1742404180, 2511436119, 3416409459, 969524848, 714683780, 3639785095, 205050476, 4266873199, 3976438427, 526918040, 1361435347, 2739821008, 2954799652, 1114974503, 2529119692, 1691668175, 2005155131, 2247081528, 3690758684, 697762079, 986182379, 3366744552, 476452099, 3993867776, 4250756596, 255256311, 1640403810, 2477592673, 2164122517, 1922457750, 2791048317, 1412925310, 1197962378, 3037525897, 3944729517, 427051182, 170179418, 4165941337, 746937522, 3740196785, 3451792453, 1070968646, 1905808397, 2213795598, 2426610938, 1657317369, 3053634322, 1147748369, 1463399397, 2773627110, 4215344322, 153784257, 444234805, 3893493558, 1021025245, 3467647198, 3722505002, 797665321, 2197175160, 1889384571, 1674398607, 2443626636, 1164749927, 3070701412, 2757221520, 1446797203, 137323447, 4198817972, 3910406976, 461344835, 3484808360, 1037989803, 781091935, 3705997148, 2460548119, 1623424788, 1939049696, 2180517859, 1429367560, 2807687179, 3020495871, 1180866812, 410100952, 3927582683, 4182430767, 186734380, 3756733383, 763408580, 1053836080, 3434856499, 2722870694, 1344288421, 1131464017, 2971354706, 1708204729, 2545590714, 2229949006, 1988219213, 680717673, 3673779818, 3383336350, 1002577565, 4010310262, 493091189, 238226049, 4233660802, 2987750089, 1082061258, 1395524158, 2705686845, 1972364758, 2279892693, 2494862625, 1725896226, 952904198, 3399985413, 3656866545, 731699698, 4283874585, 222117402, 510512622, 3959836397, 3280807620, 837199303, 582374963, 3504198960, 68661723, 4135334616, 3844915500, 390545967, 1230274059, 3141532936, 2825850620, 1510247935, 2395924756, 2091215383, 1878366691, 2644384480, 3553878443, 565732008, 854102364, 3229815391, 340358836, 3861050807, 4117890627, 119113024, 1493875044, 2875275879, 3090270611, 1247431312, 2660249211, 1828433272, 2141937292, 2378227087, 3811616794, 291187481, 34330861, 4032846830, 615137029, 3603020806, 3314634738, 939183345, 1776939221, 2609017814, 2295496738, 2058945313, 2926798794, 1545135305, 1330124605, 3173225534, 4084100981, 17165430, 307568514, 3762199681, 888469610, 3332340585, 3587147933, 665062302, 2042050490, 2346497209, 2559330125, 1793573966, 3190661285, 1279665062, 1595330642, 2910671697]
def strsOf : List V → Option (List (List UInt8))
  | [] => some []
  | v :: r => match v with
    | .str s => match strsOf r with
      | some l => some (s :: l)
      | none => none
    | _ => none
def joinB (sep : List UInt8) : List (List UInt8) → List UInt8
  | [] => []
  | x :: r => match r with
    | [] => x
    | _ :: _ => x ++ (sep ++ joinB sep r)
/-- strings.Join -/
def joinI (args : List V) (h : Hp) : Option (V × Hp) :=
  match args with
  | [] => none
  | s :: r => match r with
    | [] => none
    | b :: r => match r with
      | _ :: _ => none
      | [] => match b with
        | .str sep => match s with
          | .no k => match k with
            | .sl => some (.str [], h)
            | _ => none
          | .sl a o n _ => match h.loadN a o n with
            | none => none
            | some l => match strsOf l with
              | none => none
              | some ss => bif Nat.ble n 140737488355328 then bif Nat.ble (joinB sep ss).length 140737488355328 then some (.str (joinB sep ss), h) else none else none
          | _ => none
        | _ => none
/-- the program's functions; some of them by contracts -/
def fnsOf (P : Program) (l : List (Nat × (List V → Hp → Option (V × Hp)))) (i : Nat) : Option FnI :=
  match l with
  | [] => (cFn P i).map .code
  | p :: r => bif Nat.beq p.1 i then some (.intr p.2) else fnsOf P r i

def isTrue : Nx → Bool
  | .done v _ => match v with | .bool b => b | _ => false
  | _ => false
end
end Go.Ev
