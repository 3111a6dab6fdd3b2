/- A part of the proof of glacislaw13.LiveOnce. -/
import GoSem.Core.World
import GoSem.Core.View
import GoSem.Op.String
import GoSem.Core.Layout
import GoSem.Core.Region
import GoSem.Op.Equal
import Derived.Control
import Derived.Laws.Sem
import GoSem.Dispatch
import Derived.Laws.StructEq
import Derived.Laws.Strings2
import Derived.Laws.Concat
import Derived.IntWalk
namespace Go.Ev
theorem aL:type_of% @Option.some.injEq.{0}:=@Option.some.injEq
theorem ab:type_of% @if_neg.{1}:=@if_neg
theorem aR:type_of% @decide_eq_true_eq:=@decide_eq_true_eq
theorem bj:type_of% @List.getElem?_eq_getElem.{0}:=@List.getElem?_eq_getElem
theorem bD:type_of% @decide_eq_false_iff_not:=@decide_eq_false_iff_not
theorem bQ:type_of% @List.drop_eq_getElem_cons.{0}:=@List.drop_eq_getElem_cons
theorem ae:type_of% @if_pos.{1}:=@if_pos
theorem aB:type_of% @Nat.le_refl:=@Nat.le_refl
theorem be:type_of% @Bool.and_eq_true:=@Bool.and_eq_true
theorem bp:type_of% @List.append_assoc.{0}:=@List.append_assoc
theorem aE:type_of% @cond_true.{1}:=@cond_true
theorem db:type_of% @List.getElem?_append_right.{0}:=@List.getElem?_append_right
theorem cg:type_of% @Bool.or_eq_false_iff:=@Bool.or_eq_false_iff
theorem dt:type_of% @List.getElem?_append_left.{0}:=@List.getElem?_append_left
theorem bW:type_of% @List.length_drop.{0}:=@List.length_drop
theorem dF:type_of% @List.getElem?_cons_succ.{0}:=@List.getElem?_cons_succ
theorem b6:type_of% @List.drop_length.{0}:=@List.drop_length
theorem fm:type_of% @List.take_succ_eq_append_getElem.{0}:=@List.take_succ_eq_append_getElem
theorem b7:type_of% @List.length_cons.{0}:=@List.length_cons
theorem e8:type_of% @List.eq_nil_of_length_eq_zero.{0}:=@List.eq_nil_of_length_eq_zero
theorem dS:type_of% @List.getElem?_eq_some_iff.{0}:=@List.getElem?_eq_some_iff
theorem cR:type_of% @List.mem_cons_of_mem.{0}:=@List.mem_cons_of_mem
theorem dG:type_of% @Nat.eq_of_beq_eq_true:=@Nat.eq_of_beq_eq_true
theorem cw:type_of% @List.getElem_mem.{0}:=@List.getElem_mem
theorem c2:type_of% @List.length_append.{0}:=@List.length_append
theorem bS:type_of% @List.mem_cons.{0}:=@List.mem_cons
theorem eS:type_of% @Option.isSome_iff_exists.{0}:=@Option.isSome_iff_exists
theorem cE:type_of% @List.length_take.{0}:=@List.length_take
theorem c3:type_of% @Bool.not_eq_true':=@Bool.not_eq_true'
theorem du:type_of% @Bool.not_eq_false':=@Bool.not_eq_false'
theorem bw:type_of% @cond_false.{1}:=@cond_false
theorem dc:type_of% @List.mem_cons_self.{0}:=@List.mem_cons_self
theorem cx:type_of% @Bool.or_eq_true:=@Bool.or_eq_true
theorem eT:type_of% @Nat.le_of_ble_eq_true:=@Nat.le_of_ble_eq_true
theorem cX:type_of% @List.map_append.{0,0}:=@List.map_append
theorem gI:type_of% @Array.getElem?_eq_some_iff.{0}:=@Array.getElem?_eq_some_iff
theorem gd:type_of% @List.getElem?_cons_zero.{0}:=@List.getElem?_cons_zero
theorem gf:type_of% @Option.bind_eq_some_iff.{0,0}:=@Option.bind_eq_some_iff
theorem dT:type_of% @List.take_length.{0}:=@List.take_length
theorem dM:type_of% @Option.map_some.{0,0}:=@Option.map_some
theorem eU:type_of% @List.all_eq_true.{0}:=@List.all_eq_true
theorem dH:type_of% @Prod.mk.injEq.{0,0}:=@Prod.mk.injEq
theorem hA:type_of% @Nat.ble_eq_true_of_le:=@Nat.ble_eq_true_of_le
theorem cS:type_of% @Nat.zero_le:=@Nat.zero_le
theorem e9:type_of% @List.append_nil.{0}:=@List.append_nil
theorem mU:type_of% @Array.getElem?_setIfInBounds_self_of_lt.{0}:=@Array.getElem?_setIfInBounds_self_of_lt
theorem kZ:type_of% @Array.getElem?_setIfInBounds_ne.{0}:=@Array.getElem?_setIfInBounds_ne
theorem fo:type_of% @List.nil_append.{0}:=@List.nil_append
theorem gJ:type_of% @List.getElem?_drop.{0}:=@List.getElem?_drop
theorem iF:type_of% @Bool.and_eq_false_iff:=@Bool.and_eq_false_iff
theorem eD:type_of% @List.map_cons.{0,0}:=@List.map_cons
theorem hB:type_of% @List.mem_singleton.{0}:=@List.mem_singleton
theorem hC:type_of% @Int.toNat_natCast:=@Int.toNat_natCast
theorem jR:type_of% @Option.map_eq_some_iff.{0,0}:=@Option.map_eq_some_iff
theorem jS:type_of% @List.drop_of_length_le.{0}:=@List.drop_of_length_le
theorem eV:type_of% @Nat.zero_add:=@Nat.zero_add
theorem gK:type_of% @List.foldl_cons.{0,0}:=@List.foldl_cons
theorem kk:type_of% @List.take_of_length_le.{0}:=@List.take_of_length_le
theorem hD:type_of% @Nat.min_eq_left:=@Nat.min_eq_left
theorem gg:type_of% @Nat.add_assoc:=@Nat.add_assoc
theorem jT:type_of% @List.take_append_drop.{0}:=@List.take_append_drop
theorem fK:type_of% @List.mem_append.{0}:=@List.mem_append
theorem jv:type_of% @List.getElem?_take.{0}:=@List.getElem?_take
theorem fL:type_of% @Nat.le_trans:=@Nat.le_trans
theorem hS:type_of% @List.length_map.{0,0}:=@List.length_map
theorem jU:type_of% @List.pairwise_cons.{0}:=@List.pairwise_cons
theorem k0:type_of% @List.length_replicate.{0}:=@List.length_replicate
theorem ej:type_of% @Int.le_refl:=@Int.le_refl
theorem gL:type_of% @Bool.true_and:=@Bool.true_and
theorem kl:type_of% @Nat.lt_of_lt_of_le:=@Nat.lt_of_lt_of_le
theorem jV:type_of% @Nat.lt_succ_self:=@Nat.lt_succ_self
theorem mV:type_of% @Nat.add_sub_cancel_left:=@Nat.add_sub_cancel_left
theorem km:type_of% @List.mem_of_getElem?.{0}:=@List.mem_of_getElem?
theorem mW:type_of% @List.getElem?_toArray.{0}:=@List.getElem?_toArray
theorem kn:type_of% @List.getElem?_set.{0}:=@List.getElem?_set
theorem k1:type_of% @List.getElem?_map.{0,0}:=@List.getElem?_map
theorem mX:type_of% @Array.getElem?_modify.{0}:=@Array.getElem?_modify
theorem jw:type_of% @Bool.false_or:=@Bool.false_or
theorem l1:type_of% @Bool.false_eq_true:=@Bool.false_eq_true
theorem kp:type_of% @Bool.eq_iff_iff:=@Bool.eq_iff_iff
theorem mY:type_of% @Int.ofNat_eq_natCast:=@Int.ofNat_eq_natCast
theorem iG:type_of% @Nat.sub_self:=@Nat.sub_self
theorem k3:type_of% @List.cons_append.{0}:=@List.cons_append
theorem l2:type_of% @Bool.eq_false_iff:=@Bool.eq_false_iff
theorem mZ:type_of% @List.eq_of_mem_replicate.{0}:=@List.eq_of_mem_replicate
theorem kq:type_of% @Option.getD_some.{0}:=@Option.getD_some
theorem l3:type_of% @Option.bind_some.{0,0}:=@Option.bind_some
theorem iH:type_of% @Nat.add_mul:=@Nat.add_mul
theorem l4:type_of% @List.map_toArray.{0,0}:=@List.map_toArray
theorem nS:type_of% @Array.toArray_toList.{0}:=@Array.toArray_toList
theorem p7:type_of% @Array.getElem?_append_left.{0}:=@Array.getElem?_append_left
theorem kr:type_of% @Nat.lt_or_ge:=@Nat.lt_or_ge
theorem o4:type_of% @List.getElem?_eq_none.{0}:=@List.getElem?_eq_none
theorem k4:type_of% @List.all_cons.{0}:=@List.all_cons
theorem k5:type_of% @Bool.and_true:=@Bool.and_true
theorem o5:type_of% @List.mem_or_eq_of_mem_set.{0}:=@List.mem_or_eq_of_mem_set
theorem o6:type_of% @Nat.mul_le_mul_right:=@Nat.mul_le_mul_right
theorem nT:type_of% @Nat.lt_succ_of_lt:=@Nat.lt_succ_of_lt
theorem na:type_of% @List.length_nil.{0}:=@List.length_nil
theorem ks:type_of% @Nat.le_succ:=@Nat.le_succ
theorem l5:type_of% @Bool.not_true:=@Bool.not_true
theorem nU:type_of% @List.getElem_map.{0,0}:=@List.getElem_map
theorem nb:type_of% @List.drop_zero.{0}:=@List.drop_zero
theorem p8:type_of% @List.drop_eq_nil_of_le.{0}:=@List.drop_eq_nil_of_le
theorem l6:type_of% @List.map_nil.{0,0}:=@List.map_nil
theorem nV:type_of% @List.cons.injEq.{0}:=@List.cons.injEq
theorem p9:type_of% @Array.getElem?_toList.{0}:=@Array.getElem?_toList
theorem nW:type_of% @Nat.mul_le_mul:=@Nat.mul_le_mul
theorem nX:type_of% @List.take_zero.{0}:=@List.take_zero
theorem qa:type_of% @List.mem_of_find?_eq_some.{0}:=@List.mem_of_find?_eq_some
theorem nY:type_of% @List.drop_drop.{0}:=@List.drop_drop
theorem rM:type_of% @List.getElem?_take_of_lt.{0}:=@List.getElem?_take_of_lt
theorem qb:type_of% @Nat.add_sub_cancel:=@Nat.add_sub_cancel
theorem rN:type_of% @List.getElem_cons_drop.{0}:=@List.getElem_cons_drop
theorem qc:type_of% @List.ext_getElem?.{0}:=@List.ext_getElem?
theorem o7:type_of% @UInt8.toNat_lt:=@UInt8.toNat_lt
theorem qd:type_of% @Nat.mod_eq_of_lt:=@Nat.mod_eq_of_lt
theorem qe:type_of% @Nat.le_add_right:=@Nat.le_add_right
theorem qf:type_of% @List.filter_cons.{0}:=@List.filter_cons
theorem qg:type_of% @Array.toList_map.{0,0}:=@Array.toList_map
theorem qh:type_of% @Array.toList_inj.{0}:=@Array.toList_inj
theorem rO:type_of% @List.getElem?_modify.{0}:=@List.getElem?_modify
theorem tX:type_of% @List.dropLast_concat_getLast.{0}:=@List.dropLast_concat_getLast
theorem o8:type_of% @Bool.toNat_le:=@Bool.toNat_le
theorem qi:type_of% @UInt8.toNat_inj:=@UInt8.toNat_inj
theorem o9:type_of% @Option.map_none.{0,0}:=@Option.map_none
theorem qj:type_of% @Nat.not_lt_zero:=@Nat.not_lt_zero
theorem rP:type_of% @List.replicate_succ.{0}:=@List.replicate_succ
theorem pb:type_of% @List.length_set.{0}:=@List.length_set
theorem rQ:type_of% @List.length_pos_iff.{0}:=@List.length_pos_iff
theorem xu:type_of% @Int.tmod_eq_emod_of_nonneg:=@Int.tmod_eq_emod_of_nonneg
theorem pc:type_of% @Nat.le_of_lt:=@Nat.le_of_lt
theorem nZ:type_of% @List.mem_map.{0,0}:=@List.mem_map
theorem qk:type_of% @Int.negSucc_eq:=@Int.negSucc_eq
theorem rR:type_of% @List.foldl_append.{0,0}:=@List.foldl_append
theorem rS:type_of% @List.flatMap_cons.{0,0}:=@List.flatMap_cons
theorem rT:type_of% @Array.size_append.{0}:=@Array.size_append
theorem pd:type_of% @Nat.one_mul:=@Nat.one_mul
theorem ql:type_of% @List.sum_cons.{0}:=@List.sum_cons
theorem tY:type_of% @List.getElem?_replicate.{0}:=@List.getElem?_replicate
theorem tZ:type_of% @List.not_mem_nil.{0}:=@List.not_mem_nil
theorem rU:type_of% @Option.some.inj.{0}:=@Option.some.inj
theorem qm:type_of% @Nat.beq_refl:=@Nat.beq_refl
theorem qn:type_of% @Nat.add_comm:=@Nat.add_comm
theorem rV:type_of% @List.length_zip.{0,0}:=@List.length_zip
theorem ua:type_of% @List.getElem_set_self.{0}:=@List.getElem_set_self
theorem qo:type_of% @List.all_nil.{0}:=@List.all_nil
theorem rW:type_of% @List.all_append.{0}:=@List.all_append
theorem rX:type_of% @Int.natCast_pow:=@Int.natCast_pow
theorem pe:type_of% @Nat.blt_eq:=@Nat.blt_eq
inductive Pa where
 |z
 |l (p:Pa)
 |r (p:Pa)
 deriving DecidableEq
def Pa.toNat:Pa->Nat
 |.z=>0
 |.l p=>2*p.toNat+1
 |.r p=>2*p.toNat+2
def Pa.succ:Pa->Pa
 |.z=>.l .z
 |.l p=>.r p
 |.r p=>.l p.succ
def Pa.of:Nat->Nat->Pa
 |0,_=>.z
 |f+1,k=>if k=0 then .z else if k%2=1 then .l (Pa.of f (k/2))else .r (Pa.of f (k/2-1))
def Pa.beq:Pa->Pa->Bool
 |.z,.z=>true
 |.l p,.l q=>p.beq q
 |.r p,.r q=>p.beq q
 |_,_=>false
inductive NK where
 |ptr|sl|map|fn|iface|bot
inductive fM where
 |ex (c:Nat)
 |un (s:Nat)
inductive V where
 |bool (b:Bool)
 |int (k:IntKind) (n:Int)
 |str (s:List UInt8)
 |ptr (a:Pa) (I:Nat)
 |sl (a:Pa) (I n:Nat) (c:fM)
 |agg (l:List V)
 |aN (l:List V)
 |no (k:NK)
 |map (a:Pa)
 |fn (f:Nat) (a2:List V)
 |fp (l:Pa)
 |iface (t:Nat) (v:V)
inductive T (U:Type)where
 |E
 |N (v:Option U) (l r:T U)
structure bn (B:Type)where
 next:Pa
 t:T B
inductive Od where
 |t (i:Pa)
 |c (v:V)
inductive hE where
 |i|b|s
inductive cy where
 |flat (q:hE)
 |ptr
 |iface
 |slice
 |func
 |map
 |agg (l:List (Nat×hE))
 |no
inductive k6 where
 |ret
 |exit (id:Nat)
inductive Def where
 |call (f:Nat) (args:List V)
 |mark (a:Pa)
inductive iI where
 |call (f:Nat) (args:List V)
 |yield (l:Pa) (args:List V)
 |defer (d:Def)
 |recover
 |panic (v:V)
 |bad (n:Nat)
inductive Sm (B:Type)where
 |pu (f:T V->bn B->Option V)
 |cY (f:T V->Option (B×(Pa->V)))
 |st (f:T V->bn B->Option (V×bn B))
 |dv (f:T V->iI)
structure RO (B:Type)where
 dst:Option Pa
 l7:Sm B
 guard:Option (Pa×Bool)
inductive RS (B:Type)where
 |op (I:RO B)
 |bX (I:RO B)
inductive IC (B:Type)where
 |skip
 |region (rs:List (RS B))
 |seq (a b:IC B)
 |cond (c:Od) (a b:IC B)
 |block (id:Nat) (b:IC B)
 |loop (b:IC B)
 |rangeFunc (f:Od) (ps:List Pa) (a b:IC B)
 |exit (id:Nat)
 |ret
 |bad
structure l8 where
 state:LoopState
 pending:Option k6
 fn:Nat
 nt:Nat
 env:T V
 params:List Pa
inductive ak where
 |cells (l:List V) (dead:Bool)
 |ro (l:List V)
 |map (es:List (V×V×Nat)) (clock:Nat)
 |loop (l:l8)
 |c4 (live:Bool)
noncomputable section
def T.get {U:Type} (t:T U):Pa->Option U:=
 T.rec (motive:=fun _=>Pa->Option U) (fun _=>none)
  (fun v _ _ d h p=>Pa.rec (motive:=fun _=>Option U) v (fun p _=>d p) (fun p _=>h p) p) t
def T.one {U:Type} (x:U) (p:Pa):T U:=
 Pa.rec (motive:=fun _=>T U) (.N (some x) .E .E) (fun _ d=>.N none d .E) (fun _ d=>.N none .E d) p
def T.set {U:Type} (x:U) (t:T U):Pa->T U:=
 T.rec (motive:=fun _=>Pa->T U) (fun p=>T.one x p)
  (fun v l r d h p=>Pa.rec (motive:=fun _=>T U) (.N (some x) l r) (fun p _=>.N v (d p) r) (fun p _=>.N v l (h p)) p) t
end
noncomputable section
abbrev Hp:=bn ak
abbrev bx:=Sm ak
def bn.get {B:Type} (h:bn B) (a:Pa):Option B:=h.t.get a
def bn.put {B:Type} (h:bn B) (a:Pa) (b:B):bn B:=⟨h.next,h.t.set b a⟩
def bn.alloc {B:Type} (h:bn B) (b:B):bn B:=⟨h.next.succ,h.t.set b h.next⟩
def gM:Int->Int->Bool
 |.ofNat a,.ofNat b=>Nat.blt a b
 |.ofNat _,.negSucc _=>false
 |.negSucc _,.ofNat _=>true
 |.negSucc a,.negSucc b=>Nat.blt b a
def gh:Int->Int->Bool
 |.ofNat a,.ofNat b=>Nat.beq a b
 |.ofNat _,.negSucc _=>false
 |.negSucc _,.ofNat _=>false
 |.negSucc a,.negSucc b=>Nat.beq a b
def qp:Int->Int->Int
 |.ofNat a,.ofNat b=>.ofNat (Nat.add a b)
 |a,b=>a+b
def qq:Int->Int->Int
 |.ofNat a,.ofNat b=>bif Nat.ble b a then .ofNat (Nat.sub a b)else .ofNat a-.ofNat b
 |a,b=>a-b
def rY:Int->Int->Int
 |.ofNat a,.ofNat b=>.ofNat (Nat.mul a b)
 |a,b=>a*b
def k7:IntKind->Nat
 |.i8=>127|.i16=>32767|.i32=>2147483647|.i64=>9223372036854775807
 |.u8=>255|.u16=>65535|.u32=>4294967295|.u64=>18446744073709551615
def ek (k:IntKind):Int->Int
 |.ofNat a=>bif Nat.ble a (k7 k)then .ofNat a else k.wrap (.ofNat a)
 |.negSucc a=>bif k.signed&&Nat.ble a (k7 k)then .negSucc a else k.wrap (.negSucc a)
def ub:IntKind->Nat
 |.i8=>0|.i16=>1|.i32=>2|.i64=>3|.u8=>4|.u16=>5|.u32=>6|.u64=>7
def cr (a b:IntKind):Bool:=Nat.beq (ub a) (ub b)
def pf (a b:Bool):Bool:=bif a then b else !b
def jW:List UInt8->List UInt8->Bool
 |[],[]=>true
 |a::x,b::y=>bif Nat.beq a.toNat b.toNat then jW x y else false
 |_,_=>false
def kt:List UInt8->List UInt8->Bool
 |_,[]=>false
 |[],_::_=>true
 |a::x,b::y=>bif Nat.blt a.toNat b.toNat then true else bif Nat.beq a.toNat b.toNat then kt x y else false
def en (q:hE) (x y:V):Option Bool:=
 match q with
 |.i=>match x with
  |.int k a=>match y with
   |.int k' b=>bif cr k k' then some (gh a b)else none
   |_=>none
  |_=>none
 |.b=>match x with
  |.bool a=>match y with
   |.bool b=>some (pf a b)
   |_=>none
  |_=>none
 |.s=>match x with
  |.str a=>match y with
   |.str b=>some (jW a b)
   |_=>none
  |_=>none
def nth {U:Type}:List U->Nat->Option U
 |[],_=>none
 |a::l,n=>bif Nat.beq n 0 then some a else nth l (Nat.sub n 1)
def ku (x y:List V):List (Nat×hE)->Option Bool
 |[]=>some true
 |(I,q)::r=>match nth x I with
  |none=>none
  |some a=>match nth y I with
   |none=>none
   |some b=>match en q a b with
    |some true=>ku x y r
    |some false=>some false
    |none=>none
inductive C5 where
 |nil|some|other
def isNil (q:cy):V->C5
 |.no k=>match q,k with
  |.ptr,.ptr=>.nil
  |.iface,.iface=>.nil
  |.slice,.sl=>.nil
  |.func,.fn=>.nil
  |.map,.map=>.nil
  |_,_=>.other
 |.ptr _ _=>match q with|.ptr=>.some|_=>.other
 |.iface _ _=>match q with|.iface=>.some|_=>.other
 |.sl ..=>match q with|.slice=>.some|_=>.other
 |.fn ..=>match q with|.func=>.some|_=>.other
 |.map _=>match q with|.map=>.some|_=>.other
 |_=>.other
def cF (q:cy) (x y:V):Option Bool:=
 match q with
 |.flat q=>en q x y
 |.agg l=>match x with
  |.agg a=>match y with
   |.agg b=>ku a b l
   |_=>none
  |_=>none
 |q=>match isNil q x,isNil q y with
  |.nil,.nil=>some true
  |.nil,.some=>some false
  |.some,.nil=>some false
  |_,_=>none
def uc (op:BinOp) (k:IntKind) (a b:Int):Option V:=
 match op with
 |.add=>some (.int k (ek k (qp a b)))
 |.sub=>some (.int k (ek k (qq a b)))
 |.mul=>some (.int k (ek k (rY a b)))
 |.quo=>bif gh b 0 then none else some (.int k (ek k (a.tdiv b)))
 |.rem=>bif gh b 0 then none else some (.int k (a.tmod b))
 |.and=>some (.int k (k.wrap (BitVec.ofInt k.bits a&&&BitVec.ofInt k.bits b).toNat))
 |.or=>some (.int k (k.wrap (BitVec.ofInt k.bits a|||BitVec.ofInt k.bits b).toNat))
 |.xor=>some (.int k (k.wrap (BitVec.ofInt k.bits a^^^BitVec.ofInt k.bits b).toNat))
 |.andNot=>some (.int k (k.wrap (BitVec.ofInt k.bits a&&&~~~BitVec.ofInt k.bits b).toNat))
 |.eql=>some (.bool (gh a b))
 |.neq=>some (.bool (!gh a b))
 |.lss=>some (.bool (gM a b))
 |.leq=>some (.bool (!gM b a))
 |.gtr=>some (.bool (gM b a))
 |.geq=>some (.bool (!gM a b))
 |.shl=>none
 |.shr=>none
def nc (left:Bool) (k:IntKind) (a b:Int):Option V:=
 bif gM b 0 then none else
 bif left then some (.int k (k.wrap (a*2^(min b.toNat k.bits))))else some (.int k (a.fdiv (2^(min b.toNat k.bits))))
def ud (op:BinOp) (a b:List UInt8):Option V:=
 match op with
 |.add=>bif Nat.ble (a.length+b.length) 9223372036854775807 then some (.str (a++b))else none
 |.eql=>some (.bool (jW a b))
 |.neq=>some (.bool (!jW a b))
 |.lss=>some (.bool (kt a b))
 |.leq=>some (.bool (kt a b||jW a b))
 |.gtr=>some (.bool (!(kt a b||jW a b)))
 |.geq=>some (.bool (!kt a b))
 |_=>none
def ue (op:BinOp) (x y:V):Option V:=
 match x with
 |.int k a=>match y with
  |.int k' b=>bif cr k k' then uc op k a b else none
  |_=>none
 |.str a=>match y with
  |.str b=>ud op a b
  |_=>none
 |_=>none
def b0 (op:BinOp) (q:cy) (x y:V):Option V:=
 match op with
 |.shl=>match x with
  |.int k a=>match y with
   |.int _ b=>nc true k a b
   |_=>none
  |_=>none
 |.shr=>match x with
  |.int k a=>match y with
   |.int _ b=>nc false k a b
   |_=>none
  |_=>none
 |.eql=>(cF q x y).map .bool
 |.neq=>(cF q x y).map fun b=>.bool (!b)
 |op=>ue op x y
def pg (op:UnOp) (x:V):Option V:=
 match op with
 |.neg=>match x with
  |.int k n=>some (.int k (ek k (qq 0 n)))
  |_=>none
 |.not=>match x with
  |.bool b=>some (.bool (!b))
  |_=>none
 |.xor=>match x with
  |.int k n=>some (.int k (k.wrap (BitVec.ofInt k.bits (if k.signed then-1 else k.max)^^^BitVec.ofInt k.bits n).toNat))
  |_=>none
 |.plus=>none
def T.val (e:T V) (i:Pa):V:=match e.get i with|some v=>v|none=>.no .bot
def Od.ev (e:T V):Od->V
 |.t i=>e.val i
 |.c v=>v
def di (e:T V):List Od->List V
 |[]=>[]
 |x::r=>x.ev e::di e r
def aZ (e:T V):Option Od->Option V
 |none=>none
 |some x=>some (x.ev e)
def V.cells:V->List V
 |.agg l=>l
 |v=>[v]
def takeN {U:Type}:Nat->List U->Option (List U)
 |0,_=>some []
 |n+1,l=>match l with
  |a::l=>match takeN n l with|some r=>some (a::r)|none=>none
  |[]=>none
def k8 {U:Type}:Nat->List U->List U
 |0,l=>l
 |n+1,l=>match l with
  |_::l=>k8 n l
  |[]=>[]
def over:List V->List V->Option (List V)
 |l,[]=>some l
 |l,x::xs=>match l with
  |_::l=>match over l xs with|some r=>some (x::r)|none=>none
  |[]=>none
def cT:Nat->List V->List V->Option (List V)
 |0,l,xs=>over l xs
 |n+1,l,xs=>match l with
  |a::l=>match cT n l xs with|some r=>some (a::r)|none=>none
  |[]=>none
def bn.cells (h:Hp) (a:Pa):Option (List V):=
 match h.get a with
 |none=>none
 |some b=>match b with
  |.cells l d=>bif d then none else some l
  |.ro l=>some l
  |_=>none
def bn.b1 (h:Hp) (a:Pa) (I n:Nat):Option (List V):=
 match h.cells a with
 |some l=>takeN n (k8 I l)
 |none=>none
def isScalar:V->Bool
 |.agg _=>false
 |.aN _=>false
 |.no k=>match k with|.bot=>false|_=>true
 |_=>true
def aY:List V->Bool
 |[]=>true
 |v::l=>bif isScalar v then aY l else false
def bn.cG (h:Hp) (a:Pa) (I:Nat) (xs:List V):Option Hp:=
 match h.get a with
 |none=>none
 |some b=>match b with
  |.cells l d=>bif d then none else bif aY xs then match cT I l xs with|some l'=>some (h.put a (.cells l' false))|none=>none else none
  |_=>none
def gN (e:T V):List (Nat×Nat×Od)->List V->Option (List V)
 |[],z=>some z
 |(I,n,x)::r,z=>
  let cs:=(x.ev e).cells
  bif Nat.beq cs.length n then bif aY cs then match cT I z cs with|some z'=>gN e r z'|none=>none else none else none
def cz (b:UInt8):V:=.int .u8 (.ofNat b.toNat)
def bytesOf:List V->Option (List UInt8)
 |[]=>some []
 |v::l=>match v with
  |.int k n=>match k with
   |.u8=>match bytesOf l with|some r=>some (UInt8.ofNat n.toNat::r)|none=>none
   |_=>none
  |_=>none
def part (n:Option Nat) (l:List V) (I:Nat):Option V:=
 match n with
 |none=>nth l I
 |some n=>match takeN n (k8 I l)with|some r=>some (.agg r)|none=>none
def dw (d:Nat) (y:Nat):Option V->Option Nat
 |none=>some d
 |some v=>match v with
  |.int _ i=>match i with
   |.ofNat i=>bif Nat.ble i y then some i else none
   |.negSucc _=>none
  |_=>none
def dN (n c:Nat) (lo hi mx:Option V):Option (Nat×Nat×Nat):=
 match dw c c mx with
 |none=>none
 |some m=>match dw n m hi with
  |none=>none
  |some h=>match dw 0 h lo with
   |none=>none
   |some l=>some (l,h,m)
def uf (n am:Nat) (x:V) (lo hi:Option V):Option V:=
 match x with
 |.ptr a I=>match dN n n lo hi none with
  |some (l,h,m)=>some (.sl a (bif Nat.beq m l then I else I+l*am) (h-l) (.ex (m-l)))
  |none=>none
 |_=>none
def gO (x:V) (lo hi:Option V):Option V:=
 match x with
 |.str s=>match dN s.length s.length lo hi none with
  |some (l,h,_)=>match takeN (h-l) (k8 l s)with|some r=>some (.str r)|none=>none
  |none=>none
 |_=>none
def dx (am:Nat) (x:V) (lo hi mx:Option V):Option V:=
 match x with
 |.no k=>match k with
  |.sl=>match dN 0 0 lo hi mx with
   |some _=>some (.no .sl)
   |none=>none
  |_=>none
 |.sl a I n c=>match c with
  |.ex c=>match dN n c lo hi mx with
   |some (l,h,m)=>some (.sl a (bif Nat.beq m l then I else I+l*am) (h-l) (.ex (m-l)))
   |none=>none
  |.un s=>bif Nat.beq s am then match dN n n lo hi mx with
   |some (l,h,m)=>match mx with
    |none=>some (.sl a (I+l*am) (h-l) (.un s))
    |some _=>bif Nat.blt l m then some (.sl a (I+l*am) (h-l) (.ex (m-l)))else some (.sl a I 0 (.ex 0))
   |none=>none else none
 |_=>none
def k9 (h:Hp) (am:Nat) (a:Pa) (I:Nat):Nat:=
 match h.get a with
 |some b=>match b with
  |.cells l d=>bif d then 0 else Nat.div (Nat.sub l.length I) am
  |_=>0
 |none=>0
def nd (h:Hp) (am:Nat) (x:V) (lo hi:Option V):Option V:=
 match x with
 |.sl a I n c=>match c with
  |.un s=>bif Nat.beq s am then
    bif Nat.ble n (k9 h am a I)then match dN n (k9 h am a I) lo hi none with
     |some (l,d,_)=>some (.sl a (I+l*am) (d-l) (.un s))
     |none=>none
    else none
   else none
  |_=>none
 |_=>none
def gw (q:cy) (k:V):List (V×V×Nat)->Nat->Option (Option (Nat×V))
 |[],_=>some none
 |(k',v,_)::r,i=>match cF q k k' with
  |some b=>bif b then some (some (i,v))else gw q k r (i+1)
  |none=>none
def qs (q:hE) (k:V):Bool:=
 match q with
 |.i=>match k with|.int _ _=>true|_=>false
 |.b=>match k with|.bool _=>true|_=>false
 |.s=>match k with|.str _=>true|_=>false
def rZ (a:List V):List (Nat×hE)->Bool
 |[]=>true
 |(I,q)::r=>match nth a I with
  |some k=>bif qs q k then rZ a r else false
  |none=>false
def fits (q:cy) (k:V):Bool:=
 match q with
 |.flat q=>qs q k
 |.agg l=>match k with|.agg a=>rZ a l|_=>false
 |_=>false
def bn.mapOf (h:Hp):V->Option (List (V×V×Nat))
 |.map r=>match h.get r with
  |some b=>match b with
   |.map es _=>some es
   |_=>none
  |none=>none
 |.no k=>match k with|.map=>some []|_=>none
 |_=>none
def mm (isMax:Bool) (x y:V):Option V:=
 match x with
 |.int k x=>match y with
  |.int k' y=>bif cr k k' then some (.int k (bif isMax then(bif gM x y then y else x)else(bif gM y x then y else x)))else none
  |_=>none
 |_=>none
def la (isMax:Bool) (e:T V):List Od->V->Option V
 |[],x=>some x
 |y::r,x=>match mm isMax x (y.ev e)with|some z=>la isMax e r z|none=>none
def lb (x:Od):bx:=.pu fun e _=>some (x.ev e)
def cU (c a b:Od):bx:=.pu fun e _=>match c.ev e with
 |.bool t=>some (bif t then a.ev e else b.ev e)
 |_=>none
def aO (z:List V) (ps:List (Nat×Nat×Od)):bx:=.pu fun e _=>match gN e ps z with|some l=>some (.agg l)|none=>none
def eE (h:Hp) (n:Option Nat):V->Option V
 |.ptr a I=>match n with
  |none=>match h.cells a with
   |some l=>nth l I
   |none=>none
  |some n=>match h.b1 a I n with|some l=>some (.agg l)|none=>none
 |_=>none
def b2 (n:Option Nat) (x:Od):bx:=.pu fun e h=>eE h n (x.ev e)
def gP (x:Od):bx:=.pu fun e _=>match x.ev e with
 |.ptr a I=>some (.ptr a I)
 |_=>none
def bc (op:BinOp) (q:cy) (x y:Od):bx:=.pu fun e _=>b0 op q (x.ev e) (y.ev e)
def dj (op:UnOp) (x:Od):bx:=.pu fun e _=>pg op (x.ev e)
def cH (k:IntKind) (x:Od):bx:=.pu fun e _=>match x.ev e with
 |.int _ n=>some (.int k (ek k n))
 |_=>none
def C6 (x:Od):bx:=.pu fun e _=>match x.ev e with
 |.str s=>some (.str s)
 |_=>none
def dk (x:Od):bx:=.pu fun e h=>match x.ev e with
 |.sl a I n _=>match h.b1 a I n with
  |some l=>match bytesOf l with|some s=>some (.str s)|none=>none
  |none=>none
 |.no k=>match k with|.sl=>some (.str [])|_=>none
 |_=>none
def r0:fM->Option fM
 |.ex c=>some (.ex c)
 |.un s=>bif Nat.beq s 1 then some (.un 1)else none
def ug (h:Hp) (x:V):Option (V×Hp):=
 match x with
 |.sl a I n c=>bif Nat.beq n 0 then none else match r0 c with
  |none=>none
  |some j=>match h.get a with
   |none=>none
   |some b=>match b with
    |.cells l d=>bif d then none else some (.sl h.next I n j,(h.put a (.cells l true)).alloc (.cells l false))
    |_=>none
 |_=>none
def C7 (x:Od):bx:=.st fun e h=>ug h (x.ev e)
def qt (t:Nat) (x:Od):bx:=.pu fun e _=>some (.iface t (x.ev e))
def lf (f:Nat) (a2:List Od):bx:=.pu fun e _=>some (.fn f (di e a2))
def l9 (h:Hp) (s:Nat) (x:V) (lo hi:Option V):Option V->Option V->Option V
 |some _,r=>r
 |none,r=>match r with
  |some v=>some v
  |none=>nd h s x lo hi
def dO (s:Nat) (x:Od) (lo hi mx:Option Od):bx:=.pu fun e h=>l9 h s (x.ev e) (aZ e lo) (aZ e hi) (aZ e mx) (dx s (x.ev e) (aZ e lo) (aZ e hi) (aZ e mx))
def ma (x:Od) (lo hi:Option Od):bx:=.pu fun e _=>gO (x.ev e) (aZ e lo) (aZ e hi)
def C8 (n s:Nat) (x:Od) (lo hi:Option Od):bx:=.pu fun e _=>uf n s (x.ev e) (aZ e lo) (aZ e hi)
def lg (off:Nat) (x:Od):bx:=.pu fun e _=>match x.ev e with
 |.ptr a I=>some (.ptr a (I+off))
 |_=>none
def C9 (off:Nat) (n:Option Nat) (x:Od):bx:=.pu fun e _=>match x.ev e with
 |.agg l=>part n l off
 |_=>none
def bs (arr:Option Nat) (s:Nat) (x i:Od):bx:=.pu fun e _=>match i.ev e with
 |.int _ j=>match j with
  |.ofNat j=>match arr with
   |some n=>match x.ev e with
    |.ptr a I=>bif Nat.blt j n then some (.ptr a (I+j*s))else none
    |_=>none
   |none=>match x.ev e with
    |.sl a I n _=>bif Nat.blt j n then some (.ptr a (I+j*s))else none
    |_=>none
  |.negSucc _=>none
 |_=>none
def gi (x i:Od):bx:=.pu fun e _=>match i.ev e with
 |.int _ j=>match j with
  |.ofNat j=>match x.ev e with
   |.str s=>match nth s j with|some b=>some (cz b)|none=>none
   |_=>none
  |.negSucc _=>none
 |_=>none
def Da (len s:Nat) (n:Option Nat) (x i:Od):bx:=.pu fun e _=>match i.ev e with
 |.int _ j=>match j with
  |.ofNat j=>match x.ev e with
   |.agg l=>bif Nat.blt j len then part n l (j*s)else none
   |_=>none
  |.negSucc _=>none
 |_=>none
def n2 (ok:Bool) (v:V) (b:Bool):V:=bif ok then .aN [v,.bool b]else v
def ph (h:Hp) (q:cy) (z x k:V) (ok:Bool):Option V:=
 match h.mapOf x with
 |some es=>bif fits q k then match gw q k es 0 with
  |some r=>match r with
   |some (_,v)=>some (n2 ok v true)
   |none=>some (n2 ok z false)
  |none=>none else none
 |none=>none
def qu (q:cy) (z:V) (x i:Od) (ok:Bool):bx:=.pu fun e h=>ph h q z (x.ev e) (i.ev e) ok
def uh (t:Nat) (z:V) (x:Od) (ok:Bool):bx:=.pu fun e _=>match x.ev e with
 |.iface d v=>bif Nat.beq t d then some (n2 ok v true)else bif ok then some (.aN [z,.bool false])else none
 |.no k=>match k with
  |.iface=>bif ok then some (.aN [z,.bool false])else none
  |_=>none
 |_=>none
def ui (x:Od) (i:Nat):bx:=.pu fun e _=>match x.ev e with
 |.aN l=>nth l i
 |_=>none
def mb:V->Option V
 |.sl _ _ n _=>some (.int .i64 (.ofNat n))
 |.no k=>match k with|.sl=>some (.int .i64 (.ofNat 0))|_=>none
 |_=>none
def uj:V->Option V
 |.str s=>some (.int .i64 (.ofNat s.length))
 |_=>none
def uk:V->Option V
 |.sl _ _ _ c=>match c with|.ex c=>some (.int .i64 (.ofNat c))|.un _=>none
 |.no k=>match k with|.sl=>some (.int .i64 (.ofNat 0))|_=>none
 |_=>none
def cl (x:Od):bx:=.pu fun e _=>mb (x.ev e)
def b4 (x:Od):bx:=.pu fun e _=>uj (x.ev e)
def Db (x:Od):bx:=.pu fun e _=>uk (x.ev e)
def iJ (m:Bool) (x:Od) (l:List Od):bx:=.pu fun e _=>la m e l (x.ev e)
def av (z:List V):bx:=.cY fun _=>some (.cells z false,fun a=>.ptr a 0)
def r1 (x:Od):bx:=.cY fun e=>let cs:=(x.ev e).cells;bif aY cs then some (.cells cs false,fun a=>.ptr a 0)else none
def aH (z:List V) (n:Nat) (ps:List (Nat×Nat×Od)):bx:=.cY fun e=>match gN e ps z with
 |some l=>bif aY l then some (.cells l false,fun a=>.sl a 0 n (.ex n))else none
 |none=>none
def fN (x:Od):bx:=.cY fun e=>match x.ev e with
 |.str s=>some (.cells (s.map cz) false,fun a=>.sl a 0 s.length (.un 1))
 |_=>none
def um:bx:=.cY fun _=>some (.map [] 0,fun a=>.map a)
def c5 (z:List V):Nat->List V
 |0=>[]
 |n+1=>z++c5 z n
def gj:V->Option Nat
 |.int _ j=>match j with
  |.ofNat j=>some j
  |.negSucc _=>none
 |_=>none
def hT (z:List V) (bytes:Nat) (l c:Od):bx:=.cY fun e=>match gj (l.ev e)with
 |some l=>match gj (c.ev e)with
  |some c=>bif Nat.ble l c&&(Nat.ble c 281474976710656&&Nat.ble (bytes*c) 281474976710656)then some (.cells (c5 z c) false,fun a=>.sl a 0 l (.ex c))else none
  |none=>none
 |none=>none
def cV:V:=.aN []
def oH (v:V):Option Hp->Option (V×Hp)
 |some h=>some (v,h)
 |none=>none
def fa (n:Nat) (a x:Od):bx:=.st fun e h=>match a.ev e with
 |.ptr b I=>let cs:=(x.ev e).cells
  bif Nat.beq cs.length n then oH cV (h.cG b I cs)else none
 |_=>none
def iK (h:Hp) (am n:Nat):V->Option (List V)
 |.sl a I _ _=>h.b1 a I (n*am)
 |.str s=>bif Nat.beq am 1 then match takeN n s with|some r=>some (r.map cz)|none=>none else none
 |.no k=>match k with
  |.sl=>bif Nat.beq n 0 then some []else none
  |_=>none
 |_=>none
def hU:V->Option Nat
 |.sl _ _ n _=>some n
 |.str s=>some s.length
 |.no k=>match k with
  |.sl=>some 0
  |_=>none
 |_=>none
def mc (h:Hp) (am n:Nat) (xs:List V):Option (V×Hp):=
 bif Nat.ble n 1073741824 then bif aY xs then some (.sl h.next 0 n (.un am),h.alloc (.cells xs false))else none else none
def jX (h:Hp) (am n:Nat) (xs:List V) (s:V):Option (V×Hp):=
    match s with
    |.no k=>match k with
     |.sl=>bif Nat.beq n 0 then some (.no .sl,h)else mc h am n xs
     |_=>none
    |.sl a I m c=>
     bif Nat.beq n 0 then some (.sl a I m c,h)else
     match c with
     |.ex c=>bif Nat.ble (m+n) c then oH (.sl a I (m+n) (.ex c)) (h.cG a (I+m*am) xs)else
      match h.b1 a I (m*am)with
      |some aC=>mc h am (m+n) (aC++xs)
      |none=>none
     |.un s=>bif Nat.beq s am then
      match h.get a with
      |none=>none
      |some b=>match b with
       |.cells l d=>bif d then none else
        bif Nat.ble (I+(m+n)*am) l.length then oH (.sl a I (m+n) (.un s)) (h.cG a (I+m*am) xs)else
        match takeN (m*am) (k8 I l)with
        |some aC=>mc (h.put a (.cells l true)) am (m+n) (aC++xs)
        |none=>none
       |_=>none
      else none
    |_=>none
def pj (h:Hp) (am:Nat) (s x:V):Option (V×Hp):=
 match hU x with
 |none=>none
 |some n=>match iK h am n x with
  |none=>none
  |some xs=>jX h am n xs s
def qv (am:Nat) (s x:Od):bx:=.st fun e h=>pj h am (s.ev e) (x.ev e)
def pk (h:Hp) (am:Nat) (z:List V) (s x:V):Option (V×Hp):=
 match gj x with
 |none=>none
 |some n=>bif Nat.ble n 1073741824 then jX h am n (c5 z n) s else none
def uo (am:Nat) (z:List V) (s x:Od):bx:=.st fun e h=>pk h am z (s.ev e) (x.ev e)
def qw (h:Hp) (am:Nat) (d s:V):Option (V×Hp):=
 match hU s with
 |none=>none
 |some k=>match d with
  |.sl a I m _=>match iK h am (Nat.min k m) s with
   |some xs=>oH (.int .i64 (.ofNat (Nat.min k m))) (h.cG a I xs)
   |none=>none
  |.no q=>match q with|.sl=>some (.int .i64 (.ofNat 0),h)|_=>none
  |_=>none
def qx (am:Nat) (d s:Od):bx:=.st fun e h=>qw h am (d.ev e) (s.ev e)
def uq (z:List V) (x:Od):bx:=.st fun e h=>match x.ev e with
 |.sl a I n _=>oH cV (h.cG a I (c5 z n))
 |.no k=>match k with|.sl=>some (cV,h)|_=>none
 |_=>none
def bn.jY (h:Hp):V->Option (Pa×List (V×V×Nat)×Nat)
 |.map r=>match h.get r with
  |some b=>match b with
   |.map es clock=>some (r,es,clock)
   |_=>none
  |none=>none
 |_=>none
def ur (q:cy) (m k x:Od):bx:=.st fun e h=>match h.jY (m.ev e)with
 |some (r,es,clock)=>match(bif fits q (k.ev e)then gw q (k.ev e) es 0 else none)with
  |some f=>match f with
   |some _=>none
   |none=>some (cV,h.put r (.map (es++[(k.ev e,x.ev e,clock)]) (clock+1)))
  |none=>none
 |none=>none
def Dc (q:cy) (z:V) (m k:Od):bx:=.st fun e h=>match h.jY (m.ev e)with
 |some (r,es,clock)=>match(bif fits q (k.ev e)then gw q (k.ev e) es 0 else none)with
  |some f=>match f with
   |some _=>none
   |none=>some (.aN [z,.int .i64 (.ofNat clock)],h.put r (.map (es++[(k.ev e,z,clock)]) (clock+1)))
  |none=>none
 |none=>none
def Dd (m s x:Od):bx:=.st fun e h=>match h.jY (m.ev e)with
 |some (r,es,clock)=>match gj (s.ev e)with
  |some b=>match es.findIdx? (fun t=>Nat.beq t.2.2 b)with
   |some i=>some (cV,h.put r (.map (es.modify i fun t=>(t.1,x.ev e,t.2.2)) clock))
   |none=>none
  |none=>none
 |none=>none
def aI (g:Nat) (args:List Od):bx:=.dv fun e=>.call g (di e args)
def n3 (f:Od) (args:List Od):bx:=.dv fun e=>match f.ev e with
 |.fn g a2=>.call g (di e args++a2)
 |.fp l=>.yield l (di e args)
 |_=>.bad 59
def pn (f:Od) (args:List Od):bx:=.dv fun e=>match f.ev e with
 |.fn g a2=>.defer (.call g (di e args++a2))
 |_=>.bad 60
def qy:bx:=.dv fun _=>.recover
def po (x:Od):bx:=.dv fun e=>match x.ev e with
 |.iface t v=>.panic (.iface t v)
 |_=>.bad 61
def a6 (n:Nat):bx:=.dv fun _=>.bad n
end
noncomputable section
def nf:Value->V
 |.bool b=>.bool b
 |.int k n=>.int k n
 |.string s=>.str s.data.toList
 |.pointer none=>.no .ptr
 |.slice none 0 0=>.no .sl
 |.map none=>.no .map
 |.func (.func f) ⟨[]⟩ ⟨[]⟩=>.fn f []
 |.nilFunc=>.no .fn
 |.nilIface=>.no .iface
 |_=>.no .bot
def dd:Value->V
 |.agg cs=>.agg (cs.toList.map nf)
 |v=>nf v
def pa (n:Nat):Pa:=Pa.of (n+1) n
def cO:Operand->Od
 |.tmp t=>.t (pa t)
 |.const v=>.c (dd v)
 |.global _=>.c (.no .bot)
 |.func f=>.c (.fn f [])
section
variable(P:Program) (nt:Nat)
def hF (t:TypeId):Option V:=
 match P.info? t with
 |some i=>i.zero.map dd
 |none=>none
def fb (t:TypeId):Option Nat:=(P.info? t).map (·.size)
def hV (t:TypeId):Option (Option Nat):=
 match P.info? t with
 |some i=>match P.underlying t with
  |some (.struct _)=>some (some i.size)
  |some (.array _ _)=>some (some i.size)
  |some _=>some none
  |none=>none
 |none=>none
def kv (t:TypeId):Option hE:=
 match P.underlying t with
 |some .bool=>some .b
 |some (.int _)=>some .i
 |some .string=>some .s
 |_=>none
def jZ:List Field->Option (List (Nat×hE))
 |[]=>some []
 |f::fs=>match jZ fs with
  |some l=>if f.name≠ "_" then(match kv P f.type with|some q=>some ((f.offset,q)::l)|none=>none)else some l
  |none=>none
def a7 (t:TypeId):cy:=
 match P.underlying t with
 |some .bool=>.flat .b
 |some (.int _)=>.flat .i
 |some .string=>.flat .s
 |some (.pointer _)=>.ptr
 |some (.interface _)=>.iface
 |some (.slice _)=>.slice
 |some (.func _ _ _)=>.func
 |some (.map _ _)=>.map
 |some (.struct fs)=>match jZ P fs.toList with
  |some l=>bif P.stoodInHeld t||P.eqGuardType P.depth t then .no else .agg l
  |none=>.no
 |_=>.no
def hW (place:Nat->Option (Nat×Nat)):List (Nat×Operand)->Option (List (Nat×Nat×Od))
 |[]=>some []
 |(i,x)::r=>match place i with
  |some (I,n)=>match hW place r with
   |some l=>some ((I,n,cO x)::l)
   |none=>none
  |none=>none
def lh (s d:TypeId) (x:Od):bx:=
 match P.underlying d with
 |some (.int k)=>match P.underlying s with
  |some (.int _)=>cH k x
  |_=>a6 6
 |some .string=>match P.underlying s with
  |some .string=>C6 x
  |some (.slice e)=>match P.underlying e with
   |some (.int .u8)=>dk x
   |_=>a6 6
  |_=>a6 6
 |some (.slice e)=>match P.underlying s with
  |some .string=>match P.underlying e with
   |some (.int .u8)=>fN x
   |_=>a6 6
  |some (.slice _)=>bif Nat.beq s d then match P.underlying e with
   |some (.int .u8)=>C7 x
   |_=>a6 6 else a6 6
  |_=>a6 6
 |_=>a6 6
def elemOf? (t:TypeId):Option TypeInfo:=
 match P.underlying t with
 |some (.slice e)=>P.info? e
 |_=>none
def kx (b:Builtin) (args:List Od) (types:Array TypeId):bx:=
 match b with
 |.len=>match args with
  |[x]=>match(types[0]?).bind P.underlying with
   |some (.slice _)=>cl x
   |some .string=>b4 x
   |_=>a6 20
  |_=>a6 20
 |.cap=>match args with
  |[x]=>match(types[0]?).bind P.underlying with
   |some (.slice _)=>Db x
   |_=>a6 20
  |_=>a6 20
 |.append=>match args with
  |[s,x]=>match(types[0]?).bind (elemOf? P)with
   |some i=>match(types[1]?).bind P.underlying with
    |some (.int _)=>match i.zero with
     |some z=>if i.bytes<=65536/\0<i.bytes/\0<i.size/\(dd z).cells.length=i.size then uo i.size (dd z).cells s x else a6 19
     |none=>a6 19
    |some _=>match i.zero with
     |some z=>if i.bytes<=65536/\0<i.size/\(dd z).cells.length=i.size then qv i.size s x else a6 19
     |none=>a6 19
    |none=>a6 19
   |none=>a6 19
  |_=>a6 19
 |.copy=>match args with
  |[d,s]=>match(types[0]?).bind (elemOf? P)with
   |some i=>qx i.size d s
   |none=>a6 19
  |_=>a6 19
 |.min=>match args with
  |x::r=>iJ false x r
  |[]=>a6 20
 |.max=>match args with
  |x::r=>iJ true x r
  |[]=>a6 20
 |.clear=>match args with
  |[x]=>match(types[0]?).bind (elemOf? P)with
   |some i=>match i.zero with
    |some z=>uq (dd z).cells x
    |none=>a6 19
   |none=>a6 19
  |_=>a6 19
 |.recover=>qy
 |.panic=>match args with
  |[x]=>po x
  |_=>a6 20
 |_=>a6 20
def c6:cy->Bool
 |.flat _=>true
 |.agg _=>true
 |_=>false
def eo:Operand->Bool
 |.const _=>true
 |_=>false
def cm:Op->bx
 |.move x=>lb (cO x)
 |.assign x=>lb (cO x)
 |.pick c a b=>cU (cO c) (cO a) (cO b)
 |.alloc e=>match hF P e with
  |some z=>av z.cells
  |none=>a6 1
 |.box _ x=>r1 (cO x)
 |.build t ps=>
  match P.underlying t with
  |some (.struct fs)=>match(bif fs.toList.all (fun f=>(fb P f.type).isSome)then hF P t else none)with
   |some z=>match hW (fun i=>(fs[i]?).bind fun f=>(fb P f.type).map fun n=>(f.offset,n)) ps.toList with
    |some l=>aO z.cells l
    |none=>a6 2
   |none=>a6 2
  |some (.array _ e)=>match hF P t with
   |some z=>match fb P e with
    |some n=>match hW (fun i=>some (i*n,n)) ps.toList with
     |some l=>aO z.cells l
     |none=>a6 2
    |none=>a6 2
   |none=>a6 2
  |_=>a6 2
 |.buildSlice t len ps=>match elemOf? P t with
  |some i=>match i.zero with
   |some z=>if len*i.size<=16777216/\(dd z).cells.length=i.size then match hW (fun j=>some (j*i.size,i.size)) ps.toList with
    |some l=>aH (c5 (dd z).cells len) len l
    |none=>a6 3 else a6 3
   |none=>a6 3
  |none=>a6 3
 |.load t a=>match hV P t with
  |some n=>b2 n (cO a)
  |none=>a6 4
 |.store t a x=>match fb P t with
  |some n=>fa n (cO a) (cO x)
  |none=>a6 5
 |.nilCheck x=>gP (cO x)
 |.binOp op t x y _=>match a7 P t with
  |.iface=>bif eo x||eo y then bc op .iface (cO x) (cO y)else a6 24
  |q=>bc op q (cO x) (cO y)
 |.unOp op _ x=>dj op (cO x)
 |.convert s d x=>lh P s d (cO x)
 |.makeInterface t x=>match P.underlying t with
  |some (.interface _)=>a6 7
  |some _=>qt t (cO x)
  |none=>a6 7
 |.makeFunc (.func f) first a2=>if first.size=0 then lf f (a2.toList.map cO)else a6 8
 |.makeMap _ none=>um
 |.makeSlice t l c=>match elemOf? P t with
  |some i=>match i.zero with
   |some z=>if(dd z).cells.length=i.size then hT (dd z).cells i.bytes (cO l) (cO c)else a6 9
   |none=>a6 9
  |none=>a6 9
 |.slice t x lo hi mx=>match P.underlying t with
  |some (.array n e)=>match mx with
   |none=>match fb P e with
    |some s=>C8 n s (cO x) (lo.map cO) (hi.map cO)
    |none=>a6 10
   |some _=>a6 10
  |some .string=>match mx with
   |none=>ma (cO x) (lo.map cO) (hi.map cO)
   |some _=>a6 10
  |some (.slice e)=>match fb P e with
   |some s=>bif mx.isSome&&hi.isNone then a6 10 else dO s (cO x) (lo.map cO) (hi.map cO) (mx.map cO)
   |none=>a6 10
  |_=>a6 10
 |.fieldAddr t x f=>match P.underlying t with
  |some (.struct fs)=>match fs[f]? with
   |some g=>match fb P g.type with
    |some (_+1)=>lg g.offset (cO x)
    |_=>a6 11
   |none=>a6 11
  |_=>a6 11
 |.field t x f=>match P.underlying t with
  |some (.struct fs)=>match fs[f]? with
   |some g=>match hV P g.type with
    |some n=>C9 g.offset n (cO x)
    |none=>a6 12
   |none=>a6 12
  |_=>a6 12
 |.indexAddr t x i=>match P.underlying t with
  |some (.array n e)=>match fb P e with
   |some s=>bs (some n) s (cO x) (cO i)
   |none=>a6 13
  |some (.slice e)=>match fb P e with
   |some s=>bs none s (cO x) (cO i)
   |none=>a6 13
  |_=>a6 13
 |.index t x i=>match P.underlying t with
  |some .string=>gi (cO x) (cO i)
  |some (.array len e)=>match fb P e with
   |some s=>match hV P e with
    |some sh=>Da len s sh (cO x) (cO i)
    |none=>a6 14
   |none=>a6 14
  |_=>a6 14
 |.lookup t x i ok=>match P.underlying t with
  |some (.map k e)=>match hF P e with
   |some z=>bif c6 (a7 P k)then qu (a7 P k) z (cO x) (cO i) ok else a6 15
   |none=>a6 15
  |_=>a6 15
 |.mapUpdate t m k x=>match P.underlying t with
  |some (.map h _)=>bif c6 (a7 P h)then ur (a7 P h) (cO m) (cO k) (cO x)else a6 16
  |_=>a6 16
 |.mapEntry t m k=>match P.underlying t with
  |some (.map h e)=>match hF P e with
   |some z=>bif c6 (a7 P h)then Dc (a7 P h) z (cO m) (cO k)else a6 17
   |none=>a6 17
  |_=>a6 17
 |.entryStore _ m s x=>Dd (cO m) (cO s) (cO x)
 |.typeAssert x _ t ok=>match P.underlying t with
  |some (.interface _)=>a6 18
  |some _=>match hF P t with
   |some z=>uh t z (cO x) ok
   |none=>a6 18
  |none=>a6 18
 |.extract x i=>ui (cO x) i
 |.call c=>match c.callee with
  |.builtin b=>kx P b (c.args.toList.map cO) c.argTypes
  |.value f=>match f with
   |.func g=>aI g (c.args.toList.map cO)
   |f=>n3 (cO f) (c.args.toList.map cO)
  |_=>a6 21
 |.defer c=>match c.callee with
  |.value f=>pn (cO f) (c.args.toList.map cO)
  |_=>a6 21
 |.panic x=>po (cO x)
 |_=>a6 21
def nh (ops:Array Oper) (j:Nat):Option Nat:=(ops[j]?).bind (·.dst)
def pq (I:Oper):Bool:=
 match I.dst with
 |none=>true
 |some d=>Nat.blt d nt
def eW (ops:Array Oper) (I:Oper):RO ak:=
 match I.guard with
 |none=>{dst:=I.dst.map pa,l7:=bif pq nt I then cm P I.op else a6 23,guard:=none}
 |some (j,w)=>match nh ops j with
  |some d=>bif pq nt I then{dst:=I.dst.map pa,l7:=cm P I.op,guard:=some (pa d,w)}else{dst:=none,l7:=a6 23,guard:=none}
  |none=>{dst:=none,l7:=a6 22,guard:=none}
def hX:Op->Bool
 |.load ..|.lookup ..|.alloc _|.box ..|.buildSlice ..|.makeMap ..|.makeSlice ..|.convert ..|.slice ..=>true
 |_=>false
def n4:Operand->Option Nat
 |.tmp t=>some t
 |_=>none
def dP (ops:Array Oper) (I:Oper):List Nat:=
 match I.guard with
 |none=>I.op.operands.toList.filterMap n4
 |some (g,_)=>match nh ops g with
  |some d=>d::I.op.operands.toList.filterMap n4
  |none=>I.op.operands.toList.filterMap n4
def n5 (l:List Nat) (t:Nat):Bool:=l.any fun u=>Nat.beq u t
def uu (s:Nat) (e:Edge):Nat:=bif Region.binds .any e then Nat.lor s (2^e.on)else s
def pr (I:Oper):Nat:=I.after.toList.foldl uu 0
def uv (d:List Nat) (s:Nat) (e:Edge):Nat:=bif Region.binds .any e then Nat.lor s (Nat.lor (2^e.on) (d.getD e.on 0))else s
def ni (d:List Nat) (I:Oper):Nat:=I.after.toList.foldl (uv d) 0
structure b8 where
 i:Nat
 I:Oper
 pred:Nat
 gk:Nat
 dY:Bool
def j0 (ops:Array Oper) (I:Oper):Bool:=
 match I.op with
 |.assign _=>false
 |_=>match(eW P nt ops I).l7 with
  |.pu _=>match I.dst with
   |some _=>true
   |none=>false
  |.cY _=>match I.dst with
   |some _=>true
   |none=>false
  |.st _=>false
  |.dv _=>false
def dZ (ops:Array Oper):List Oper->Nat->List Nat->List b8
 |[],_,_=>[]
 |I::r,i,d=>⟨i,I,pr I,ni d I,!(j0 P nt ops I)⟩::dZ ops r (i+1) (d++[ni d I])
def iL (p:b8->Bool):List b8->Option (b8×List b8)
 |[]=>none
 |d::r=>bif p d then some (d,r)else match iL p r with
  |some (x,h)=>some (x,d::h)
  |none=>none
def lj (done:Nat) (d:b8):Bool:=Nat.beq (Nat.land d.pred done) d.pred
def xv (I:Oper) (t:Nat):Bool:=
 match I.dst with
 |some d=>Nat.beq d t
 |none=>false
def n9 (ops:Array Oper) (x:b8):List b8->List (RS ak)
 |[]=>[]
 |y::r=>bif y.dY then n9 ops x r else bif Nat.testBit x.gk y.i then n9 ops x r else
  bif hX y.I.op||(match x.I.dst with|some d=>n5 (dP ops y.I) d|none=>false)then .bX (eW P nt ops y.I)::n9 ops x r else n9 ops x r
def ll (ops:Array Oper):Nat->Nat->List b8->List b8->List (RS ak)
 |0,_,_,_=>[]
 |f+1,done,ci,rem=>
  match iL (fun d=>!d.dY&&lj done d) rem with
  |some (d,h)=>.op (eW P nt ops d.I)::ll ops f (Nat.lor done (2^d.i)) (d::ci) h
  |none=>match iL (lj done) rem with
   |some (d,h)=>bif h.any (lj done)then[.op {dst:=none,l7:=a6 26,guard:=none}]else
     .op (eW P nt ops d.I)::(n9 P nt ops d ci++ll ops f (Nat.lor done (2^d.i)) (d::ci) h)
   |none=>[]
def xw (ops:Array Oper) (x y:b8):Bool:=
 match x.I.dst with
 |none=>true
 |some d=>!(xv y.I d)&&(x.dY||!(n5 (dP ops y.I) d)||Nat.testBit y.gk x.i)
def xx (ops:Array Oper) (x:b8):Bool:=
 match x.I.dst with
 |none=>true
 |some d=>x.dY||!(n5 (dP ops x.I) d)
def xy (x:b8):Bool:=x.I.after.toList.all fun e=>!(Region.binds .any e)||Nat.blt e.on x.i
def pt (ops:Array Oper) (l:List b8):Bool:=
 l.all fun x=>xy x&&(xx ops x&&l.all fun y=>Nat.beq x.i y.i||xw ops x y)
def qz (bZ:List Nat) (l:List b8):Bool:=l.all fun x=>x.dY||(match x.I.dst with|some d=>!(n5 bZ d)|none=>true)
def drawn (bZ:List Nat) (ops:Array Oper) (l:List b8):IC ak:=bif P.follows .mixedOrders&&(pt ops l&&qz bZ l)then .region (ll P nt ops ops.size 0 [] l)else .bad
def cn (bZ:List Nat):Code->IC ak
 |.skip=>.skip
 |.region _ ops draw=>bif draw then drawn P nt bZ ops (dZ P nt ops ops.toList 0 [])else .region (ops.toList.map fun I=>.op (eW P nt ops I))
 |.seq a b=>.seq (cn bZ a) (cn bZ b)
 |.cond c a b=>.cond (cO c) (cn bZ a) (cn bZ b)
 |.block id b=>.block id (cn bZ b)
 |.loop b=>.loop (cn bZ b)
 |.rangeFunc f ps a b=>bif ps.toList.all (fun t=>Nat.blt t nt)then .rangeFunc (cO f) (ps.toList.map pa) (cn bZ a) (cn bZ b)else .bad
 |.exit id=>.exit id
 |.ret=>.ret
 |.label _=>.skip
 |.scope _=>.bad
 |.goto _=>.bad
 |.refuse _=>.bad
def slotsOf:List ResultVar->List Nat
 |[]=>[]
 |.tmp t::r=>t::slotsOf r
 |.cell a _::r=>a::slotsOf r
def qA (fn:Func):List Nat:=slotsOf fn.results.toList
def bT (f:Nat):List Nat:=
 match P.funcs[f]? with
 |some fn=>qA fn
 |none=>[]
def j1:List ResultVar->Option (List (Pa×Option (Option Nat)))
 |[]=>some []
 |.tmp t::r=>match j1 r with
  |some l=>some ((pa t,none)::l)
  |none=>none
 |.cell a t::r=>match hV P t with
  |some n=>match j1 r with
   |some l=>some ((pa a,some n)::l)
   |none=>none
  |none=>none
structure fO where
 body:IC ak
 nt:Nat
 res:List (Pa×Option (Option Nat))
inductive aP where
 |code (f:fO)
 |cA (g:List V->Hp->Option (V×Hp))
def ea (f:Nat):Option fO:=
 match P.funcs[f]? with
 |some fn=>match fn.body with
  |some c=>match j1 P fn.results.toList with
   |some res=>some {body:=cn P fn.ntmps (qA fn) c,nt:=fn.ntmps,res}
   |none=>none
  |none=>none
 |none=>none
end
end
noncomputable section
inductive Item where
 |code (c:IC ak)
 |inBlock (id:Nat)
 |inLoop (b:IC ak)
 |cI (rs:List (RS ak))
 |gQ (l:Pa)
 |j2 (l:Pa)
 |begin
inductive Mode where
 |run
 |returning
 |panicking (v:V) (recovered:Bool)
structure FK where
 fn:Nat
 nt:Nat
 deferred:Bool
 round:Option Pa
structure Fr where
 k:FK
 env:T V
 todo:List Item
 defers:List Def
 mode:Mode
structure LE where
 id:Pa
 assign:IC ak
 body:IC ak
inductive Nx where
 |go (fr:Fr) (cs:List Fr) (h:Hp) (ls:List LE)
 |done (v:V) (h:Hp)
 |bad (n:Nat) (fn:Nat)
def eX (l:Pa):List LE->Option LE
 |[]=>none
 |x::r=>bif x.id.beq l then some x else eX l r
def T.put (e:T V) (v:V):Option Pa->T V
 |none=>e
 |some d=>e.set v d
def fP:List V->Pa->T V->T V
 |[],_,e=>e
 |v::r,i,e=>fP r i.succ (e.set v i)
def me:List Pa->List V->T V->Option (T V)
 |[],vs,e=>match vs with|[]=>some e|_::_=>none
 |p::ps,vs,e=>match vs with
  |v::vs=>me ps vs (e.set v p)
  |[]=>none
def enter (fn:fO) (f:Nat) (args:List V) (deferred:Bool):Fr:=
 ⟨⟨f,fn.nt,deferred,none⟩,fP args .z .E,[.code fn.body],[],.run⟩
def exitTo (id:Nat):List Item->Option (List Item)
 |[]=>none
 |i::k=>match i with
  |.inBlock j=>bif Nat.beq j id then some k else exitTo id k
  |_=>exitTo id k
inductive W3 where
 |yes|no|bad
def eb (e:T V):Option (Pa×Bool)->W3
 |none=>.yes
 |some (d,w)=>match e.get d with
  |some v=>match v with
   |.bool b=>bif pf b w then .yes else .no
   |.aN _=>.no
   |_=>.bad
  |none=>.bad
def hY (e:T V) (h:Hp):List (Pa×Option (Option Nat))->Option (List V)
 |[]=>some []
 |(t,c)::r=>match(match c with|none=>some (e.val t)|some n=>eE h n (e.val t))with
  |some v=>match hY e h r with
   |some l=>some (v::l)
   |none=>none
  |none=>none
def oneOf (l:List V):V:=
 match l with
 |[]=>.aN []
 |v::r=>match r with
  |[]=>v
  |_::_=>.aN l
def uw:fM->fM->Bool
 |.ex a,.ex b=>Nat.beq a b
 |.un a,.un b=>Nat.beq a b
 |_,_=>false
def ux:NK->NK->Bool
 |.ptr,.ptr=>true
 |.sl,.sl=>true
 |.map,.map=>true
 |.fn,.fn=>true
 |.iface,.iface=>true
 |_,_=>false
def c7:V->V->Bool
 |.int k a,y=>match y with|.int k' b=>cr k k'&&gh a b|_=>false
 |.bool a,y=>match y with|.bool b=>pf a b|_=>false
 |.str a,y=>match y with|.str b=>jW a b|_=>false
 |.ptr a I,y=>match y with|.ptr b p=>a.beq b&&Nat.beq I p|_=>false
 |.sl a I n c,y=>match y with|.sl b p m d=>(a.beq b&&Nat.beq I p)&&(Nat.beq n m&&uw c d)|_=>false
 |.map a,y=>match y with|.map b=>a.beq b|_=>false
 |.no k,y=>match y with|.no j=>ux k j|_=>false
 |_,_=>false
def b9:List V->List V->Bool
 |[],m=>match m with|[]=>true|_::_=>false
 |a::l,m=>match m with|b::m=>bif c7 a b then b9 l m else false|[]=>false
def same:V->V->Bool
 |.agg a,y=>match y with|.agg b=>b9 a b|_=>false
 |.aN a,y=>match y with|.aN b=>b9 a b|_=>false
 |a,b=>c7 a b
def ln:V->Option Pa
 |.ptr a _=>some a
 |.sl a _ _ _=>some a
 |.map a=>some a
 |_=>none
def uy:ak->ak->Bool
 |.cells l d,y=>match y with|.cells m d'=>bif d||d' then false else b9 l m|_=>false
 |.map es c,y=>match y with
  |.map fs k=>bif Nat.beq c k then match es with
   |[]=>match fs with
    |[]=>true
    |_::_=>false
   |_::_=>false else false
  |_=>false
 |_,_=>false
def iM (e:T V) (h:Hp) (I:RO ak):Bool:=
 match eb e I.guard with
 |.no=>match I.dst with
  |none=>false
  |some d=>match e.get d with
   |some (.aN [])=>true
   |_=>false
 |.bad=>false
 |.yes=>match I.dst with
  |none=>false
  |some d=>match e.get d with
   |none=>false
   |some v=>match I.l7 with
    |.pu f=>match f e h with
     |some w=>same v w
     |none=>false
    |.cY f=>match f e with
     |some (b,mk)=>match ln v with
      |some a=>match h.get a with
       |some b'=>bif same v (mk a)then uy b b' else false
       |none=>false
      |none=>false
     |none=>false
    |.st _=>false
    |.dv _=>false
inductive OR where
 |fin (e:T V) (h:Hp)
 |nj (c:iI) (I:RO ak) (rs:List (RS ak)) (e:T V) (h:Hp)
 |bad (n:Nat)
def fq (rs:List (RS ak)):T V->Hp->OR:=
 List.rec (motive:=fun _=>T V->Hp->OR) (fun e h=>.fin e h)
  (fun s rs d e h=>RS.rec (motive:=fun _=>OR)
    (fun I=>W3.rec (motive:=fun _=>OR)
      (Sm.rec (motive:=fun _=>OR)
        (fun f=>Option.rec (motive:=fun _=>OR) (.bad 70) (fun v=>d (e.put v I.dst) h) (f e h))
        (fun f=>Option.rec (motive:=fun _=>OR) (.bad 71) (fun p=>d (e.put (p.2 h.next) I.dst) (h.alloc p.1)) (f e))
        (fun f=>Option.rec (motive:=fun _=>OR) (.bad 72) (fun p=>d (e.put p.1 I.dst) p.2) (f e h))
        (fun f=>.nj (f e) I rs e h) I.l7)
      (d (e.put cV I.dst) h) (.bad 87) (eb e I.guard))
    (fun I=>Bool.rec (motive:=fun _=>OR) (.bad 92) (d e h) (iM e h I)) s) rs
section
variable(F:Nat->Option aP)
def finish (c:Fr) (v:V) (cs:List Fr) (h:Hp) (ls:List LE):Nx:=
 match c.mode with
 |.run=>match c.todo with
  |[]=>.bad 89 c.k.fn
  |i::k=>match i with
   |.cI rs=>match rs with
    |[]=>.bad 89 c.k.fn
    |s::rs=>match s with
     |.op I=>.go ⟨c.k,c.env.put v I.dst,.cI rs::k,c.defers,.run⟩ cs h ls
     |.bX _=>.bad 89 c.k.fn
   |.gQ l=>.go ⟨c.k,c.env,.j2 l::k,c.defers,.run⟩ cs h ls
   |_=>.bad 89 c.k.fn
 |_=>.bad 89 c.k.fn
def jx (fr:Fr) (cs:List Fr) (h:Hp) (ls:List LE) (f:Nat) (args:List V):Nx:=
 match F f with
 |some x=>match x with
  |.code fn=>.go (enter fn f args false) (fr::cs) h ls
  |.cA g=>match g args h with
   |some p=>finish fr p.1 cs p.2 ls
   |none=>.bad 79 f
 |none=>.bad 80 f
def oa (fr:Fr) (cs:List Fr) (h:Hp) (ls:List LE) (l:Pa) (args:List V):Nx:=
 match h.get l with
 |some b=>match b with
  |.loop r=>match me r.params args r.env with
   |some e=>match eX l ls with
    |some x=>.go ⟨⟨r.fn,r.nt,false,some l⟩,e,[.code x.assign,.begin,.code x.body],[],.run⟩ (fr::cs) h ls
    |none=>.bad 81 r.fn
   |none=>.bad 81 r.fn
  |_=>.bad 82 0
 |none=>.bad 82 0
def nk (K:FK) (e:T V) (I:RO ak) (rs:List (RS ak)) (k:List Item) (ds:List Def) (cs:List Fr) (h:Hp) (ls:List LE):iI->Nx
 |.call f args=>jx F ⟨K,e,.cI (.op I::rs)::k,ds,.run⟩ cs h ls f args
 |.yield l args=>oa ⟨K,e,.cI (.op I::rs)::k,ds,.run⟩ cs h ls l args
 |.defer d=>match K.round with
  |none=>.go ⟨K,e.put cV I.dst,.cI rs::k,d::ds,.run⟩ cs h ls
  |some _=>.bad 84 K.fn
 |.recover=>match cs with
  |[]=>.bad 85 K.fn
  |c::cs'=>bif K.deferred then match K.round with
   |some _=>.bad 85 K.fn
   |none=>match c.mode with
    |.panicking v r=>bif r then .go ⟨K,e.put (.no .iface) I.dst,.cI rs::k,ds,.run⟩ cs h ls
      else .go ⟨K,e.put v I.dst,.cI rs::k,ds,.run⟩ (⟨c.k,c.env,c.todo,c.defers,.panicking v true⟩::cs') h ls
    |_=>.go ⟨K,e.put (.no .iface) I.dst,.cI rs::k,ds,.run⟩ cs h ls
   else .bad 85 K.fn
 |.panic v=>.go ⟨K,e,.cI (.op I::rs)::k,ds,.panicking v false⟩ cs h ls
 |.bad n=>.bad n K.fn
def doReturn (K:FK) (cs:List Fr) (h:Hp) (ls:List LE) (v:V):Nx:=
 match cs with
 |[]=>match K.round with
  |some _=>.bad 88 K.fn
  |none=>bif K.deferred then .bad 88 K.fn else .done v h
 |c::cs'=>
  bif K.deferred then
   match c.mode with
   |.panicking _ r=>bif r then .go ⟨c.k,c.env,c.todo,c.defers,.returning⟩ cs' h ls else .go c cs' h ls
   |.returning=>.go c cs' h ls
   |.run=>.bad 88 K.fn
  else finish c v cs' h ls
def nl (fr:Fr) (cs:List Fr) (h:Hp) (ls:List LE) (j:Option k6):Nx:=
 match fr.k.round with
 |none=>match j with
  |none=>.go ⟨fr.k,fr.env,fr.todo,fr.defers,.returning⟩ cs h ls
  |some j=>match j with
   |.ret=>.go ⟨fr.k,fr.env,fr.todo,fr.defers,.returning⟩ cs h ls
   |.exit _=>.bad 90 fr.k.fn
 |some l=>match h.get l with
  |some b=>match b with
   |.loop r=>match fr.defers with
    |[]=>doReturn fr.k cs (h.put l (.loop {r with state:=match j with|none=>.ready|some _=>.done,pending:=j})) ls (.bool (match j with|none=>true|some _=>false))
    |_::_=>.bad 91 fr.k.fn
   |_=>.bad 91 fr.k.fn
  |none=>.bad 91 fr.k.fn
def r2:Option k6->List Item
 |none=>[]
 |some j=>match j with
  |.ret=>[.code .ret]
  |.exit id=>[.code (.exit id)]
def eF:IC ak->List Item->List Item
 |.skip,k=>k
 |.seq a b,k=>eF a (.code b::k)
 |.region rs,k=>.cI rs::k
 |c,k=>.code c::k
def hZ (K:FK) (e:T V) (k:List Item) (ds:List Def) (cs:List Fr) (h:Hp) (ls:List LE):IC ak->Nx
 |.skip=>.go ⟨K,e,k,ds,.run⟩ cs h ls
 |.region rs=>.go ⟨K,e,.cI rs::k,ds,.run⟩ cs h ls
 |.seq a b=>.go ⟨K,e,eF a (.code b::k),ds,.run⟩ cs h ls
 |.cond c a b=>match c.ev e with
  |.bool t=>.go ⟨K,e,eF (bif t then a else b) k,ds,.run⟩ cs h ls
  |_=>.bad 97 K.fn
 |.block id b=>.go ⟨K,e,eF b (.inBlock id::k),ds,.run⟩ cs h ls
 |.loop b=>.go ⟨K,e,eF b (.inLoop b::k),ds,.run⟩ cs h ls
 |.rangeFunc f ps a b=>match K.round with
  |some _=>.bad 98 K.fn
  |none=>match f.ev e with
   |.fn g a2=>match F g with
    |some (.code fn)=>.go (enter fn g (.fp h.next.succ::a2) false) (⟨K,e,.gQ h.next.succ::k,.mark h.next::ds,.run⟩::cs)
      ((h.alloc (.c4 true)).alloc (.loop {state:=.ready,pending:=none,fn:=K.fn,nt:=K.nt,env:=e,params:=ps})) (⟨h.next.succ,a,b⟩::ls)
    |_=>.bad 80 g
   |_=>.bad 98 K.fn
 |.exit id=>match exitTo id k with
  |some k'=>.go ⟨K,e,k',ds,.run⟩ cs h ls
  |none=>nl ⟨K,e,k,ds,.run⟩ cs h ls (some (.exit id))
 |.ret=>nl ⟨K,e,k,ds,.run⟩ cs h ls (some .ret)
 |.bad=>.bad 99 K.fn
def hG (K:FK) (e:T V) (k:List Item) (ds:List Def) (cs:List Fr) (h:Hp) (ls:List LE):Item->Nx
 |.cI rs=>match fq rs e h with
  |.fin e h=>.go ⟨K,e,k,ds,.run⟩ cs h ls
  |.nj c I rs e h=>nk F K e I rs k ds cs h ls c
  |.bad n=>.bad n K.fn
 |.code c=>hZ F K e k ds cs h ls c
 |.inBlock _=>.go ⟨K,e,k,ds,.run⟩ cs h ls
 |.inLoop b=>.go ⟨K,e,eF b (.inLoop b::k),ds,.run⟩ cs h ls
 |.gQ _=>.bad 93 K.fn
 |.j2 l=>match h.get l with
  |some b=>match b with
   |.loop r=>match r.state with
    |.busy=>.bad 94 K.fn
    |_=>.go ⟨K,e,r2 r.pending++k,ds,.run⟩ cs (h.put l (.loop {r with state:=.exhausted})) ls
   |_=>.bad 95 K.fn
  |none=>.bad 95 K.fn
 |.begin=>match K.round with
  |some l=>match h.get l with
   |some b=>match b with
    |.loop r=>match r.state with
     |.ready=>.go ⟨K,e,k,ds,.run⟩ cs (h.put l (.loop {r with state:=.busy})) ls
     |_=>.bad 96 K.fn
    |_=>.bad 96 K.fn
   |none=>.bad 96 K.fn
  |none=>.bad 96 K.fn
def unwind (fr:Fr) (cs:List Fr) (h:Hp) (ls:List LE):Nx:=
 match fr.defers with
 |d::ds=>match d with
  |.mark a=>match h.get a with
   |some b=>match b with
    |.c4 l=>bif l then .go ⟨fr.k,fr.env,fr.todo,ds,fr.mode⟩ cs (h.put a (.c4 false)) ls else .bad 206 fr.k.fn
    |_=>.bad 206 fr.k.fn
   |none=>.bad 206 fr.k.fn
  |.call f args=>match F f with
   |some (.code fn)=>.go (enter fn f args true) (⟨fr.k,fr.env,fr.todo,ds,fr.mode⟩::cs) h ls
   |_=>.bad 80 f
 |[]=>match fr.mode with
  |.returning=>match F fr.k.fn with
   |some (.code fn)=>match hY fr.env h fn.res with
    |some l=>doReturn fr.k cs h ls (oneOf l)
    |none=>.bad 200 fr.k.fn
   |_=>.bad 201 fr.k.fn
  |.panicking v r=>bif r then .bad 202 fr.k.fn else match F fr.k.fn with
   |some _=>match cs with
    |c::cs'=>match c.mode with
     |.run=>.go ⟨c.k,c.env,c.todo,c.defers,.panicking v false⟩ cs' h ls
     |_=>.bad 203 fr.k.fn
    |[]=>.bad 204 fr.k.fn
   |none=>.bad 207 fr.k.fn
  |.run=>.bad 205 fr.k.fn
def step (fr:Fr) (cs:List Fr) (h:Hp) (ls:List LE):Nx:=
 match fr with
 |⟨K,e,todo,ds,m⟩=>match m with
  |.run=>match todo with
   |[]=>nl ⟨K,e,[],ds,.run⟩ cs h ls none
   |i::k=>hG F K e k ds cs h ls i
  |m=>unwind F ⟨K,e,todo,ds,m⟩ cs h ls
def again (d:Fr->List Fr->Hp->List LE->Nx) (fr:Fr) (cs:List Fr) (h:Hp) (ls:List LE):Nx:=d fr cs h ls
def run (n:Nat):Fr->List Fr->Hp->List LE->Nx:=
 Nat.rec (motive:=fun _=>Fr->List Fr->Hp->List LE->Nx) (fun fr cs h ls=>.go fr cs h ls)
  (fun _ d fr cs h ls=>Nx.rec (motive:=fun _=>Nx) (fun fr cs h ls=>again d fr cs h ls) (fun v h=>.done v h) (fun a b=>.bad a b) (step F fr cs h ls)) n
end
def hI:Hp:=⟨.z,.E⟩
def nn (l:List UInt8):Nat->List UInt8
 |0=>[]
 |n+1=>l++nn l n
def gR (args:List V) (h:Hp):Option (V×Hp):=
 match args with
 |[]=>none
 |a::r=>match a with
  |.str s=>match r with
   |[]=>none
   |b::r=>match r with
    |_::_=>none
    |[]=>match b with
     |.int k i=>match k with
      |.i64=>match i with
       |.ofNat n=>bif Nat.ble n 9223372036854775807 then bif Nat.ble (Nat.mul s.length n) 140737488355328 then some (.str (nn s n),h)else none else none
       |.negSucc _=>none
      |_=>none
     |_=>none
  |_=>none
def apart (s v:V):Bool:=
 match v with
 |.sl a _ _ _=>match s with
  |.sl b _ _ _=>!(a.beq b)
  |_=>true
 |_=>false
def np (P:Program) (l:List (Nat×(List V->Hp->Option (V×Hp)))) (i:Nat):Option aP:=
 match l with
 |[]=>(ea P i).map .code
 |p::r=>bif Nat.beq p.1 i then some (.cA p.2)else np P r i
end
theorem T.De {U:Type} (x:U) (p q:Pa):(T.one x p).get q=if p=q then some x else none:=by
 induction p generalizing q with
 |z=>cases q<;>simp[T.one,T.get]
 |l p d=>cases q with
  |z=>simp[T.one,T.get]
  |l q=>simpa[T.one,T.get]using d q
  |r q=>simp[T.one,T.get]
 |r p d=>cases q with
  |z=>simp[T.one,T.get]
  |l q=>simp[T.one,T.get]
  |r q=>simpa[T.one,T.get]using d q
theorem T.ft {U:Type} (x:U) (t:T U) (p q:Pa):(t.set x p).get q=if p=q then some x else t.get q:=by
 induction t generalizing p q with
 |E=>
  show(T.one x p).get q=_;rw[T.De];(try rfl)
 |N v l r d h=>
  cases p with
  |z=>cases q<;>simp[T.set,T.get]
  |l p=>cases q with
   |z=>simp[T.set,T.get]
   |l q=>simpa[T.set,T.get]using d p q
   |r q=>simp[T.set,T.get]
  |r p=>cases q with
   |z=>simp[T.set,T.get]
   |l q=>simp[T.set,T.get]
   |r q=>simpa[T.set,T.get]using h p q
theorem Pa.gm (p:Pa):p.succ.toNat=p.toNat+1:=by
 induction p with
 |z=>rfl
 |l p _=>simp[Pa.succ,Pa.toNat]
 |r p d=>simp[Pa.succ,Pa.toNat,d];omega
theorem Pa.toNat_inj {p q:Pa} (h:p.toNat=q.toNat):p=q:=by
 induction p generalizing q with
 |z=>cases q with
  |z=>rfl
  |l q=>simp[Pa.toNat]at h
  |r q=>simp[Pa.toNat]at h
 |l p d=>cases q with
  |z=>simp[Pa.toNat]at h
  |l q=>simp only[Pa.toNat]at h;have e:=d (q:=q) (by omega);rw[e]
  |r q=>simp only[Pa.toNat]at h;omega
 |r p d=>cases q with
  |z=>simp[Pa.toNat]at h
  |l q=>simp only[Pa.toNat]at h;omega
  |r q=>simp only[Pa.toNat]at h;have e:=d (q:=q) (by omega);rw[e]
theorem Pa.beq_iff (p q:Pa):p.beq q=true↔p=q:=by
 induction p generalizing q with
 |z=>cases q<;>simp[Pa.beq]
 |l p d=>cases q<;>simp[Pa.beq,d]
 |r p d=>cases q<;>simp[Pa.beq,d]
theorem Pa.Df (f k:Nat) (h:k<2^f):(Pa.of f k).toNat=k:=by
 induction f generalizing k with
 |zero=>simp at h;subst h;rfl
 |succ f d=>
  unfold Pa.of;by_cases h0:k=0
  ·simp[h0,Pa.toNat]
  ·by_cases o:k%2=1
   ·simp only[h0,o,if_true,if_false,Pa.toNat];rw[d _ (by omega)];omega
   ·simp only[h0,o,if_false,Pa.toNat];rw[d _ (by omega)];omega
theorem lp {U:Type} (l:List U) (n:Nat):nth l n=l[n]? :=by
 induction l generalizing n with
 |nil=>simp[nth]
 |cons a l d=>
  cases n with
  |zero=>simp[nth]
  |succ n=>
   show cond (Nat.beq (n+1) 0) (some a) (nth l (n+1-1))=_;rw[d];simp[Nat.beq]
theorem od {U:Type} {n:Nat} {l r:List U} (h:takeN n l=some r):n<=l.length/\r=l.take n:=by
 induction n generalizing l r with
 |zero=>simp[takeN]at h;simp[h]
 |succ n d=>
  cases l with
  |nil=>simp[takeN]at h
  |cons a l=>
   simp only[takeN]at h;split at h
   ·rename_i j hr;obtain⟨o,aj⟩:=d hr;simp at h;subst h;simp[aj];omega
   ·simp at h
theorem lq {U:Type} (n:Nat) (l:List U):k8 n l=l.drop n:=by
 induction n generalizing l with
 |zero=>simp[k8]
 |succ n d=>cases l<;>simp[k8,d]
theorem Dg {l xs r:List V} (h:over l xs=some r):xs.length<=l.length/\r=xs++l.drop xs.length:=by
 induction xs generalizing l r with
 |nil=>cases l<;>simp[over]at h<;>simp[h]
 |cons x xs d=>
  cases l with
  |nil=>simp[over]at h
  |cons a l=>
   simp only[over]at h;split at h
   ·rename_i j hr;obtain⟨o,aj⟩:=d hr;simp at h;subst h;simp[aj];omega
   ·simp at h
theorem qB {I:Nat} {l xs r:List V} (h:cT I l xs=some r):
 I+xs.length<=l.length/\r=l.take I++xs++l.drop (I+xs.length):=by
 induction I generalizing l r with
 |zero=>
  simp only[cT]at h;obtain⟨o,aj⟩:=Dg h;simp[o,aj]
 |succ I d=>
  cases l with
  |nil=>simp[cT]at h
  |cons a l=>
   simp only[cT]at h;split at h
   ·rename_i j hr;obtain⟨o,aj⟩:=d hr;simp at h;subst h;refine⟨by simp;omega,?_⟩;simp[aj,Nat.add_right_comm]
   ·simp at h
structure Loc where
 aw:Nat
 base:Nat
 top:Nat
 dm:Bool
abbrev AM:=Pa->Option Loc
def AM.le (U ac:AM):Prop:=∀a L,U a=some L->ac a=some L
theorem AM.le_refl (U:AM):U.le U:=fun _ _ h=>h
theorem AM.le_trans {U d j:AM} (h:U.le d) (k:d.le j):U.le j:=fun a L x=>k a L (h a L x)
def iN (L:Loc) (I capC:Nat):fM->Prop
 |.ex c=>capC=c
 |.un s=>L.base+I+capC*s=L.top/\(s=1\/L.dm=false)
mutual
inductive VR (U:AM):V->Value->Prop
 |bool (b:Bool):VR U (.bool b) (.bool b)
 |int (k:IntKind) (n:Int):VR U (.int k n) (.int k n)
 |str (s:ByteArray):VR U (.str s.data.toList) (.string s)
 |ptr (a:Pa) (I:Nat) (L:Loc) (h:U a=some L):VR U (.ptr a I) (.pointer (some ⟨L.aw,L.base+I,none⟩))
 |sl (a:Pa) (I n:Nat) (c:fM) (L:Loc) (capC:Nat) (h:U a=some L) (hn:n<=capC) (hc:iN L I capC c):
   VR U (.sl a I n c) (.slice (some ⟨L.aw,L.base+I,none⟩) n capC)
 |de (a:Pa) (I:Nat) (c:fM) (bV:Addr) (hc:c=.ex 0\/∃s L,c=.un s/\U a=some L/\L.base+I=L.top):VR U (.sl a I 0 c) (.slice (some bV) 0 0)
 |agg (l:List V) (cs:List Value) (h:bd U l cs):VR U (.agg l) (.agg ⟨cs⟩)
 |aN (l:List V) (cs:List Value) (h:bd U l cs):VR U (.aN l) (.tuple ⟨cs⟩)
 |xz:VR U (.no .ptr) (.pointer none)
 |pv:VR U (.no .sl) (.slice none 0 0)
 |xA:VR U (.no .map) (.map none)
 |xB:VR U (.no .fn) .nilFunc
 |r3:VR U (.no .iface) .nilIface
 |bot (c:Value):VR U (.no .bot) c
 |map (a:Pa) (L:Loc) (h:U a=some L):VR U (.map a) (.map (some L.aw))
 |fn (f:Nat) (a2:List V) (cs:List Value) (h:bd U a2 cs):VR U (.fn f a2) (.func (.func f) #[] ⟨cs⟩)
 |fp (l:Pa) (L:Loc) (h:U l=some L):VR U (.fp l) (.func (.yield L.aw) #[] #[])
 |iface (t:Nat) (v:V) (c:Value) (h:VR U v c):VR U (.iface t v) (.iface t c)
inductive bd (U:AM):List V->List Value->Prop
 |nil:bd U [] []
 |cons (v:V) (c:Value) (l:List V) (cs:List Value) (h:VR U v c) (hs:bd U l cs):bd U (v::l) (c::cs)
end
mutual
theorem VR.mono {U ac:AM} (d:U.le ac):∀{v:V} {c:Value},VR U v c->VR ac v c
 |_,_,.bool b=>.bool b
 |_,_,.int k n=>.int k n
 |_,_,.str s=>.str s
 |_,_,.ptr a I L h=>.ptr a I L (d a L h)
 |_,_,.sl a I n c L capC h hn hc=>.sl a I n c L capC (d a L h) hn hc
 |_,_,.de a I c bV hc=>.de a I c bV (hc.imp id fun⟨s,L,o,aj,j⟩=>⟨s,L,o,d a L aj,j⟩)
 |_,_,.agg l cs h=>.agg l cs (bd.mono d h)
 |_,_,.aN l cs h=>.aN l cs (bd.mono d h)
 |_,_,.xz=>.xz
 |_,_,.pv=>.pv
 |_,_,.xA=>.xA
 |_,_,.xB=>.xB
 |_,_,.r3=>.r3
 |_,_,.bot c=>.bot c
 |_,_,.map a L h=>.map a L (d a L h)
 |_,_,.fn f a2 cs h=>.fn f a2 cs (bd.mono d h)
 |_,_,.fp l L h=>.fp l L (d l L h)
 |_,_,.iface t v c h=>.iface t v c (VR.mono d h)
theorem bd.mono {U ac:AM} (d:U.le ac):∀{l:List V} {cs:List Value},bd U l cs->bd ac l cs
 |_,_,.nil=>.nil
 |_,_,.cons v c l cs h hs=>.cons v c l cs (VR.mono d h) (bd.mono d hs)
end
theorem r4 {U:AM} {a:Pa} {I k:Nat} (h:(fM.ex k)=.ex 0\/∃s L,(fM.ex k)=.un s/\U a=some L/\L.base+I=L.top):k=0:=by
 rcases h with h|⟨s,L,h,_⟩
 ·cases h;rfl
 ·cases h
theorem bd.length {U:AM} {l:List V} {cs:List Value} (h:bd U l cs):l.length=cs.length:=by
 induction l generalizing cs with
 |nil=>cases h;rfl
 |cons v l d=>cases h with|cons _ c _ cs h hs=>simp[d hs]
theorem bd.get {U:AM} {l:List V} {cs:List Value} (h:bd U l cs) {i:Nat} {v:V} (hv:l[i]? =some v):
 ∃c,cs[i]? =some c/\VR U v c:=by
 induction l generalizing cs i with
 |nil=>simp at hv
 |cons a l j=>cases h with
  |cons _ c _ cs h hs=>
   cases i with
   |zero=>simp at hv;subst hv;exact⟨c,by simp,h⟩
   |succ i=>simp at hv;obtain⟨d,o,aj⟩:=j hs hv;exact⟨d,by simpa using o,aj⟩
theorem bd.append {U:AM} {l m:List V} {cs ds:List Value} (h:bd U l cs) (k:bd U m ds):bd U (l++m) (cs++ds):=by
 induction l generalizing cs with
 |nil=>cases h;exact k
 |cons a l d=>cases h with|cons _ c _ cs h hs=>exact .cons _ _ _ _ h (d hs)
theorem bd.take {U:AM} {l:List V} {cs:List Value} (h:bd U l cs) (n:Nat):bd U (l.take n) (cs.take n):=by
 induction n generalizing l cs with
 |zero=>simp;exact .nil
 |succ n d=>cases h with
  |nil=>simp;exact .nil
  |cons v c l cs h hs=>simp;exact .cons _ _ _ _ h (d hs)
theorem bd.drop {U:AM} {l:List V} {cs:List Value} (h:bd U l cs) (n:Nat):bd U (l.drop n) (cs.drop n):=by
 induction n generalizing l cs with
 |zero=>simpa using h
 |succ n d=>cases h with
  |nil=>simp;exact .nil
  |cons v c l cs h hs=>simpa using d hs
theorem bd.xC {U:AM} {l:List V} {cs:List Value} (hl:l.length=cs.length)
 (h:∀(i:Nat) (v:V),l[i]? =some v->∃c,cs[i]? =some c/\VR U v c):bd U l cs:=by
 induction l generalizing cs with
 |nil=>cases cs with
  |nil=>exact .nil
  |cons _ _=>simp at hl
 |cons a l B=>cases cs with
  |nil=>simp at hl
  |cons c cs=>
   obtain⟨d,o,aj⟩:=h 0 a (by simp);simp at o;subst o;refine .cons _ _ _ _ aj (B (by simpa using hl) fun i v hv=>?_);obtain⟨e,j,A⟩:=h (i+1) v (by simpa using hv);exact⟨e,by simpa using j,A⟩
theorem VR.cells {U:AM} {v:V} {c:Value} (h:VR U v c) (d:v≠.no .bot):bd U v.cells c.cells.toList:=by
 cases h with
 |agg l cs h=>exact h
 |bot c=>exact absurd rfl d
 |_=>exact .cons _ _ _ _ (by first|(constructor<;>assumption)|constructor) .nil
theorem fu (n:Nat):(pa n).toNat=n:=Pa.Df _ _ (kl (jV n) (by
 have:∀k:Nat,k<=2^k:=fun k=>pc Nat.lt_two_pow_self;exact this _))
def eG (U:AM) (e:T V) (tmps:Array Value):Prop:=
 ∀p v,e.get p=some v->∃c,tmps[p.toNat]? =some c/\VR U v c
theorem eG.mono {U ac:AM} (d:U.le ac) {e:T V} {tmps:Array Value} (h:eG U e tmps):eG ac e tmps:=
 fun p v hp=>let⟨c,o,aj⟩:=h p v hp;⟨c,o,aj.mono d⟩
theorem eG.set {U:AM} {e:T V} {tmps:Array Value} (h:eG U e tmps) {v:V} {c:Value} (hv:VR U v c) {d:Nat} (hd:d<tmps.size):
 eG U (e.set v (pa d)) (tmps.setIfInBounds d c):=by
 intro p u hp;rw[T.ft]at hp;by_cases j:pa d=p
 ·simp only[j,if_true,aL]at hp;subst hp;refine⟨c,?_,hv⟩;rw[<-j,fu];simp[hd]
 ·simp only[j,if_false]at hp;obtain⟨x,o,aj⟩:=h p u hp;refine⟨x,?_,aj⟩;rw[kZ,o];intro A;exact j (Pa.toNat_inj (by rw[fu];exact A))
def gn (U:AM) (e:T V) (ρ:Operand->Value):Prop:=∀x:Operand,VR U ((cO x).ev e) (ρ x)
theorem uz (U:AM) (c:Value):VR U (nf c) c:=by
 unfold nf;split<;>first|exact .fn _ _ _ .nil|constructor
theorem xD (U:AM) (cs:List Value):bd U (cs.map nf) cs:=by
 induction cs with
 |nil=>exact .nil
 |cons c cs d=>exact .cons _ _ _ _ (uz U c) d
theorem qC (U:AM) (c:Value):VR U (dd c) c:=by
 unfold dd;split
 ·rename_i cs;cases cs with|mk cs=>exact .agg _ _ (xD U cs)
 ·exact uz U c
theorem Dh {U:AM} {e:T V} {a:Act} (h:eG U e a.tmps):gn U e a.eval:=by
 intro x;cases x with
 |tmp t=>
  simp only[cO,Od.ev,T.val,Act.eval];split
  ·rename_i v hv;obtain⟨c,o,aj⟩:=h _ _ hv;rw[fu]at o;simp[Array.getD_eq_getD_getElem?,o,aj]
  ·exact .bot _
 |const v=>exact qC U v
 |global g=>exact .bot _
 |func f=>exact .fn f [] [] .nil
theorem gn.list {U:AM} {e:T V} {ρ:Operand->Value} (h:gn U e ρ) (l:List Operand):bd U (di e (l.map cO)) (l.map ρ):=by
 induction l with
 |nil=>exact .nil
 |cons x l d=>exact .cons _ _ _ _ (h x) d
def uA:Option k6->Option Code->Prop
 |none,none=>True
 |some .ret,some .ret=>True
 |some (.exit i),some (.exit j)=>i=j
 |_,_=>False
def ky (U:AM) (l:List V) (cs:Array Value) (base:Nat):Prop:=
 base+l.length<=cs.size/\∀(i:Nat) (v:V),l[i]? =some v->∃c,cs[base+i]? =some c/\VR U v c
def quietAt (size:Nat) (fr:Nat×Nat):Prop:=fr.1=fr.2\/size<=fr.1
def uB (mk:Bool) (fr:Nat×Nat):Prop:=mk=false->fr.2<=fr.1
def BR (P:Program) (U:AM) (ls:List LE) (a:Pa) (b:ak) (L:Loc) (w:World):Prop:=
 match b with
 |.cells l _=>∃cs el fr,w.heap[L.aw]? =some (.cells cs el fr)/\cs.size=L.top/\quietAt cs.size fr/\ky U l cs L.base/\uB L.dm fr
 |.ro l=>∃cs el fr,w.heap[L.aw]? =some (.cells cs el fr)/\cs.size=L.top/\ky U l cs L.base
 |.map es clock=>∃d,w.heap[L.aw]? =some (.map d clock)/\d.size=es.length/\
   ∀(i:Nat) (t:V×V×Nat),es[i]? =some t->∃x,d[i]? =some x/\VR U t.1 x.key/\VR U t.2.1 x.val/\x.born=t.2.2
 |.loop r=>∃x,w.heap[L.aw]? =some (.loop x)/\x.state=r.state/\uA r.pending x.pending/\x.fn=r.fn/\eG U r.env x.tmps/\r.nt<=x.tmps.size/\
   r.params=x.params.toList.map pa/\(∀t∈x.params.toList,t<r.nt)/\
   ∃y,eX a ls=some y/\y.assign=cn P r.nt (bT P r.fn) x.assign/\y.body=cn P r.nt (bT P r.fn) x.body
 |.c4 l=>w.heap[L.aw]? =some (.deferred (if l then some []else none))
def ak.live:ak->Bool
 |.cells _ d=>!d
 |_=>true
def ak.r5:ak->Bool
 |.ro _=>true
 |_=>false
def xE (ls d:List LE):Prop:=∀a x,eX a ls=some x->eX a d=some x
theorem ky.mono {U ac:AM} (d:U.le ac) {l:List V} {cs:Array Value} {b:Nat} (h:ky U l cs b):ky ac l cs b:=
 ⟨h.1,fun i v hv=>let⟨c,o,aj⟩:=h.2 i v hv;⟨c,o,aj.mono d⟩⟩
theorem BR.mono {P:Program} {U ac:AM} (B:U.le ac) {ls F:List LE} (hl:xE ls F) {a:Pa} {b:ak} {L:Loc} {w w':World}
 (hw:w'.heap[L.aw]? =w.heap[L.aw]?) (h:BR P U ls a b L w):BR P ac F a b L w':=by
 cases b with
 |cells l d=>obtain⟨cs,el,fr,o,aj,j,A,D⟩:=h;exact⟨cs,el,fr,hw.trans o,aj,j,A.mono B,D⟩
 |ro l=>obtain⟨cs,el,fr,o,aj,A⟩:=h;exact⟨cs,el,fr,hw.trans o,aj,A.mono B⟩
 |map es clock=>
  obtain⟨G,o,aj,j⟩:=h;exact⟨G,hw.trans o,aj,fun i t ht=>let⟨x,W,k2,Y,Z⟩:=j i t ht;⟨x,W,k2.mono B,Y.mono B,Z⟩⟩
 |loop r=>
  obtain⟨x,o,aj,j,A,D,O,Q,R,y,S,I,M⟩:=h;exact⟨x,hw.trans o,aj,j,A,D.mono B,O,Q,R,y,hl _ _ S,I,M⟩
 |c4 l=>exact hw.trans h
def jy (w w':World):Prop:=w'.os=w.os/\w'.output=w.output/\w'.tape=w.tape/\w.drawn<=w'.drawn
theorem jy.refl (w:World):jy w w:=⟨rfl,rfl,rfl,aB _⟩
theorem jy.trans {w d j:World} (h:jy w d) (h':jy d j):jy w j:=⟨h'.1.trans h.1,h'.2.1.trans h.2.1,h'.2.2.1.trans h.2.2.1,fL h.2.2.2 h'.2.2.2⟩
def kz (b:Bool) (w w':World):Prop:=w'.os=w.os/\w'.output=w.output/\(b=true->w'.tape=w.tape/\w.drawn<=w'.drawn)
theorem kz.refl (b:Bool) (w:World):kz b w w:=⟨rfl,rfl,fun _=>⟨rfl,aB _⟩⟩
theorem kz.trans {b:Bool} {w d j:World} (h:kz b w d) (h':jy d j):kz b w j:=⟨h'.1.trans h.1,h'.2.1.trans h.2.1,fun e=>⟨h'.2.2.1.trans (h.2.2 e).1,fL (h.2.2 e).2 h'.2.2.2⟩⟩
theorem kz.xF {b:Bool} {w d j:World} (h:kz b w d) (o:b=false) (h':j.os=d.os/\j.output=d.output):kz b w j:=⟨h'.1.trans h.1,h'.2.trans h.2.1,fun e=>by rw[o]at e;cases e⟩
structure Cx where
 P:Program
 w0:World
 N0:Nat
 sd:Bool
structure aS (C:Cx) (U:AM) (Λ:Pa->Prop) (h:Hp) (ls:List LE) (w:World):Prop where
 fQ:∀a L,U a=some L->a.toNat<h.next.toNat
 aw:∀a L,U a=some L->Λ a->∃b,h.get a=some b/\BR C.P U ls a b L w
 inj:∀a a' L L',U a=some L->U a'=some L'->Λ a->Λ a'->L.aw=L'.aw->C.N0<=L.aw->a=a'
 live:∀a L b,U a=some L->h.get a=some b->Λ a\/∃l,b=.cells l true
 wr:∀a L b,U a=some L->Λ a->h.get a=some b->b.r5=false->C.N0<=L.aw
 low:∀i,i<C.N0->w.heap[i]? =C.w0.heap[i]?
 size:C.N0<=w.heap.size
 still:kz C.sd C.w0 w
 fresh:∀a,h.next.toNat<=a.toNat->h.get a=none
 gS:∀a x,eX a ls=some x->a.toNat<h.next.toNat
theorem aS.lt {C:Cx} {U:AM} {Λ:Pa->Prop} {h:Hp} {ls:List LE} {w:World} (s:aS C U Λ h ls w) {a:Pa} {L:Loc} (ha:U a=some L) (A:Λ a):
 L.aw<w.heap.size:=by
 obtain⟨b,_,j⟩:=s.aw a L ha A;have:∃I,w.heap[L.aw]? =some I:=by
  cases b with
  |cells l d=>obtain⟨_,_,_,o,_⟩:=j;exact⟨_,o⟩
  |ro l=>obtain⟨_,_,_,o,_⟩:=j;exact⟨_,o⟩
  |map es c=>obtain⟨_,o,_⟩:=j;exact⟨_,o⟩
  |loop r=>obtain⟨_,o,_⟩:=j;exact⟨_,o⟩
  |c4 l=>exact⟨_,j⟩
 obtain⟨I,ho⟩:=this;exact(gI.1 ho).1
theorem aS.same {C:Cx} {U:AM} {Λ:Pa->Prop} {h:Hp} {ls:List LE} {w w':World} (s:aS C U Λ h ls w) (hw:w'.heap=w.heap) (d:jy w w'):aS C U Λ h ls w' where
 fQ:=s.fQ
 aw:=fun a L ha j=>let⟨b,o,aj⟩:=s.aw a L ha j;⟨b,o,aj.mono (AM.le_refl U) (fun _ _ h=>h) (by rw[hw])⟩
 inj:=s.inj
 live:=s.live
 wr:=s.wr
 low:=by rw[hw];exact s.low
 size:=by rw[hw];exact s.size
 still:=s.still.trans d
 fresh:=s.fresh
 gS:=s.gS
def AM.put (U:AM) (a:Pa) (L:Loc):AM:=fun b=>if b=a then some L else U b
theorem AM.iO {U:AM} {a:Pa} {L:Loc} (h:U a=none):U.le (U.put a L):=by
 intro b M d;unfold AM.put;split
 ·rename_i e;subst e;rw[h]at d;cases d
 ·exact d
theorem AM.h2 (U:AM) (a:Pa) (L:Loc):U.put a L a=some L:=by simp[AM.put]
theorem aS.iP {C:Cx} {U:AM} {Λ:Pa->Prop} {h:Hp} {ls:List LE} {w:World} (s:aS C U Λ h ls w):U h.next=none:=by
 cases e:U h.next with
 |none=>rfl
 |some L=>exact absurd (s.fQ _ _ e) (Nat.lt_irrefl _)
def iQ (w w':World):Prop:=w'.heap.size=w.heap.size+1/\(∀i,i<w.heap.size->w'.heap[i]? =w.heap[i]?)/\jy w w'
theorem aS.ghost {C:Cx} {U:AM} {Λ:Pa->Prop} {h:Hp} {ls:List LE} {w:World} (s:aS C U Λ h ls w) (b:ak):aS C U Λ (h.alloc b) ls w:=by
 have o:∀a L,U a=some L->a≠h.next:=fun a L ha e=>by subst e;rw[s.iP]at ha;cases ha
 have j:∀a,a≠h.next->(h.alloc b).get a=h.get a:=fun a e=>by
  simp[bn.alloc,bn.get,T.ft,Ne.symm e]
 have A:(h.alloc b).next.toNat=h.next.toNat+1:=Pa.gm _;refine⟨fun a L ha=>by rw[A];exact nT (s.fQ a L ha),fun a L ha B=>?_,s.inj,fun a L c ha d=>?_,fun a L c ha B d hr=>?_,s.low,s.size,s.still,fun a ha=>?_,fun a x hx=>?_⟩
 ·rw[j a (o a L ha)];exact s.aw a L ha B
 ·rw[j a (o a L ha)]at d;exact s.live a L c ha d
 ·rw[j a (o a L ha)]at d;exact s.wr a L c ha B d hr
 ·rw[A]at ha;rw[j a (fun e=>by subst e;omega)];exact s.fresh a (by omega)
 ·rw[A];exact nT (s.gS a x hx)
theorem aS.fill {C:Cx} {U:AM} {Λ:Pa->Prop} {h:Hp} {ls:List LE} {w w':World} (s:aS C U Λ h ls w) {a:Pa} {b:ak} {top:Nat} {md:Bool}
 (ha:U a=none) (A:h.get a=some b) (hw:iQ w w')
 (Q:BR C.P (U.put a ⟨w.heap.size,0,top,md⟩) ls a b ⟨w.heap.size,0,top,md⟩ w'):
 aS C (U.put a ⟨w.heap.size,0,top,md⟩) (fun x=>Λ x\/x=a) h ls w':=by
 have R:U.le (U.put a ⟨w.heap.size,0,top,md⟩):=AM.iO ha;have aC:∀x M,(U.put a ⟨w.heap.size,0,top,md⟩) x=some M->x≠a->U x=some M:=fun x M hx d=>by
  simpa[AM.put,d]using hx
 have new:∀M,(U.put a ⟨w.heap.size,0,top,md⟩) a=some M->M=⟨w.heap.size,0,top,md⟩:=fun M G=>by
  simp[AM.put]at G;exact G.symm
 have S:a.toNat<h.next.toNat:=by
  rcases kr a.toNat h.next.toNat with o|o
  ·exact o
  ·rw[s.fresh a o]at A;cases A
 refine⟨fun x M hx=>?_,fun x M hx F=>?_,fun x y M K hx D L O e hN=>?_,fun x M c hx B=>?_,fun x M c hx F B hr=>?_,fun i hi=>?_,?_,s.still.trans hw.2.2,s.fresh,s.gS⟩
 ·by_cases d:x=a
  ·subst d;exact S
  ·exact s.fQ x M (aC x M hx d)
 ·by_cases d:x=a
  ·subst d;rw[new M hx];exact⟨b,A,Q⟩
  ·have I:Λ x:=F.resolve_right d;obtain⟨c,o,aj⟩:=s.aw x M (aC x M hx d) I;exact⟨c,o,aj.mono R (fun _ _ h=>h) (hw.2.1 _ (s.lt (aC x M hx d) I))⟩
 ·by_cases d:x=a
  ·by_cases j:y=a
   ·rw[d,j]
   ·exfalso;subst d;rw[new M hx]at e;have:=s.lt (aC y K D j) (O.resolve_right j);simp at e;omega
  ·by_cases j:y=a
   ·exfalso;subst j;rw[new K D]at e;have:=s.lt (aC x M hx d) (L.resolve_right d);simp at e;omega
   ·exact s.inj x y M K (aC x M hx d) (aC y K D j) (L.resolve_right d) (O.resolve_right j) e hN
 ·by_cases d:x=a
  ·exact .inl (.inr d)
  ·rcases s.live x M c (aC x M hx d) B with o|o
   ·exact .inl (.inl o)
   ·exact .inr o
 ·by_cases d:x=a
  ·subst d;rw[new M hx];exact s.size
  ·exact s.wr x M c (aC x M hx d) (F.resolve_right d) B hr
 ·rw[hw.2.1 i (kl hi s.size)];exact s.low i hi
 ·rw[hw.1];exact Nat.le_succ_of_le s.size
def gx (w w':World) (k:Nat):Prop:=w'.heap.size=w.heap.size/\(∀i,i≠k->w'.heap[i]? =w.heap[i]?)/\jy w w'
theorem gx.refl (w:World) (k:Nat):gx w w k:=⟨rfl,fun _ _=>rfl,jy.refl w⟩
theorem gx.trans {w d j:World} {k:Nat} (h:gx w d k) (h':gx d j k):gx w j k:=
 ⟨h'.1.trans h.1,fun i hi=>(h'.2.1 i hi).trans (h.2.1 i hi),h.2.2.trans h'.2.2⟩
theorem aS.oe {C:Cx} {U:AM} {Λ:Pa->Prop} {h:Hp} {ls:List LE} {w w':World} (s:aS C U Λ h ls w) {a:Pa} {L:Loc} {b b':ak}
 (ha:U a=some L) (D:Λ a) (G:h.get a=some b) (I:b.r5=false) (_hro':b'.r5=false) (hw:gx w w' L.aw)
 (F:BR C.P U ls a b' L w'):aS C U Λ (h.put a b') ls w':=by
 have hN:C.N0<=L.aw:=s.wr a L b ha D G I;have A:∀x,(h.put a b').get x=if a=x then some b' else h.get x:=fun x=>by simp[bn.put,bn.get,T.ft]
 refine⟨s.fQ,fun x M hx B=>?_,s.inj,fun x M c hx j=>?_,fun x M c hx B j hr=>?_,fun i hi=>?_,by rw[hw.1];exact s.size,s.still.trans hw.2.2,fun x hx=>?_,s.gS⟩
 ·by_cases d:a=x
  ·subst d;rw[ha]at hx;cases hx;exact⟨b',by rw[A];simp,F⟩
  ·obtain⟨c,o,aj⟩:=s.aw x M hx B;refine⟨c,by rw[A];simp[d,o],aj.mono (AM.le_refl U) (fun _ _ h=>h) (hw.2.1 _ ?_)⟩;intro e;exact d (s.inj a x L M ha hx D B e.symm hN)
 ·by_cases d:a=x
  ·subst d;exact .inl D
  ·rw[A]at j;simp only[d,if_false]at j;exact s.live x M c hx j
 ·by_cases d:a=x
  ·subst d;rw[ha]at hx;cases hx;exact hN
  ·rw[A]at j;simp only[d,if_false]at j;exact s.wr x M c hx B j hr
 ·rw[hw.2.1 i (by omega)];exact s.low i hi
 ·rw[A];by_cases d:a=x
  ·subst d;exact absurd (s.fQ a L ha) (Nat.not_lt.2 hx)
  ·simp only[d,if_false];exact s.fresh x hx
end Go.Ev
namespace Go.Ev
variable{P:Program} {w:World}
theorem bk {t:TypeId} {d:TypeDesc} (h:P.underlying t=some d):(underlying t).run P w=.ok d w:=by simp[underlying,h]
theorem nq {t:TypeId} {i:TypeInfo} (h:P.info? t=some i):(typeInfo t).run P w=.ok i w:=by simp[typeInfo,h]
theorem fv {t:TypeId} {i:TypeInfo} (h:P.info? t=some i):(sizeOf t).run P w=.ok i.size w:=by simp[sizeOf,nq h]
theorem iR {t:TypeId} {i:TypeInfo} {v:Value} (h:P.info? t=some i) (hz:i.zero=some v):(zeroValue t).run P w=.ok v w:=by
 simp[zeroValue,nq h,hz]
theorem lr {t:TypeId} {n:Nat} (h:fb P t=some n):∃i,P.info? t=some i/\i.size=n:=by
 unfold fb at h;cases e:P.info? t with
 |none=>simp[e]at h
 |some i=>simp[e]at h;exact⟨i,rfl,h⟩
theorem pw {t:TypeId} {z:V} (h:hF P t=some z):∃i v,P.info? t=some i/\i.zero=some v/\z=dd v:=by
 unfold hF at h;cases e:P.info? t with
 |none=>simp[e]at h
 |some i=>
  simp only[e]at h;cases d:i.zero with
  |none=>simp[d]at h
  |some v=>simp[d]at h;exact⟨i,v,rfl,d,h.symm⟩
theorem xG {t:TypeId} (h:hV P t=some none):∃i,P.info? t=some i/\∀w,(isAgg t).run P w=.ok false w:=by
 unfold hV at h;cases e:P.info? t with
 |none=>simp[e]at h
 |some i=>
  refine⟨i,rfl,fun w=>?_⟩;simp only[e]at h;cases j:P.underlying t with
  |none=>simp[j]at h
  |some d=>cases d<;>simp[j]at h<;>simp[isAgg,bk j]
theorem xH {t:TypeId} {n:Nat} (h:hV P t=some (some n)):∃i,P.info? t=some i/\i.size=n/\∀w,(isAgg t).run P w=.ok true w:=by
 unfold hV at h;cases e:P.info? t with
 |none=>simp[e]at h
 |some i=>
  simp only[e]at h;cases j:P.underlying t with
  |none=>simp[j]at h
  |some d=>cases d<;>simp[j]at h<;>exact⟨i,rfl,h,fun w=>by simp[isAgg,bk j]⟩
theorem uC {cs:Array Value} {el:TypeId} {fr:Nat×Nat} {b I:Nat} {c:Value} (hw:w.heap[b]? =some (.cells cs el fr)) (hc:cs[I]? =some c):
 w.cell? ⟨b,I,none⟩=some c:=by simp[World.cell?,hw,hc]
theorem lu (b I n:Nat):(Addr.mk b I none).add n=⟨b,I+n,none⟩:=by
 unfold Addr.add;split
 ·rename_i h;simp[h]
 ·rfl
theorem Di {a:Addr} {c:Value} (h:w.cell? a=some c):(load a).run P w=.ok c w:=by simp[h]
theorem xI (b I:Nat):∀(cs:List Value) (i:Nat) (o:Array Value),(∀(j:Nat) (c:Value),cs[j]? =some c->w.cell? ⟨b,I+i+j,none⟩=some c)->
 (loadCellsFrom ⟨b,I,none⟩ i cs.length o).run P w=.ok (o++cs.toArray) w
 |[],i,o,_=>by simp[loadCellsFrom]
 |c::cs,i,o,h=>by
  have h0:=h 0 c (by simp);have A:=xI b I cs (i+1) (o.push c) (fun j d hd=>by
   have:=h (j+1) d (by simpa using hd);rw[show I+(i+1)+j=I+i+(j+1)from by omega];exact this)
  simp only[b7,loadCellsFrom,Sem.run_bind,lu];rw[Di (by simpa using h0)];simp only[Result.andThen_ok,A];simp
theorem Dj (b I:Nat) (cs:List Value) (h:∀(j:Nat) (c:Value),cs[j]? =some c->w.cell? ⟨b,I+j,none⟩=some c):
 (loadCells ⟨b,I,none⟩ cs.length).run P w=.ok cs.toArray w:=by
 have:=xI (P:=P) b I cs 0 #[] (by simpa using h);simpa[loadCells]using this
variable{C:Cx} {U:AM} {Λ:Pa->Prop} {h:Hp} {ls:List LE}
theorem aS.cells (s:aS C U Λ h ls w) {a:Pa} {L:Loc} (ha:U a=some L) {l:List V} (hl:h.cells a=some l):
 ∀(i:Nat) (v:V),l[i]? =some v->∃c,w.cell? ⟨L.aw,L.base+i,none⟩=some c/\VR U v c:=by
 unfold bn.cells at hl;cases j:h.get a with
 |none=>simp[j]at hl
 |some b=>
  simp only[j]at hl;have G:Λ a:=by
   rcases s.live a L _ ha j with o|⟨m,o⟩
   ·exact o
   ·subst o;simp at hl
  obtain⟨b',o,aj⟩:=s.aw a L ha G;rw[j]at o;injection o with o;subst o
  cases b with
  |cells m d=>
   simp only at hl;cases d with
   |true=>simp at hl
   |false=>
    simp at hl;subst hl;obtain⟨cs,el,fr,A,_,_,⟨_,B⟩,_⟩:=aj;intro i v hv;obtain⟨c,D,F⟩:=B i v hv;exact⟨c,uC A D,F⟩
  |ro m=>
   simp at hl;subst hl;obtain⟨cs,el,fr,A,_,_,B⟩:=aj;intro i v hv;obtain⟨c,D,F⟩:=B i v hv;exact⟨c,uC A D,F⟩
  |map es c=>simp at hl
  |loop r=>simp at hl
  |c4 l=>simp at hl
theorem aS.uD (s:aS C U Λ h ls w) {a:Pa} {L:Loc} (ha:U a=some L) {I n:Nat} {l:List V} (hl:h.b1 a I n=some l):
 ∃cs:List Value,cs.length=n/\bd U l cs/\∀D:World,D.heap=w.heap->(loadCells ⟨L.aw,L.base+I,none⟩ n).run P D=.ok cs.toArray D:=by
 unfold bn.b1 at hl;cases hc:h.cells a with
 |none=>simp[hc]at hl
 |some m=>
  simp only[hc,lq]at hl;obtain⟨o,aj⟩:=od hl;have O:=s.cells ha hc;have hlen:l.length=n:=by rw[aj];simp at o⊢;omega
  have Q:∀(i:Nat) (v:V),l[i]? =some v->∃c,w.cell? ⟨L.aw,L.base+I+i,none⟩=some c/\VR U v c:=by
   intro i v hv;rw[aj,jv]at hv;split at hv
   ·rw[gJ]at hv;obtain⟨c,B,k2⟩:=O _ _ hv;exact⟨c,by rw[gg];exact B,k2⟩
   ·cases hv
  have:∀(m:List V) (A:Nat),(∀(i:Nat) (v:V),m[i]? =some v->∃c,w.cell? ⟨L.aw,A+i,none⟩=some c/\VR U v c)->
   ∃cs:List Value,cs.length=m.length/\bd U m cs/\∀(j:Nat) (c:Value),cs[j]? =some c->w.cell? ⟨L.aw,A+j,none⟩=some c:=by
   intro m
   induction m with
   |nil=>intro A _;exact⟨[],rfl,.nil,fun j c hj=>by simp at hj⟩
   |cons v m S=>
    intro A hm;obtain⟨c,B,k2⟩:=hm 0 v (by simp);obtain⟨cs,F,W,Y⟩:=S (A+1) (fun i u hu=>by
     obtain⟨d,G,M⟩:=hm (i+1) u (by simpa using hu);exact⟨d,by rw[show A+1+i=A+(i+1)from by omega];exact G,M⟩)
    refine⟨c::cs,by simp[F],.cons _ _ _ _ k2 W,fun j d hd=>?_⟩;cases j with
    |zero=>simp at hd;subst hd;simpa using B
    |succ j=>simp at hd;rw[show A+(j+1)=A+1+j from by omega];exact Y j d hd
  obtain⟨cs,B,k2,F⟩:=this l (L.base+I) Q;refine⟨cs,by rw[B,hlen],k2,fun D R=>?_⟩;have:=Dj (P:=P) (w:=D) L.aw (L.base+I) cs (fun j c hj=>by
   have:=F j c hj;unfold World.cell? at this⊢;rw[R];exact this)
  rwa [B,hlen]at this
theorem aS.b1 (s:aS C U Λ h ls w) {a:Pa} {L:Loc} (ha:U a=some L) {I n:Nat} {l:List V} (hl:h.b1 a I n=some l):
 ∃cs:List Value,cs.length=n/\bd U l cs/\(loadCells ⟨L.aw,L.base+I,none⟩ n).run P w=.ok cs.toArray w:=
 let⟨cs,o,aj,d⟩:=s.uD (P:=P) ha hl
 ⟨cs,o,aj,d w rfl⟩
theorem Dk {t:TypeId} {a:Addr} {c:Value} (ha:(isAgg t).run P w=.ok false w) (hc:w.cell? a=some c):(loadVar t a).run P w=.ok c w:=by
 simp[loadVar,ha,hc]
theorem Dl {t:TypeId} {a:Addr} {i:TypeInfo} {cs:Array Value} (ha:(isAgg t).run P w=.ok true w) (hi:P.info? t=some i)
 (hc:(loadCells a i.size).run P w=.ok cs w):(loadVar t a).run P w=.ok (.agg cs) w:=by
 simp[loadVar,ha,fv hi,hc]
theorem xJ (s:aS C U Λ h ls w) {n:Option Nat} {t:TypeId} (hn:hV P t=some n) {x v:V} {c:Value} (hx:VR U x c) (hv:eE h n x=some v):
 ∃a d,c=.pointer (some a)/\(loadVar t a).run P w=.ok d w/\VR U v d:=by
 cases x with
 |ptr a I=>
  cases hx with
  |ptr _ _ L ha=>
   simp only[eE]at hv;cases n with
   |none=>
    simp only at hv;obtain⟨i,hi,j⟩:=xG hn;cases hc:h.cells a with
    |none=>simp[hc]at hv
    |some l=>
     simp only[hc,lp]at hv;obtain⟨d,o,k2⟩:=s.cells ha hc _ _ hv;exact⟨_,d,rfl,Dk (j w) o,k2⟩
   |some n=>
    simp only at hv;obtain⟨i,hi,A,j⟩:=xH hn;split at hv
    ·rename_i l hl;simp at hv;subst hv;obtain⟨cs,o,k2,B⟩:=s.b1 (P:=P) ha hl;exact⟨_,.agg cs.toArray,rfl,Dl (j w) hi (by rw[A];exact B),.agg _ _ k2⟩
    ·cases hv
 |_=>simp[eE]at hv
end Go.Ev
namespace Go.Ev
theorem qD {a b:IntKind} (h:cr a b=true):a=b:=by
 cases a<;>cases b<;>first|rfl|(simp[cr,ub,Nat.beq]at h;done)
theorem h3 (a b:Int):gh a b=(a==b):=by
 cases a<;>cases b<;>simp[gh]<;>rw[kp]<;>simp<;>omega
theorem mf (a b:Int):gM a b=decide (a<b):=by
 cases a<;>cases b<;>simp only[gM]<;>rw[kp]<;>simp[qk]<;>omega
theorem uE (a b:Int):qp a b=a+b:=by cases a<;>cases b<;>simp[qp]
theorem uF (a b:Int):qq a b=a-b:=by
 cases a<;>cases b<;>simp only[qq]
 rename_i a b;cases h:Nat.ble b a with
 |true=>simp at h;simp;omega
 |false=>simp
theorem xK (a b:Int):rY a b=a*b:=by cases a<;>cases b<;>simp[rY]
theorem r6 (k:IntKind) (a:Nat) (h:a<=k7 k):k.wrap (Int.ofNat a)=Int.ofNat a:=by
 cases k<;>simp only[k7]at h
 ·exact IntWalk.i8_in _ (by simp only[mY];omega)
 ·exact IntWalk.i16_in _ (by simp only[mY];omega)
 ·exact IntWalk.i32_in _ (by simp only[mY];omega)
 ·exact IntWalk.i64_in _ (by simp only[mY];omega)
 ·exact IntWalk.u8_in _ (by simp only[mY];omega)
 ·exact IntWalk.u16_in _ (by simp only[mY];omega)
 ·exact IntWalk.u32_in _ (by simp only[mY];omega)
 ·exact IntWalk.u64_in _ (by simp only[mY];omega)
theorem Dm (k:IntKind) (a:Nat) (o:k.signed=true) (h:a<=k7 k):k.wrap (Int.negSucc a)=Int.negSucc a:=by
 cases k<;>simp only[k7]at h<;>first|cases o|skip
 ·exact IntWalk.i8_in _ (by simp only[qk];omega)
 ·exact IntWalk.i16_in _ (by simp only[qk];omega)
 ·exact IntWalk.i32_in _ (by simp only[qk];omega)
 ·exact IntWalk.i64_in _ (by simp only[qk];omega)
theorem nr (k:IntKind) (n:Int):ek k n=k.wrap n:=by
 cases n with
 |ofNat a=>
  simp only[ek];cases h:Nat.ble a (k7 k)with
  |false=>rfl
  |true=>exact(r6 k a (eT h)).symm
 |negSucc a=>
  simp only[ek];cases h:(k.signed&&Nat.ble a (k7 k))with
  |false=>rfl
  |true=>
   rw[be]at h;exact(Dm k a h.1 (eT h.2)).symm
theorem xL (a b:Bool):pf a b=(a==b):=by cases a<;>cases b<;>rfl
theorem lv (a b:List UInt8):jW a b=(a==b):=by
 induction a generalizing b with
 |nil=>cases b<;>rfl
 |cons x a d=>
  cases b with
  |nil=>rfl
  |cons y b=>
   simp only[jW,d,List.cons_beq_cons];cases h:Nat.beq x.toNat y.toNat with
   |true=>
    have:x=y:=qi.1 (by simpa using h);simp[this]
   |false=>
    have:(x==y)=false:=by
     rw[beq_eq_false_iff_ne];intro e;subst e;simp at h
    simp[this]
theorem Dp (a b:List UInt8):kt a b=Op.bytesLess a b:=by
 induction a generalizing b with
 |nil=>cases b<;>rfl
 |cons x a j=>
  cases b with
  |nil=>rfl
  |cons y b=>
   simp only[kt,Op.bytesLess,j];by_cases o:x<y
   ·have:Nat.blt x.toNat y.toNat=true:=by simpa[UInt8.lt_iff_toNat_lt]using o
    simp[this,o]
   ·have d:Nat.blt x.toNat y.toNat=false:=by
     rw[l2];intro e;apply o;simpa[UInt8.lt_iff_toNat_lt]using e
    simp only[d,o,bw,decide_false,jw];cases h:Nat.beq x.toNat y.toNat with
    |true=>
     have:x=y:=qi.1 (by simpa using h);simp[this]
    |false=>
     have:(x==y)=false:=by
      rw[beq_eq_false_iff_ne];intro e;subst e;simp at h
     simp[this]
variable{P:Program} {w:World} {U:AM}
theorem r7 {t:TypeId} {q:hE} (h:kv P t=some q):
 (q=.b/\P.underlying t=some .bool)\/(q=.i/\∃k,P.underlying t=some (.int k))\/(q=.s/\P.underlying t=some .string):=by
 unfold kv at h;split at h<;>first|(cases h;simp_all;done)|cases h
theorem xM {x y:V} {c d:Value} {b:Bool} {q:hE} (hx:VR U x c) (o:VR U y d) (h:en q x y=some b) {t:TypeId} (ht:kv P t=some q) (n:Nat):
 (Op.equalIn (n+1) t c d).run P w=.ok b w:=by
 rcases r7 ht with⟨rfl,hu⟩|⟨rfl,k,hu⟩|⟨rfl,hu⟩
 ·cases x<;>simp only[en]at h<;>(try cases h)
  cases y<;>simp only at h<;>(try cases h)
  cases hx;cases o;rw[run_equalIn_bool' w n t _ _ hu,xL]
 ·cases x<;>simp only[en]at h<;>(try cases h)
  cases y<;>simp only at h<;>(try cases h)
  rename_i k i k' j;cases hk:cr k k' with
  |false=>simp[hk]at h
  |true=>
   have:=qD hk;subst this;simp[hk]at h;subst h;cases hx;cases o;rw[run_equalIn_int w n t _ _ _ _ hu,h3]
 ·cases x<;>simp only[en]at h<;>(try cases h)
  cases y<;>simp only at h<;>(try cases h)
  cases hx;cases o;rw[run_equalIn_string w n t _ _ hu,lv,ByteArray.toList_eq,ByteArray.toList_eq]
theorem xN {t:TypeId} {q:hE} (ht:kv P t=some q):(isAgg t).run P w=.ok false w:=by
 rcases r7 ht with⟨_,hu⟩|⟨_,k,hu⟩|⟨_,hu⟩<;>simp[isAgg,bk hu]
theorem r8 {t:TypeId} {cs:Array Value} {I:Nat} {c:Value} (ha:(isAgg t).run P w=.ok false w) (hc:cs[I]? =some c):(Go.part t cs I).run P w=.ok c w:=by
 simp[Go.part,ha,hc]
theorem uG (n:Nat) {xs B:List V} {cs ds:List Value} (hx:bd U xs cs) (A:bd U B ds):
 ∀(fs:List Field) (l:List (Nat×hE)) (b:Bool),jZ P fs=some l->ku xs B l=some b->
  (Op.eqFields (n+1) cs.toArray ds.toArray fs).run P w=.ok b w
 |[],l,b,hl,h=>by
  simp[jZ]at hl;subst hl;simp[ku]at h;subst h;simp[Op.eqFields]
 |f::fs,l,b,hl,h=>by
  simp only[jZ]at hl;cases j:jZ P fs with
  |none=>simp[j]at hl
  |some m=>
   simp only[j]at hl;by_cases hn:f.name≠ "_"
   ·rw[ae hn]at hl;cases hq:kv P f.type with
    |none=>simp[hq]at hl
    |some q=>
     simp[hq]at hl;subst hl;simp only[ku,lp]at h;cases ha:xs[f.offset]? with
     |none=>simp[ha]at h
     |some a=>
      cases o:B[f.offset]? with
      |none=>simp[ha,o]at h
      |some a'=>
       simp only[ha,o]at h;obtain⟨c,hc,L⟩:=hx.get ha;obtain⟨d,hd,M⟩:=A.get o;have D:∀w,(isAgg f.type).run P w=.ok false w:=fun w=>xN hq;cases he:en q a a' with
       |none=>simp[he]at h
       |some r=>
        have hr:=xM (P:=P) (w:=w) L M he hq n;have F:=r8 (P:=P) (w:=w) (cs:=cs.toArray) (I:=f.offset) (D w) (by simpa using hc);have G:=r8 (P:=P) (w:=w) (cs:=ds.toArray) (I:=f.offset) (D w) (by simpa using hd);have O:=uG n hx A fs m;cases r with
        |true=>
         simp only[he]at h;simp only[Op.eqFields,hn,ne_eq,not_false_eq_true,if_true,Sem.run_bind,F,Result.andThen_ok,G,hr];simp[O b j h]
        |false=>
         simp[he]at h;subst h;simp only[Op.eqFields,hn,ne_eq,not_false_eq_true,if_true,Sem.run_bind,F,Result.andThen_ok,G,hr];simp
   ·rw[ab hn]at hl;cases hl;simp only[Op.eqFields,hn,if_false];exact uG n hx A fs _ b j h
theorem uH (op:BinOp) (t:TypeId) (x y:Operand) (c d:Value) (o:c=.nilIface->d=.nilIface->eo x||eo y)
 (aj:∀a b,c=.agg a->d=.agg b->P.eqGuardType P.depth t=false):(eqGuard op t x y c d).run P w=.ok () w:=by
 unfold eqGuard;cases op<;>first
  |rfl
  |(simp only[l5,l1,if_false]
    split
    ·have h:=o rfl rfl;cases x<;>cases y<;>first|rfl|(simp[eo]at h;done)
    ·rename_i a b;simp[aj a b rfl rfl]
    ·rfl)
theorem Dq (t:TypeId) (c d:Value):∃m,(Op.equal t c d)=Op.equalIn (m+1+1) t c d:=⟨9998,rfl⟩
theorem fR {q:cy} {x:V} (h:isNil q x=.nil):(q=.ptr/\x=.no .ptr)\/(q=.iface/\x=.no .iface)\/(q=.slice/\x=.no .sl)\/(q=.func/\x=.no .fn)\/(q=.map/\x=.no .map):=by
 cases x<;>simp only[isNil]at h<;>(try(cases q<;>cases h;done))
 rename_i k;cases q<;>cases k<;>simp_all
theorem ly {q:cy} {x:V} (h:isNil q x=.some):(q=.ptr/\∃a I,x=.ptr a I)\/(q=.iface/\∃t v,x=.iface t v)\/(q=.slice/\∃a I n c,x=.sl a I n c)\/(q=.func/\∃f l,x=.fn f l)\/(q=.map/\∃a,x=.map a):=by
 cases x<;>simp only[isNil]at h<;>(try(cases q<;>cases h;done))<;>cases q<;>(try(simp_all;done))<;>(rename_i k;cases k<;>simp_all)
theorem mg (t:TypeId):(∃q,a7 P t=.flat q/\kv P t=some q)\/
 (∃l fs,a7 P t=.agg l/\P.underlying t=some (.struct fs)/\jZ P fs.toList=some l/\P.stoodInHeld t=false/\P.eqGuardType P.depth t=false)\/
 (a7 P t=.ptr/\∃e,P.underlying t=some (.pointer e))\/(a7 P t=.iface/\∃e,P.underlying t=some (.interface e))\/
 (a7 P t=.slice/\∃e,P.underlying t=some (.slice e))\/(a7 P t=.func/\∃a b c,P.underlying t=some (.func a b c))\/
 (a7 P t=.map/\∃a b,P.underlying t=some (.map a b))\/a7 P t=.no:=by
 unfold a7 kv;cases hu:P.underlying t with
 |none=>simp
 |some d=>
  cases d<;>simp
  rename_i fs;cases o:jZ P fs.toList with
  |none=>simp
  |some l=>
   cases j:(P.stoodInHeld t||P.eqGuardType P.depth t)with
   |true=>simp
   |false=>
    have h:=j;rw[cg]at h;simp[h.1,h.2]
theorem Dr {t:TypeId} (h:a7 P t=.ptr):∃e,P.underlying t=some (.pointer e):=by
 rcases mg (P:=P) t with⟨_,o,_⟩|⟨_,_,o,_⟩|⟨o,aj⟩|⟨o,aj⟩|⟨o,aj⟩|⟨o,aj⟩|⟨o,aj⟩|o<;>rw[h]at o<;>first|exact aj|cases o
theorem Dt {t:TypeId} (h:a7 P t=.iface):∃e,P.underlying t=some (.interface e):=by
 rcases mg (P:=P) t with⟨_,o,_⟩|⟨_,_,o,_⟩|⟨o,aj⟩|⟨o,aj⟩|⟨o,aj⟩|⟨o,aj⟩|⟨o,aj⟩|o<;>rw[h]at o<;>first|exact aj|cases o
theorem Du {t:TypeId} (h:a7 P t=.slice):∃e,P.underlying t=some (.slice e):=by
 rcases mg (P:=P) t with⟨_,o,_⟩|⟨_,_,o,_⟩|⟨o,aj⟩|⟨o,aj⟩|⟨o,aj⟩|⟨o,aj⟩|⟨o,aj⟩|o<;>rw[h]at o<;>first|exact aj|cases o
theorem Dv {t:TypeId} (h:a7 P t=.func):∃a b c,P.underlying t=some (.func a b c):=by
 rcases mg (P:=P) t with⟨_,o,_⟩|⟨_,_,o,_⟩|⟨o,aj⟩|⟨o,aj⟩|⟨o,aj⟩|⟨o,aj⟩|⟨o,aj⟩|o<;>rw[h]at o<;>first|exact aj|cases o
theorem Dw {t:TypeId} (h:a7 P t=.map):∃a b,P.underlying t=some (.map a b):=by
 rcases mg (P:=P) t with⟨_,o,_⟩|⟨_,_,o,_⟩|⟨o,aj⟩|⟨o,aj⟩|⟨o,aj⟩|⟨o,aj⟩|⟨o,aj⟩|o<;>rw[h]at o<;>first|exact aj|cases o
theorem Dx {t:TypeId} {q:hE} (h:a7 P t=.flat q):kv P t=some q:=by
 rcases mg (P:=P) t with⟨_,o,aj⟩|⟨_,_,o,_⟩|⟨o,aj⟩|⟨o,aj⟩|⟨o,aj⟩|⟨o,aj⟩|⟨o,aj⟩|o<;>rw[h]at o<;>first|(cases o;exact aj)|cases o
theorem Dy {t:TypeId} {l:List (Nat×hE)} (h:a7 P t=.agg l):
 ∃fs,P.underlying t=some (.struct fs)/\jZ P fs.toList=some l/\P.stoodInHeld t=false/\P.eqGuardType P.depth t=false:=by
 rcases mg (P:=P) t with⟨_,o,aj⟩|⟨_,fs,o,aj⟩|⟨o,aj⟩|⟨o,aj⟩|⟨o,aj⟩|⟨o,aj⟩|⟨o,aj⟩|o<;>rw[h]at o<;>first|(cases o;exact⟨fs,aj⟩)|cases o
section
variable{t:TypeId} (n:Nat)
theorem h4 {e:TypeId} (hu:P.underlying t=some (.pointer e)) (b:Option Addr):(Op.equalIn (n+1) t (.pointer none) (.pointer b)).run P w=.ok b.isNone w:=by
 simp only[Op.equalIn,Sem.run_bind,bk hu,Result.andThen_ok];rfl
theorem h5 {e:TypeId} (hu:P.underlying t=some (.pointer e)) (a:Addr):(Op.equalIn (n+1) t (.pointer (some a)) (.pointer none)).run P w=.ok false w:=by
 simp only[Op.equalIn,Sem.run_bind,bk hu,Result.andThen_ok];rfl
theorem h6 {e:Array (String×TypeId)} (hu:P.underlying t=some (.interface e)):(Op.equalIn (n+1) t .nilIface .nilIface).run P w=.ok true w:=by
 simp only[Op.equalIn,Sem.run_bind,bk hu,Result.andThen_ok];rfl
theorem h7 {e:Array (String×TypeId)} (hu:P.underlying t=some (.interface e)) (k:TypeId) (v:Value):(Op.equalIn (n+1) t .nilIface (.iface k v)).run P w=.ok false w:=by
 simp only[Op.equalIn,Sem.run_bind,bk hu,Result.andThen_ok];rfl
theorem h8 {e:Array (String×TypeId)} (hu:P.underlying t=some (.interface e)) (k:TypeId) (v:Value):(Op.equalIn (n+1) t (.iface k v) .nilIface).run P w=.ok false w:=by
 simp only[Op.equalIn,Sem.run_bind,bk hu,Result.andThen_ok];rfl
theorem h9 {e:TypeId} (hu:P.underlying t=some (.slice e)) (i j:Nat) (b:Option Addr) (k l:Nat):(Op.equalIn (n+1) t (.slice none i j) (.slice b k l)).run P w=.ok b.isNone w:=by
 simp only[Op.equalIn,Sem.run_bind,bk hu,Result.andThen_ok];rfl
theorem ia {e:TypeId} (hu:P.underlying t=some (.slice e)) (i j:Nat) (a:Addr) (k l:Nat):(Op.equalIn (n+1) t (.slice (some a) i j) (.slice none k l)).run P w=.ok false w:=by
 simp only[Op.equalIn,Sem.run_bind,bk hu,Result.andThen_ok];rfl
theorem ib {d h:Array TypeId} {j:Bool} (hu:P.underlying t=some (.func d h j)):(Op.equalIn (n+1) t .nilFunc .nilFunc).run P w=.ok true w:=by
 simp only[Op.equalIn,Sem.run_bind,bk hu,Result.andThen_ok];rfl
theorem ic {d h:Array TypeId} {j:Bool} (hu:P.underlying t=some (.func d h j)) (f:Fn) (a b:Array Value):(Op.equalIn (n+1) t .nilFunc (.func f a b)).run P w=.ok false w:=by
 simp only[Op.equalIn,Sem.run_bind,bk hu,Result.andThen_ok];rfl
theorem ie {d h:Array TypeId} {j:Bool} (hu:P.underlying t=some (.func d h j)) (f:Fn) (a b:Array Value):(Op.equalIn (n+1) t (.func f a b) .nilFunc).run P w=.ok false w:=by
 simp only[Op.equalIn,Sem.run_bind,bk hu,Result.andThen_ok];rfl
theorem ig {d h:TypeId} (hu:P.underlying t=some (.map d h)) (b:Option Nat):(Op.equalIn (n+1) t (.map none) (.map b)).run P w=.ok b.isNone w:=by
 simp only[Op.equalIn,Sem.run_bind,bk hu,Result.andThen_ok];rfl
theorem ih {d h:TypeId} (hu:P.underlying t=some (.map d h)) (b:Nat):(Op.equalIn (n+1) t (.map (some b)) (.map none)).run P w=.ok false w:=by
 simp only[Op.equalIn,Sem.run_bind,bk hu,Result.andThen_ok];rfl
end
theorem xO {x y:V} {c d:Value} {b:Bool} (hx:VR U x c) (A:VR U y d) {t:TypeId} (h:cF (a7 P t) x y=some b):
 (Op.equal t c d).run P w=.ok b w/\(∀e f,c=.agg e->d=.agg f->P.eqGuardType P.depth t=false)/\(c=.nilIface->a7 P t=.iface):=by
 obtain⟨m,hm⟩:=Dq t c d;rw[hm];clear hm;cases hq:a7 P t with
 |flat q=>
  rw[hq]at h;simp only[cF]at h;refine⟨xM hx A h (Dx hq) (m+1),fun e f he _=>?_,fun he=>?_⟩
  ·subst he;cases hx<;>cases q<;>simp[en]at h
  ·subst he;cases hx<;>cases q<;>simp[en]at h
 |agg l=>
  rw[hq]at h;simp only[cF]at h;obtain⟨fs,hu,hl,G,F⟩:=Dy hq;cases x<;>simp only at h<;>(try(cases h;done))
  cases y<;>simp only at h<;>(try(cases h;done))
  cases hx with
  |agg xs cs I=>
   cases A with
   |agg O ds L=>
    refine⟨?_,fun _ _ _ _=>F,fun he=>by cases he⟩;have B:P.fieldsOf t=fs:=by simp[Program.fieldsOf,hu]
    rw[run_equalIn_struct w (m+1) t _ _ (by rw[B];exact hu) G,B];exact uG m I L fs.toList l b hl h
 |no=>rw[hq]at h;simp[cF,isNil]at h;cases x<;>cases y<;>simp at h
 |ptr=>
  rw[hq]at h;simp only[cF]at h;obtain⟨e,hu⟩:=Dr hq;split at h<;>(try(cases h;done))<;>cases h<;>rename_i o aj
  ·rcases fR o with⟨_,rfl⟩|⟨j,_⟩|⟨j,_⟩|⟨j,_⟩|⟨j,_⟩<;>(try cases j)
   rcases fR aj with⟨_,rfl⟩|⟨j,_⟩|⟨j,_⟩|⟨j,_⟩|⟨j,_⟩<;>(try cases j)
   cases hx;cases A;exact⟨(by first|exact h4 _ hu _|exact h5 _ hu _|exact h6 _ hu|exact h7 _ hu _ _|exact h8 _ hu _ _|exact h9 _ hu _ _ _ _ _|exact ia _ hu _ _ _ _ _|exact ib _ hu|exact ic _ hu _ _ _|exact ie _ hu _ _ _|exact ig _ hu _|exact ih _ hu _),fun _ _ he _=>(by cases he),fun he=>(by cases he)⟩
  ·rcases fR o with⟨_,rfl⟩|⟨j,_⟩|⟨j,_⟩|⟨j,_⟩|⟨j,_⟩<;>(try cases j)
   rcases ly aj with⟨_,_,_,rfl⟩|⟨j,_⟩|⟨j,_⟩|⟨j,_⟩|⟨j,_⟩<;>(try cases j)
   cases hx;cases A;exact⟨(by first|exact h4 _ hu _|exact h5 _ hu _|exact h6 _ hu|exact h7 _ hu _ _|exact h8 _ hu _ _|exact h9 _ hu _ _ _ _ _|exact ia _ hu _ _ _ _ _|exact ib _ hu|exact ic _ hu _ _ _|exact ie _ hu _ _ _|exact ig _ hu _|exact ih _ hu _),fun _ _ he _=>(by cases he),fun he=>(by cases he)⟩
  ·rcases ly o with⟨_,_,_,rfl⟩|⟨j,_⟩|⟨j,_⟩|⟨j,_⟩|⟨j,_⟩<;>(try cases j)
   rcases fR aj with⟨_,rfl⟩|⟨j,_⟩|⟨j,_⟩|⟨j,_⟩|⟨j,_⟩<;>(try cases j)
   cases hx;cases A;exact⟨(by first|exact h4 _ hu _|exact h5 _ hu _|exact h6 _ hu|exact h7 _ hu _ _|exact h8 _ hu _ _|exact h9 _ hu _ _ _ _ _|exact ia _ hu _ _ _ _ _|exact ib _ hu|exact ic _ hu _ _ _|exact ie _ hu _ _ _|exact ig _ hu _|exact ih _ hu _),fun _ _ he _=>(by cases he),fun he=>(by cases he)⟩
 |iface=>
  rw[hq]at h;simp only[cF]at h;obtain⟨e,hu⟩:=Dt hq;split at h<;>(try(cases h;done))<;>cases h<;>rename_i o aj
  ·rcases fR o with⟨j,_⟩|⟨_,rfl⟩|⟨j,_⟩|⟨j,_⟩|⟨j,_⟩<;>(try cases j)
   rcases fR aj with⟨j,_⟩|⟨_,rfl⟩|⟨j,_⟩|⟨j,_⟩|⟨j,_⟩<;>(try cases j)
   cases hx;cases A;exact⟨(by first|exact h4 _ hu _|exact h5 _ hu _|exact h6 _ hu|exact h7 _ hu _ _|exact h8 _ hu _ _|exact h9 _ hu _ _ _ _ _|exact ia _ hu _ _ _ _ _|exact ib _ hu|exact ic _ hu _ _ _|exact ie _ hu _ _ _|exact ig _ hu _|exact ih _ hu _),fun _ _ he _=>(by cases he),fun _=>rfl⟩
  ·rcases fR o with⟨j,_⟩|⟨_,rfl⟩|⟨j,_⟩|⟨j,_⟩|⟨j,_⟩<;>(try cases j)
   rcases ly aj with⟨j,_⟩|⟨_,_,_,rfl⟩|⟨j,_⟩|⟨j,_⟩|⟨j,_⟩<;>(try cases j)
   cases hx;cases A;exact⟨(by first|exact h4 _ hu _|exact h5 _ hu _|exact h6 _ hu|exact h7 _ hu _ _|exact h8 _ hu _ _|exact h9 _ hu _ _ _ _ _|exact ia _ hu _ _ _ _ _|exact ib _ hu|exact ic _ hu _ _ _|exact ie _ hu _ _ _|exact ig _ hu _|exact ih _ hu _),fun _ _ he _=>(by cases he),fun _=>rfl⟩
  ·rcases ly o with⟨j,_⟩|⟨_,_,_,rfl⟩|⟨j,_⟩|⟨j,_⟩|⟨j,_⟩<;>(try cases j)
   rcases fR aj with⟨j,_⟩|⟨_,rfl⟩|⟨j,_⟩|⟨j,_⟩|⟨j,_⟩<;>(try cases j)
   cases hx;cases A;exact⟨(by first|exact h4 _ hu _|exact h5 _ hu _|exact h6 _ hu|exact h7 _ hu _ _|exact h8 _ hu _ _|exact h9 _ hu _ _ _ _ _|exact ia _ hu _ _ _ _ _|exact ib _ hu|exact ic _ hu _ _ _|exact ie _ hu _ _ _|exact ig _ hu _|exact ih _ hu _),fun _ _ he _=>(by cases he),fun _=>rfl⟩
 |slice=>
  rw[hq]at h;simp only[cF]at h;obtain⟨e,hu⟩:=Du hq;split at h<;>(try(cases h;done))<;>cases h<;>rename_i o aj
  ·rcases fR o with⟨j,_⟩|⟨j,_⟩|⟨_,rfl⟩|⟨j,_⟩|⟨j,_⟩<;>(try cases j)
   rcases fR aj with⟨j,_⟩|⟨j,_⟩|⟨_,rfl⟩|⟨j,_⟩|⟨j,_⟩<;>(try cases j)
   cases hx;cases A;exact⟨(by first|exact h4 _ hu _|exact h5 _ hu _|exact h6 _ hu|exact h7 _ hu _ _|exact h8 _ hu _ _|exact h9 _ hu _ _ _ _ _|exact ia _ hu _ _ _ _ _|exact ib _ hu|exact ic _ hu _ _ _|exact ie _ hu _ _ _|exact ig _ hu _|exact ih _ hu _),fun _ _ he _=>(by cases he),fun he=>(by cases he)⟩
  ·rcases fR o with⟨j,_⟩|⟨j,_⟩|⟨_,rfl⟩|⟨j,_⟩|⟨j,_⟩<;>(try cases j)
   rcases ly aj with⟨j,_⟩|⟨j,_⟩|⟨_,_,_,_,_,rfl⟩|⟨j,_⟩|⟨j,_⟩<;>(try cases j)
   cases hx;cases A<;>
   exact⟨(by first|exact h4 _ hu _|exact h5 _ hu _|exact h6 _ hu|exact h7 _ hu _ _|exact h8 _ hu _ _|exact h9 _ hu _ _ _ _ _|exact ia _ hu _ _ _ _ _|exact ib _ hu|exact ic _ hu _ _ _|exact ie _ hu _ _ _|exact ig _ hu _|exact ih _ hu _),fun _ _ he _=>(by cases he),fun he=>(by cases he)⟩
  ·rcases ly o with⟨j,_⟩|⟨j,_⟩|⟨_,_,_,_,_,rfl⟩|⟨j,_⟩|⟨j,_⟩<;>(try cases j)
   rcases fR aj with⟨j,_⟩|⟨j,_⟩|⟨_,rfl⟩|⟨j,_⟩|⟨j,_⟩<;>(try cases j)
   cases A;cases hx<;>
   exact⟨(by first|exact h4 _ hu _|exact h5 _ hu _|exact h6 _ hu|exact h7 _ hu _ _|exact h8 _ hu _ _|exact h9 _ hu _ _ _ _ _|exact ia _ hu _ _ _ _ _|exact ib _ hu|exact ic _ hu _ _ _|exact ie _ hu _ _ _|exact ig _ hu _|exact ih _ hu _),fun _ _ he _=>(by cases he),fun he=>(by cases he)⟩
 |func=>
  rw[hq]at h;simp only[cF]at h;obtain⟨e,D,M,hu⟩:=Dv hq;split at h<;>(try(cases h;done))<;>cases h<;>rename_i o aj
  ·rcases fR o with⟨j,_⟩|⟨j,_⟩|⟨j,_⟩|⟨_,rfl⟩|⟨j,_⟩<;>(try cases j)
   rcases fR aj with⟨j,_⟩|⟨j,_⟩|⟨j,_⟩|⟨_,rfl⟩|⟨j,_⟩<;>(try cases j)
   cases hx;cases A;exact⟨(by first|exact h4 _ hu _|exact h5 _ hu _|exact h6 _ hu|exact h7 _ hu _ _|exact h8 _ hu _ _|exact h9 _ hu _ _ _ _ _|exact ia _ hu _ _ _ _ _|exact ib _ hu|exact ic _ hu _ _ _|exact ie _ hu _ _ _|exact ig _ hu _|exact ih _ hu _),fun _ _ he _=>(by cases he),fun he=>(by cases he)⟩
  ·rcases fR o with⟨j,_⟩|⟨j,_⟩|⟨j,_⟩|⟨_,rfl⟩|⟨j,_⟩<;>(try cases j)
   rcases ly aj with⟨j,_⟩|⟨j,_⟩|⟨j,_⟩|⟨_,_,_,rfl⟩|⟨j,_⟩<;>(try cases j)
   cases hx;cases A;exact⟨(by first|exact h4 _ hu _|exact h5 _ hu _|exact h6 _ hu|exact h7 _ hu _ _|exact h8 _ hu _ _|exact h9 _ hu _ _ _ _ _|exact ia _ hu _ _ _ _ _|exact ib _ hu|exact ic _ hu _ _ _|exact ie _ hu _ _ _|exact ig _ hu _|exact ih _ hu _),fun _ _ he _=>(by cases he),fun he=>(by cases he)⟩
  ·rcases ly o with⟨j,_⟩|⟨j,_⟩|⟨j,_⟩|⟨_,_,_,rfl⟩|⟨j,_⟩<;>(try cases j)
   rcases fR aj with⟨j,_⟩|⟨j,_⟩|⟨j,_⟩|⟨_,rfl⟩|⟨j,_⟩<;>(try cases j)
   cases hx;cases A;exact⟨(by first|exact h4 _ hu _|exact h5 _ hu _|exact h6 _ hu|exact h7 _ hu _ _|exact h8 _ hu _ _|exact h9 _ hu _ _ _ _ _|exact ia _ hu _ _ _ _ _|exact ib _ hu|exact ic _ hu _ _ _|exact ie _ hu _ _ _|exact ig _ hu _|exact ih _ hu _),fun _ _ he _=>(by cases he),fun he=>(by cases he)⟩
 |map=>
  rw[hq]at h;simp only[cF]at h;obtain⟨e,D,hu⟩:=Dw hq;split at h<;>(try(cases h;done))<;>cases h<;>rename_i o aj
  ·rcases fR o with⟨j,_⟩|⟨j,_⟩|⟨j,_⟩|⟨j,_⟩|⟨_,rfl⟩<;>(try cases j)
   rcases fR aj with⟨j,_⟩|⟨j,_⟩|⟨j,_⟩|⟨j,_⟩|⟨_,rfl⟩<;>(try cases j)
   cases hx;cases A;exact⟨(by first|exact h4 _ hu _|exact h5 _ hu _|exact h6 _ hu|exact h7 _ hu _ _|exact h8 _ hu _ _|exact h9 _ hu _ _ _ _ _|exact ia _ hu _ _ _ _ _|exact ib _ hu|exact ic _ hu _ _ _|exact ie _ hu _ _ _|exact ig _ hu _|exact ih _ hu _),fun _ _ he _=>(by cases he),fun he=>(by cases he)⟩
  ·rcases fR o with⟨j,_⟩|⟨j,_⟩|⟨j,_⟩|⟨j,_⟩|⟨_,rfl⟩<;>(try cases j)
   rcases ly aj with⟨j,_⟩|⟨j,_⟩|⟨j,_⟩|⟨j,_⟩|⟨_,_,rfl⟩<;>(try cases j)
   cases hx;cases A;exact⟨(by first|exact h4 _ hu _|exact h5 _ hu _|exact h6 _ hu|exact h7 _ hu _ _|exact h8 _ hu _ _|exact h9 _ hu _ _ _ _ _|exact ia _ hu _ _ _ _ _|exact ib _ hu|exact ic _ hu _ _ _|exact ie _ hu _ _ _|exact ig _ hu _|exact ih _ hu _),fun _ _ he _=>(by cases he),fun he=>(by cases he)⟩
  ·rcases ly o with⟨j,_⟩|⟨j,_⟩|⟨j,_⟩|⟨j,_⟩|⟨_,_,rfl⟩<;>(try cases j)
   rcases fR aj with⟨j,_⟩|⟨j,_⟩|⟨j,_⟩|⟨j,_⟩|⟨_,rfl⟩<;>(try cases j)
   cases hx;cases A;exact⟨(by first|exact h4 _ hu _|exact h5 _ hu _|exact h6 _ hu|exact h7 _ hu _ _|exact h8 _ hu _ _|exact h9 _ hu _ _ _ _ _|exact ia _ hu _ _ _ _ _|exact ib _ hu|exact ic _ hu _ _ _|exact ie _ hu _ _ _|exact ig _ hu _|exact ih _ hu _),fun _ _ he _=>(by cases he),fun he=>(by cases he)⟩
end Go.Ev
