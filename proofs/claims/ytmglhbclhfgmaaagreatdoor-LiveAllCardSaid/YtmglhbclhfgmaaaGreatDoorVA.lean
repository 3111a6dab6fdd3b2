/- A part of the proof of glacislaw13.LiveAll (made short by a program). -/
import GoSem.Core.World
import GoSem.Core.View
import GoSem.Op.String
import GoSem.Core.Layout
import GoSem.Core.Region
import GoSem.Op.Equal
import Derived.Control
import Derived.Laws.Sem
import GoSem.Dispatch
import Derived.Laws.StructEq
import Derived.Laws.Strings2
import Derived.Laws.Concat
import Derived.IntWalk
namespace Go.Ev
theorem E8:type_of% @Option.some.injEq.{0}:=@Option.some.injEq
theorem pg:type_of% @if_neg.{1}:=@if_neg
theorem G6:type_of% @decide_eq_true_eq:=@decide_eq_true_eq
theorem KJ:type_of% @List.getElem?_eq_getElem.{0}:=@List.getElem?_eq_getElem
theorem NI:type_of% @decide_eq_false_iff_not:=@decide_eq_false_iff_not
theorem Rm:type_of% @List.drop_eq_getElem_cons.{0}:=@List.drop_eq_getElem_cons
theorem B4:type_of% @if_pos.{1}:=@if_pos
theorem B5:type_of% @Nat.le_refl:=@Nat.le_refl
theorem G7:type_of% @Bool.and_eq_true:=@Bool.and_eq_true
theorem KK:type_of% @List.append_assoc.{0}:=@List.append_assoc
theorem E7:type_of% @cond_true.{1}:=@cond_true
theorem apG:type_of% @List.getElem?_append_right.{0}:=@List.getElem?_append_right
theorem W0:type_of% @Bool.or_eq_false_iff:=@Bool.or_eq_false_iff
theorem apQ:type_of% @List.getElem?_append_left.{0}:=@List.getElem?_append_left
theorem Rn:type_of% @List.length_drop.{0}:=@List.length_drop
theorem apX:type_of% @List.getElem?_cons_succ.{0}:=@List.getElem?_cons_succ
theorem WV:type_of% @List.drop_length.{0}:=@List.drop_length
theorem aqd:type_of% @List.take_succ_eq_append_getElem.{0}:=@List.take_succ_eq_append_getElem
theorem WW:type_of% @List.length_cons.{0}:=@List.length_cons
theorem ap8:type_of% @List.eq_nil_of_length_eq_zero.{0}:=@List.eq_nil_of_length_eq_zero
theorem ap1:type_of% @List.getElem?_eq_some_iff.{0}:=@List.getElem?_eq_some_iff
theorem amI:type_of% @List.mem_cons_of_mem.{0}:=@List.mem_cons_of_mem
theorem apY:type_of% @Nat.eq_of_beq_eq_true:=@Nat.eq_of_beq_eq_true
theorem W1:type_of% @List.getElem_mem.{0}:=@List.getElem_mem
theorem amv:type_of% @List.length_append.{0}:=@List.length_append
theorem Ro:type_of% @List.mem_cons.{0}:=@List.mem_cons
theorem ap4:type_of% @Option.isSome_iff_exists.{0}:=@Option.isSome_iff_exists
theorem ab7:type_of% @List.length_take.{0}:=@List.length_take
theorem apH:type_of% @Bool.not_eq_true':=@Bool.not_eq_true'
theorem apR:type_of% @Bool.not_eq_false':=@Bool.not_eq_false'
theorem KL:type_of% @cond_false.{1}:=@cond_false
theorem apV:type_of% @List.mem_cons_self.{0}:=@List.mem_cons_self
theorem amt:type_of% @Bool.or_eq_true:=@Bool.or_eq_true
theorem ap5:type_of% @Nat.le_of_ble_eq_true:=@Nat.le_of_ble_eq_true
theorem amw:type_of% @List.map_append.{0,0}:=@List.map_append
theorem lb1:type_of% @Array.getElem?_eq_some_iff.{0}:=@Array.getElem?_eq_some_iff
theorem aqe:type_of% @List.getElem?_cons_zero.{0}:=@List.getElem?_cons_zero
theorem aqg:type_of% @Option.bind_eq_some_iff.{0,0}:=@Option.bind_eq_some_iff
theorem ap2:type_of% @List.take_length.{0}:=@List.take_length
theorem ap0:type_of% @Option.map_some.{0,0}:=@Option.map_some
theorem ap6:type_of% @List.all_eq_true.{0}:=@List.all_eq_true
theorem apW:type_of% @Prod.mk.injEq.{0,0}:=@Prod.mk.injEq
theorem aqm:type_of% @Nat.ble_eq_true_of_le:=@Nat.ble_eq_true_of_le
theorem amu:type_of% @Nat.zero_le:=@Nat.zero_le
theorem ap9:type_of% @List.append_nil.{0}:=@List.append_nil
theorem lb4:type_of% @Array.getElem?_setIfInBounds_self_of_lt.{0}:=@Array.getElem?_setIfInBounds_self_of_lt
theorem lb3:type_of% @Array.getElem?_setIfInBounds_ne.{0}:=@Array.getElem?_setIfInBounds_ne
theorem aqa:type_of% @List.nil_append.{0}:=@List.nil_append
theorem aqi:type_of% @List.getElem?_drop.{0}:=@List.getElem?_drop
theorem aqs:type_of% @Bool.and_eq_false_iff:=@Bool.and_eq_false_iff
theorem ap3:type_of% @List.map_cons.{0,0}:=@List.map_cons
theorem aqj:type_of% @List.mem_singleton.{0}:=@List.mem_singleton
theorem aqo:type_of% @Int.toNat_natCast:=@Int.toNat_natCast
theorem aqp:type_of% @Option.map_eq_some_iff.{0,0}:=@Option.map_eq_some_iff
theorem aqw:type_of% @List.drop_of_length_le.{0}:=@List.drop_of_length_le
theorem ap7:type_of% @Nat.zero_add:=@Nat.zero_add
theorem aqk:type_of% @List.foldl_cons.{0,0}:=@List.foldl_cons
theorem aqz:type_of% @List.take_of_length_le.{0}:=@List.take_of_length_le
theorem aqn:type_of% @Nat.min_eq_left:=@Nat.min_eq_left
theorem aqf:type_of% @Nat.add_assoc:=@Nat.add_assoc
theorem aqA:type_of% @List.take_append_drop.{0}:=@List.take_append_drop
theorem aqh:type_of% @List.mem_append.{0}:=@List.mem_append
theorem aqt:type_of% @List.getElem?_take.{0}:=@List.getElem?_take
theorem aqb:type_of% @Nat.le_trans:=@Nat.le_trans
theorem apZ:type_of% @List.length_map.{0,0}:=@List.length_map
theorem aqx:type_of% @List.pairwise_cons.{0}:=@List.pairwise_cons
theorem aqL:type_of% @List.length_replicate.{0}:=@List.length_replicate
theorem aqc:type_of% @Int.le_refl:=@Int.le_refl
theorem aql:type_of% @Bool.true_and:=@Bool.true_and
theorem aqB:type_of% @Nat.lt_of_lt_of_le:=@Nat.lt_of_lt_of_le
theorem aqy:type_of% @Nat.lt_succ_self:=@Nat.lt_succ_self
theorem aqT:type_of% @Nat.add_sub_cancel_left:=@Nat.add_sub_cancel_left
theorem aqM:type_of% @List.mem_of_getElem?.{0}:=@List.mem_of_getElem?
theorem aqU:type_of% @List.getElem?_toArray.{0}:=@List.getElem?_toArray
theorem aqG:type_of% @List.getElem?_set.{0}:=@List.getElem?_set
theorem aqH:type_of% @List.getElem?_map.{0,0}:=@List.getElem?_map
theorem lb2:type_of% @Array.getElem?_modify.{0}:=@Array.getElem?_modify
theorem aqu:type_of% @Bool.false_or:=@Bool.false_or
theorem aqN:type_of% @Bool.false_eq_true:=@Bool.false_eq_true
theorem aqC:type_of% @Bool.eq_iff_iff:=@Bool.eq_iff_iff
theorem aqV:type_of% @Int.ofNat_eq_natCast:=@Int.ofNat_eq_natCast
theorem aqq:type_of% @Nat.sub_self:=@Nat.sub_self
theorem aqI:type_of% @List.cons_append.{0}:=@List.cons_append
theorem aqO:type_of% @Bool.eq_false_iff:=@Bool.eq_false_iff
theorem aq8:type_of% @List.eq_of_mem_replicate.{0}:=@List.eq_of_mem_replicate
theorem aqD:type_of% @Option.getD_some.{0}:=@Option.getD_some
theorem aqP:type_of% @Option.bind_some.{0,0}:=@Option.bind_some
theorem aqr:type_of% @Nat.add_mul:=@Nat.add_mul
theorem aqQ:type_of% @List.map_toArray.{0,0}:=@List.map_toArray
theorem lb7:type_of% @Array.toArray_toList.{0}:=@Array.toArray_toList
theorem lb0:type_of% @Array.getElem?_append_left.{0}:=@Array.getElem?_append_left
theorem aqE:type_of% @Nat.lt_or_ge:=@Nat.lt_or_ge
theorem aq9:type_of% @List.getElem?_eq_none.{0}:=@List.getElem?_eq_none
theorem aqJ:type_of% @List.all_cons.{0}:=@List.all_cons
theorem aqK:type_of% @Bool.and_true:=@Bool.and_true
theorem ara:type_of% @List.mem_or_eq_of_mem_set.{0}:=@List.mem_or_eq_of_mem_set
theorem arb:type_of% @Nat.mul_le_mul_right:=@Nat.mul_le_mul_right
theorem aq2:type_of% @Nat.lt_succ_of_lt:=@Nat.lt_succ_of_lt
theorem aqW:type_of% @List.length_nil.{0}:=@List.length_nil
theorem aqF:type_of% @Nat.le_succ:=@Nat.le_succ
theorem aqR:type_of% @Bool.not_true:=@Bool.not_true
theorem aqX:type_of% @List.getElem_map.{0,0}:=@List.getElem_map
theorem aqY:type_of% @List.drop_zero.{0}:=@List.drop_zero
theorem arl:type_of% @List.drop_eq_nil_of_le.{0}:=@List.drop_eq_nil_of_le
theorem aqS:type_of% @List.map_nil.{0,0}:=@List.map_nil
theorem aq3:type_of% @List.cons.injEq.{0}:=@List.cons.injEq
theorem lb5:type_of% @Array.getElem?_toList.{0}:=@Array.getElem?_toList
theorem aq4:type_of% @Nat.mul_le_mul:=@Nat.mul_le_mul
theorem aq5:type_of% @List.take_zero.{0}:=@List.take_zero
theorem arG:type_of% @List.mem_of_find?_eq_some.{0}:=@List.mem_of_find?_eq_some
theorem aq6:type_of% @List.drop_drop.{0}:=@List.drop_drop
theorem arH:type_of% @List.getElem?_take_of_lt.{0}:=@List.getElem?_take_of_lt
theorem arn:type_of% @Nat.add_sub_cancel:=@Nat.add_sub_cancel
theorem arI:type_of% @List.getElem_cons_drop.{0}:=@List.getElem_cons_drop
theorem aro:type_of% @List.ext_getElem?.{0}:=@List.ext_getElem?
theorem arc:type_of% @UInt8.toNat_lt:=@UInt8.toNat_lt
theorem arp:type_of% @Nat.mod_eq_of_lt:=@Nat.mod_eq_of_lt
theorem arq:type_of% @Nat.le_add_right:=@Nat.le_add_right
theorem ars:type_of% @List.filter_cons.{0}:=@List.filter_cons
theorem lb9:type_of% @Array.toList_map.{0,0}:=@Array.toList_map
theorem lb8:type_of% @Array.toList_inj.{0}:=@Array.toList_inj
theorem arJ:type_of% @List.getElem?_modify.{0}:=@List.getElem?_modify
theorem arT:type_of% @List.dropLast_concat_getLast.{0}:=@List.dropLast_concat_getLast
theorem ard:type_of% @Bool.toNat_le:=@Bool.toNat_le
theorem art:type_of% @UInt8.toNat_inj:=@UInt8.toNat_inj
theorem aru:type_of% @Option.map_none.{0,0}:=@Option.map_none
theorem arv:type_of% @Nat.not_lt_zero:=@Nat.not_lt_zero
theorem arK:type_of% @List.replicate_succ.{0}:=@List.replicate_succ
theorem arw:type_of% @List.length_set.{0}:=@List.length_set
theorem arL:type_of% @List.length_pos_iff.{0}:=@List.length_pos_iff
theorem arU:type_of% @Int.tmod_eq_emod_of_nonneg:=@Int.tmod_eq_emod_of_nonneg
theorem are:type_of% @Nat.le_of_lt:=@Nat.le_of_lt
theorem arf:type_of% @List.mem_map.{0,0}:=@List.mem_map
theorem arx:type_of% @Int.negSucc_eq:=@Int.negSucc_eq
theorem arM:type_of% @List.foldl_append.{0,0}:=@List.foldl_append
theorem arN:type_of% @List.flatMap_cons.{0,0}:=@List.flatMap_cons
theorem lb6:type_of% @Array.size_append.{0}:=@Array.size_append
theorem arh:type_of% @Nat.one_mul:=@Nat.one_mul
theorem ary:type_of% @List.sum_cons.{0}:=@List.sum_cons
theorem arV:type_of% @List.getElem?_replicate.{0}:=@List.getElem?_replicate
theorem arW:type_of% @List.not_mem_nil.{0}:=@List.not_mem_nil
theorem arO:type_of% @Option.some.inj.{0}:=@Option.some.inj
theorem arz:type_of% @Nat.beq_refl:=@Nat.beq_refl
theorem arA:type_of% @Nat.add_comm:=@Nat.add_comm
theorem arP:type_of% @List.length_zip.{0,0}:=@List.length_zip
theorem arX:type_of% @List.getElem_set_self.{0}:=@List.getElem_set_self
theorem arB:type_of% @List.all_nil.{0}:=@List.all_nil
theorem arQ:type_of% @List.all_append.{0}:=@List.all_append
theorem arR:type_of% @Int.natCast_pow:=@Int.natCast_pow
theorem ari:type_of% @Nat.blt_eq:=@Nat.blt_eq
end Go.Ev
namespace Go.Ev
inductive Pa where
 |z
 |l (p:Pa)
 |r (p:Pa)
 deriving DecidableEq
def Pa.toNat:Pa→Nat
 |.z=>0
 |.l p=>2*p.toNat+1
 |.r p=>2*p.toNat+2
def Pa.succ:Pa→Pa
 |.z=>.l .z
 |.l p=>.r p
 |.r p=>.l p.succ
def Pa.of:Nat→Nat→Pa
 |0,_=>.z
 |f+1,k=>if k=0 then .z else if k%2=1 then .l (Pa.of f (k/2))else .r (Pa.of f (k/2-1))
def Pa.beq:Pa→Pa→Bool
 |.z,.z=>true
 |.l p,.l q=>p.beq q
 |.r p,.r q=>p.beq q
 |_,_=>false
inductive NK where
 |ptr|sl|map|fn|iface|bot
inductive hW where
 |ex (c:Nat)
 |un (s:Nat)
inductive V where
 |bool (b:Bool)
 |int (k:IntKind) (n:Int)
 |str (s:List UInt8)
 |ptr (a:Pa) (o:Nat)
 |sl (a:Pa) (o n:Nat) (c:hW)
 |agg (l:List V)
 |aM (l:List V)
 |no (k:NK)
 |map (a:Pa)
 |fn (f:Nat) (bf:List V)
 |gV (l:Pa)
 |iface (t:Nat) (v:V)
inductive T (U:Type)where
 |E
 |N (v:Option U) (l r:T U)
structure bm (B:Type)where
 next:Pa
 t:T B
inductive Od where
 |t (i:Pa)
 |c (v:V)
inductive jL where
 |i|b|s
inductive cV where
 |flat (q:jL)
 |ptr
 |iface
 |slice
 |func
 |map
 |agg (l:List (Nat×jL))
 |no
inductive qv where
 |ret
 |exit (id:Nat)
inductive Def where
 |call (f:Nat) (args:List V)
 |mark (a:Pa)
inductive lj where
 |call (f:Nat) (args:List V)
 |yield (l:Pa) (args:List V)
 |defer (d:Def)
 |recover
 |panic (v:V)
 |bad (n:Nat)
inductive Sm (B:Type)where
 |pu (f:T V→bm B→Option V)
 |dw (f:T V→Option (B×(Pa→V)))
 |st (f:T V→bm B→Option (V×bm B))
 |ed (f:T V→lj)
structure RO (B:Type)where
 dst:Option Pa
 sA:Sm B
 guard:Option (Pa×Bool)
inductive RS (B:Type)where
 |op (o:RO B)
 |cf (o:RO B)
inductive IC (B:Type)where
 |skip
 |region (rs:List (RS B))
 |seq (a b:IC B)
 |cond (c:Od) (a b:IC B)
 |block (id:Nat) (b:IC B)
 |loop (b:IC B)
 |rangeFunc (f:Od) (ps:List Pa) (a b:IC B)
 |exit (id:Nat)
 |ret
 |bad
structure sB where
 state:LoopState
 pending:Option qv
 fn:Nat
 nt:Nat
 env:T V
 params:List Pa
inductive al where
 |cells (l:List V) (dead:Bool)
 |ro (l:List V)
 |map (es:List (V×V×Nat)) (clock:Nat)
 |loop (l:sB)
 |dH (live:Bool)
end Go.Ev
namespace Go.Ev
noncomputable section
def T.get {U:Type} (t:T U):Pa→Option U:=
 T.rec (motive:=fun _=>Pa→Option U) (fun _=>none)
  (fun v _ _ zN zO p=>Pa.rec (motive:=fun _=>Option U) v (fun p _=>zN p) (fun p _=>zO p) p) t
def T.one {U:Type} (x:U) (p:Pa):T U:=
 Pa.rec (motive:=fun _=>T U) (.N (some x) .E .E) (fun _ ih=>.N none ih .E) (fun _ ih=>.N none .E ih) p
def T.set {U:Type} (x:U) (t:T U):Pa→T U:=
 T.rec (motive:=fun _=>Pa→T U) (fun p=>T.one x p)
  (fun v l r zN zO p=>Pa.rec (motive:=fun _=>T U) (.N (some x) l r) (fun p _=>.N v (zN p) r) (fun p _=>.N v l (zO p)) p) t
end
end Go.Ev
namespace Go.Ev
noncomputable section
abbrev Hp:=bm al
abbrev bz:=Sm al
def bm.get {B:Type} (h:bm B) (a:Pa):Option B:=h.t.get a
def bm.put {B:Type} (h:bm B) (a:Pa) (b:B):bm B:=⟨h.next,h.t.set b a⟩
def bm.alloc {B:Type} (h:bm B) (b:B):bm B:=⟨h.next.succ,h.t.set b h.next⟩
def jc:Int→Int→Bool
 |.ofNat a,.ofNat b=>Nat.blt a b
 |.ofNat _,.negSucc _=>false
 |.negSucc _,.ofNat _=>true
 |.negSucc a,.negSucc b=>Nat.blt b a
def iw:Int→Int→Bool
 |.ofNat a,.ofNat b=>Nat.beq a b
 |.ofNat _,.negSucc _=>false
 |.negSucc _,.ofNat _=>false
 |.negSucc a,.negSucc b=>Nat.beq a b
def B6:Int→Int→Int
 |.ofNat a,.ofNat b=>.ofNat (Nat.add a b)
 |a,b=>a+b
def B7:Int→Int→Int
 |.ofNat a,.ofNat b=>bif Nat.ble b a then .ofNat (Nat.sub a b)else .ofNat a-.ofNat b
 |a,b=>a-b
def E9:Int→Int→Int
 |.ofNat a,.ofNat b=>.ofNat (Nat.mul a b)
 |a,b=>a*b
def qw:IntKind→Nat
 |.i8=>127|.i16=>32767|.i32=>2147483647|.i64=>9223372036854775807
 |.u8=>255|.u16=>65535|.u32=>4294967295|.u64=>18446744073709551615
def e6 (k:IntKind):Int→Int
 |.ofNat a=>bif Nat.ble a (qw k)then .ofNat a else k.wrap (.ofNat a)
 |.negSucc a=>bif k.signed&&Nat.ble a (qw k)then .negSucc a else k.wrap (.negSucc a)
def KM:IntKind→Nat
 |.i8=>0|.i16=>1|.i32=>2|.i64=>3|.u8=>4|.u16=>5|.u32=>6|.u64=>7
def cW (a b:IntKind):Bool:=Nat.beq (KM a) (KM b)
def B8 (a b:Bool):Bool:=bif a then b else !b
def nN:List UInt8→List UInt8→Bool
 |[],[]=>true
 |a::x,b::y=>bif Nat.beq a.toNat b.toNat then nN x y else false
 |_,_=>false
def ph:List UInt8→List UInt8→Bool
 |_,[]=>false
 |[],_::_=>true
 |a::x,b::y=>bif Nat.blt a.toNat b.toNat then true else bif Nat.beq a.toNat b.toNat then ph x y else false
def fq (q:jL) (x y:V):Option Bool:=
 match q with
 |.i=>match x with
  |.int k a=>match y with
   |.int k' b=>bif cW k k' then some (iw a b)else none
   |_=>none
  |_=>none
 |.b=>match x with
  |.bool a=>match y with
   |.bool b=>some (B8 a b)
   |_=>none
  |_=>none
 |.s=>match x with
  |.str a=>match y with
   |.str b=>some (nN a b)
   |_=>none
  |_=>none
def nth {U:Type}:List U→Nat→Option U
 |[],_=>none
 |a::l,n=>bif Nat.beq n 0 then some a else nth l (Nat.sub n 1)
def pj (x y:List V):List (Nat×jL)→Option Bool
 |[]=>some true
 |(o,q)::r=>match nth x o with
  |none=>none
  |some a=>match nth y o with
   |none=>none
   |some b=>match fq q a b with
    |some true=>pj x y r
    |some false=>some false
    |none=>none
inductive ace where
 |nil|some|other
def isNil (q:cV):V→ace
 |.no k=>match q,k with
  |.ptr,.ptr=>.nil
  |.iface,.iface=>.nil
  |.slice,.sl=>.nil
  |.func,.fn=>.nil
  |.map,.map=>.nil
  |_,_=>.other
 |.ptr _ _=>match q with|.ptr=>.some|_=>.other
 |.iface _ _=>match q with|.iface=>.some|_=>.other
 |.sl ..=>match q with|.slice=>.some|_=>.other
 |.fn ..=>match q with|.func=>.some|_=>.other
 |.map _=>match q with|.map=>.some|_=>.other
 |_=>.other
def da (q:cV) (x y:V):Option Bool:=
 match q with
 |.flat q=>fq q x y
 |.agg l=>match x with
  |.agg a=>match y with
   |.agg b=>pj a b l
   |_=>none
  |_=>none
 |q=>match isNil q x,isNil q y with
  |.nil,.nil=>some true
  |.nil,.some=>some false
  |.some,.nil=>some false
  |_,_=>none
def KN (op:BinOp) (k:IntKind) (a b:Int):Option V:=
 match op with
 |.add=>some (.int k (e6 k (B6 a b)))
 |.sub=>some (.int k (e6 k (B7 a b)))
 |.mul=>some (.int k (e6 k (E9 a b)))
 |.quo=>bif iw b 0 then none else some (.int k (e6 k (a.tdiv b)))
 |.rem=>bif iw b 0 then none else some (.int k (a.tmod b))
 |.and=>some (.int k (k.wrap (BitVec.ofInt k.bits a&&&BitVec.ofInt k.bits b).toNat))
 |.or=>some (.int k (k.wrap (BitVec.ofInt k.bits a|||BitVec.ofInt k.bits b).toNat))
 |.xor=>some (.int k (k.wrap (BitVec.ofInt k.bits a^^^BitVec.ofInt k.bits b).toNat))
 |.andNot=>some (.int k (k.wrap (BitVec.ofInt k.bits a&&&~~~BitVec.ofInt k.bits b).toNat))
 |.eql=>some (.bool (iw a b))
 |.neq=>some (.bool (!iw a b))
 |.lss=>some (.bool (jc a b))
 |.leq=>some (.bool (!jc b a))
 |.gtr=>some (.bool (jc b a))
 |.geq=>some (.bool (!jc a b))
 |.shl=>none
 |.shr=>none
def uA (left:Bool) (k:IntKind) (a b:Int):Option V:=
 bif jc b 0 then none else
 bif left then some (.int k (k.wrap (a*2^(min b.toNat k.bits))))else some (.int k (a.fdiv (2^(min b.toNat k.bits))))
def KO (op:BinOp) (a b:List UInt8):Option V:=
 match op with
 |.add=>bif Nat.ble (a.length+b.length) 9223372036854775807 then some (.str (a++b))else none
 |.eql=>some (.bool (nN a b))
 |.neq=>some (.bool (!nN a b))
 |.lss=>some (.bool (ph a b))
 |.leq=>some (.bool (ph a b||nN a b))
 |.gtr=>some (.bool (!(ph a b||nN a b)))
 |.geq=>some (.bool (!ph a b))
 |_=>none
def KP (op:BinOp) (x y:V):Option V:=
 match x with
 |.int k a=>match y with
  |.int k' b=>bif cW k k' then KN op k a b else none
  |_=>none
 |.str a=>match y with
  |.str b=>KO op a b
  |_=>none
 |_=>none
def cg (op:BinOp) (q:cV) (x y:V):Option V:=
 match op with
 |.shl=>match x with
  |.int k a=>match y with
   |.int _ b=>uA true k a b
   |_=>none
  |_=>none
 |.shr=>match x with
  |.int k a=>match y with
   |.int _ b=>uA false k a b
   |_=>none
  |_=>none
 |.eql=>(da q x y).map .bool
 |.neq=>(da q x y).map fun b=>.bool (!b)
 |op=>KP op x y
def yX (op:UnOp) (x:V):Option V:=
 match op with
 |.neg=>match x with
  |.int k n=>some (.int k (e6 k (B7 0 n)))
  |_=>none
 |.not=>match x with
  |.bool b=>some (.bool (!b))
  |_=>none
 |.xor=>match x with
  |.int k n=>some (.int k (k.wrap (BitVec.ofInt k.bits (if k.signed then-1 else k.max)^^^BitVec.ofInt k.bits n).toNat))
  |_=>none
 |.plus=>none
def T.val (e:T V) (i:Pa):V:=match e.get i with|some v=>v|none=>.no .bot
def Od.ev (e:T V):Od→V
 |.t i=>e.val i
 |.c v=>v
def ea (e:T V):List Od→List V
 |[]=>[]
 |x::r=>x.ev e::ea e r
def aZ (e:T V):Option Od→Option V
 |none=>none
 |some x=>some (x.ev e)
def V.cells:V→List V
 |.agg l=>l
 |v=>[v]
def takeN {U:Type}:Nat→List U→Option (List U)
 |0,_=>some []
 |n+1,l=>match l with
  |a::l=>match takeN n l with|some r=>some (a::r)|none=>none
  |[]=>none
def qx {U:Type}:Nat→List U→List U
 |0,l=>l
 |n+1,l=>match l with
  |_::l=>qx n l
  |[]=>[]
def over:List V→List V→Option (List V)
 |l,[]=>some l
 |l,x::xs=>match l with
  |_::l=>match over l xs with|some r=>some (x::r)|none=>none
  |[]=>none
def dk:Nat→List V→List V→Option (List V)
 |0,l,xs=>over l xs
 |n+1,l,xs=>match l with
  |a::l=>match dk n l xs with|some r=>some (a::r)|none=>none
  |[]=>none
def bm.cells (h:Hp) (a:Pa):Option (List V):=
 match h.get a with
 |none=>none
 |some b=>match b with
  |.cells l d=>bif d then none else some l
  |.ro l=>some l
  |_=>none
def bm.cl (h:Hp) (a:Pa) (o n:Nat):Option (List V):=
 match h.cells a with
 |some l=>takeN n (qx o l)
 |none=>none
def isScalar:V→Bool
 |.agg _=>false
 |.aM _=>false
 |.no k=>match k with|.bot=>false|_=>true
 |_=>true
def aY:List V→Bool
 |[]=>true
 |v::l=>bif isScalar v then aY l else false
def bm.db (h:Hp) (a:Pa) (o:Nat) (xs:List V):Option Hp:=
 match h.get a with
 |none=>none
 |some b=>match b with
  |.cells l d=>bif d then none else bif aY xs then match dk o l xs with|some l'=>some (h.put a (.cells l' false))|none=>none else none
  |_=>none
def jd (e:T V):List (Nat×Nat×Od)→List V→Option (List V)
 |[],z=>some z
 |(o,n,x)::r,z=>
  let cs:=(x.ev e).cells
  bif Nat.beq cs.length n then bif aY cs then match dk o z cs with|some z'=>jd e r z'|none=>none else none else none
def c5 (b:UInt8):V:=.int .u8 (.ofNat b.toNat)
def bytesOf:List V→Option (List UInt8)
 |[]=>some []
 |v::l=>match v with
  |.int k n=>match k with
   |.u8=>match bytesOf l with|some r=>some (UInt8.ofNat n.toNat::r)|none=>none
   |_=>none
  |_=>none
def part (n:Option Nat) (l:List V) (o:Nat):Option V:=
 match n with
 |none=>nth l o
 |some n=>match takeN n (qx o l)with|some r=>some (.agg r)|none=>none
def ee (d:Nat) (y:Nat):Option V→Option Nat
 |none=>some d
 |some v=>match v with
  |.int _ i=>match i with
   |.ofNat i=>bif Nat.ble i y then some i else none
   |.negSucc _=>none
  |_=>none
def eD (n c:Nat) (lo hi mx:Option V):Option (Nat×Nat×Nat):=
 match ee c c mx with
 |none=>none
 |some m=>match ee n m hi with
  |none=>none
  |some h=>match ee 0 h lo with
   |none=>none
   |some l=>some (l,h,m)
def KQ (n ba:Nat) (x:V) (lo hi:Option V):Option V:=
 match x with
 |.ptr a o=>match eD n n lo hi none with
  |some (l,h,m)=>some (.sl a (bif Nat.beq m l then o else o+l*ba) (h-l) (.ex (m-l)))
  |none=>none
 |_=>none
def je (x:V) (lo hi:Option V):Option V:=
 match x with
 |.str s=>match eD s.length s.length lo hi none with
  |some (l,h,_)=>match takeN (h-l) (qx l s)with|some r=>some (.str r)|none=>none
  |none=>none
 |_=>none
def ef (ba:Nat) (x:V) (lo hi mx:Option V):Option V:=
 match x with
 |.no k=>match k with
  |.sl=>match eD 0 0 lo hi mx with
   |some _=>some (.no .sl)
   |none=>none
  |_=>none
 |.sl a o n c=>match c with
  |.ex c=>match eD n c lo hi mx with
   |some (l,h,m)=>some (.sl a (bif Nat.beq m l then o else o+l*ba) (h-l) (.ex (m-l)))
   |none=>none
  |.un s=>bif Nat.beq s ba then match eD n n lo hi mx with
   |some (l,h,m)=>match mx with
    |none=>some (.sl a (o+l*ba) (h-l) (.un s))
    |some _=>bif Nat.blt l m then some (.sl a (o+l*ba) (h-l) (.ex (m-l)))else some (.sl a o 0 (.ex 0))
   |none=>none else none
 |_=>none
def qy (h:Hp) (ba:Nat) (a:Pa) (o:Nat):Nat:=
 match h.get a with
 |some b=>match b with
  |.cells l d=>bif d then 0 else Nat.div (Nat.sub l.length o) ba
  |_=>0
 |none=>0
def uB (h:Hp) (ba:Nat) (x:V) (lo hi:Option V):Option V:=
 match x with
 |.sl a o n c=>match c with
  |.un s=>bif Nat.beq s ba then
    bif Nat.ble n (qy h ba a o)then match eD n (qy h ba a o) lo hi none with
     |some (l,hh,_)=>some (.sl a (o+l*ba) (hh-l) (.un s))
     |none=>none
    else none
   else none
  |_=>none
 |_=>none
def iQ (q:cV) (k:V):List (V×V×Nat)→Nat→Option (Option (Nat×V))
 |[],_=>some none
 |(k',v,_)::r,i=>match da q k k' with
  |some b=>bif b then some (some (i,v))else iQ q k r (i+1)
  |none=>none
def B9 (q:jL) (k:V):Bool:=
 match q with
 |.i=>match k with|.int _ _=>true|_=>false
 |.b=>match k with|.bool _=>true|_=>false
 |.s=>match k with|.str _=>true|_=>false
def Fa (a:List V):List (Nat×jL)→Bool
 |[]=>true
 |(o,q)::r=>match nth a o with
  |some k=>bif B9 q k then Fa a r else false
  |none=>false
def fits (q:cV) (k:V):Bool:=
 match q with
 |.flat q=>B9 q k
 |.agg l=>match k with|.agg a=>Fa a l|_=>false
 |_=>false
def bm.mapOf (h:Hp):V→Option (List (V×V×Nat))
 |.map r=>match h.get r with
  |some b=>match b with
   |.map es _=>some es
   |_=>none
  |none=>none
 |.no k=>match k with|.map=>some []|_=>none
 |_=>none
def mm (isMax:Bool) (x y:V):Option V:=
 match x with
 |.int k x=>match y with
  |.int k' y=>bif cW k k' then some (.int k (bif isMax then(bif jc x y then y else x)else(bif jc y x then y else x)))else none
  |_=>none
 |_=>none
def qz (isMax:Bool) (e:T V):List Od→V→Option V
 |[],x=>some x
 |y::r,x=>match mm isMax x (y.ev e)with|some z=>qz isMax e r z|none=>none
def qA (x:Od):bz:=.pu fun e _=>some (x.ev e)
def eg (c a b:Od):bz:=.pu fun e _=>match c.ev e with
 |.bool t=>some (bif t then a.ev e else b.ev e)
 |_=>none
def aL (z:List V) (ps:List (Nat×Nat×Od)):bz:=.pu fun e _=>match jd e ps z with|some l=>some (.agg l)|none=>none
def fH (h:Hp) (n:Option Nat):V→Option V
 |.ptr a o=>match n with
  |none=>match h.cells a with
   |some l=>nth l o
   |none=>none
  |some n=>match h.cl a o n with|some l=>some (.agg l)|none=>none
 |_=>none
def bY (n:Option Nat) (x:Od):bz:=.pu fun e h=>fH h n (x.ev e)
def jf (x:Od):bz:=.pu fun e _=>match x.ev e with
 |.ptr a o=>some (.ptr a o)
 |_=>none
def a1 (op:BinOp) (q:cV) (x y:Od):bz:=.pu fun e _=>cg op q (x.ev e) (y.ev e)
def dS (op:UnOp) (x:Od):bz:=.pu fun e _=>yX op (x.ev e)
def cH (k:IntKind) (x:Od):bz:=.pu fun e _=>match x.ev e with
 |.int _ n=>some (.int k (e6 k n))
 |_=>none
def acf (x:Od):bz:=.pu fun e _=>match x.ev e with
 |.str s=>some (.str s)
 |_=>none
def dT (x:Od):bz:=.pu fun e h=>match x.ev e with
 |.sl a o n _=>match h.cl a o n with
  |some l=>match bytesOf l with|some s=>some (.str s)|none=>none
  |none=>none
 |.no k=>match k with|.sl=>some (.str [])|_=>none
 |_=>none
def Fb:hW→Option hW
 |.ex c=>some (.ex c)
 |.un s=>bif Nat.beq s 1 then some (.un 1)else none
def KS (h:Hp) (x:V):Option (V×Hp):=
 match x with
 |.sl a o n c=>bif Nat.beq n 0 then none else match Fb c with
  |none=>none
  |some c'=>match h.get a with
   |none=>none
   |some b=>match b with
    |.cells l d=>bif d then none else some (.sl h.next o n c',(h.put a (.cells l true)).alloc (.cells l false))
    |_=>none
 |_=>none
def acg (x:Od):bz:=.st fun e h=>KS h (x.ev e)
def Ca (t:Nat) (x:Od):bz:=.pu fun e _=>some (.iface t (x.ev e))
def qB (f:Nat) (bf:List Od):bz:=.pu fun e _=>some (.fn f (ea e bf))
def sC (h:Hp) (s:Nat) (x:V) (lo hi:Option V):Option V→Option V→Option V
 |some _,r=>r
 |none,r=>match r with
  |some v=>some v
  |none=>uB h s x lo hi
def eE (s:Nat) (x:Od) (lo hi mx:Option Od):bz:=.pu fun e h=>sC h s (x.ev e) (aZ e lo) (aZ e hi) (aZ e mx) (ef s (x.ev e) (aZ e lo) (aZ e hi) (aZ e mx))
def sD (x:Od) (lo hi:Option Od):bz:=.pu fun e _=>je (x.ev e) (aZ e lo) (aZ e hi)
def ach (n s:Nat) (x:Od) (lo hi:Option Od):bz:=.pu fun e _=>KQ n s (x.ev e) (aZ e lo) (aZ e hi)
def qC (off:Nat) (x:Od):bz:=.pu fun e _=>match x.ev e with
 |.ptr a o=>some (.ptr a (o+off))
 |_=>none
def aci (off:Nat) (n:Option Nat) (x:Od):bz:=.pu fun e _=>match x.ev e with
 |.agg l=>part n l off
 |_=>none
def bA (arr:Option Nat) (s:Nat) (x i:Od):bz:=.pu fun e _=>match i.ev e with
 |.int _ j=>match j with
  |.ofNat j=>match arr with
   |some n=>match x.ev e with
    |.ptr a o=>bif Nat.blt j n then some (.ptr a (o+j*s))else none
    |_=>none
   |none=>match x.ev e with
    |.sl a o n _=>bif Nat.blt j n then some (.ptr a (o+j*s))else none
    |_=>none
  |.negSucc _=>none
 |_=>none
def iy (x i:Od):bz:=.pu fun e _=>match i.ev e with
 |.int _ j=>match j with
  |.ofNat j=>match x.ev e with
   |.str s=>match nth s j with|some b=>some (c5 b)|none=>none
   |_=>none
  |.negSucc _=>none
 |_=>none
def acj (len s:Nat) (n:Option Nat) (x i:Od):bz:=.pu fun e _=>match i.ev e with
 |.int _ j=>match j with
  |.ofNat j=>match x.ev e with
   |.agg l=>bif Nat.blt j len then part n l (j*s)else none
   |_=>none
  |.negSucc _=>none
 |_=>none
def wV (ok:Bool) (v:V) (b:Bool):V:=bif ok then .aM [v,.bool b]else v
def yY (h:Hp) (q:cV) (z x k:V) (ok:Bool):Option V:=
 match h.mapOf x with
 |some es=>bif fits q k then match iQ q k es 0 with
  |some r=>match r with
   |some (_,v)=>some (wV ok v true)
   |none=>some (wV ok z false)
  |none=>none else none
 |none=>none
def Cb (q:cV) (z:V) (x i:Od) (ok:Bool):bz:=.pu fun e h=>yY h q z (x.ev e) (i.ev e) ok
def KT (t:Nat) (z:V) (x:Od) (ok:Bool):bz:=.pu fun e _=>match x.ev e with
 |.iface t' v=>bif Nat.beq t t' then some (wV ok v true)else bif ok then some (.aM [z,.bool false])else none
 |.no k=>match k with
  |.iface=>bif ok then some (.aM [z,.bool false])else none
  |_=>none
 |_=>none
def KU (x:Od) (i:Nat):bz:=.pu fun e _=>match x.ev e with
 |.aM l=>nth l i
 |_=>none
def sE:V→Option V
 |.sl _ _ n _=>some (.int .i64 (.ofNat n))
 |.no k=>match k with|.sl=>some (.int .i64 (.ofNat 0))|_=>none
 |_=>none
def KV:V→Option V
 |.str s=>some (.int .i64 (.ofNat s.length))
 |_=>none
def KW:V→Option V
 |.sl _ _ _ c=>match c with|.ex c=>some (.int .i64 (.ofNat c))|.un _=>none
 |.no k=>match k with|.sl=>some (.int .i64 (.ofNat 0))|_=>none
 |_=>none
def c6 (x:Od):bz:=.pu fun e _=>sE (x.ev e)
def cq (x:Od):bz:=.pu fun e _=>KV (x.ev e)
def ack (x:Od):bz:=.pu fun e _=>KW (x.ev e)
def ll (m:Bool) (x:Od) (l:List Od):bz:=.pu fun e _=>qz m e l (x.ev e)
def ar (z:List V):bz:=.dw fun _=>some (.cells z false,fun a=>.ptr a 0)
def Fc (x:Od):bz:=.dw fun e=>let cs:=(x.ev e).cells;bif aY cs then some (.cells cs false,fun a=>.ptr a 0)else none
def aG (z:List V) (n:Nat) (ps:List (Nat×Nat×Od)):bz:=.dw fun e=>match jd e ps z with
 |some l=>bif aY l then some (.cells l false,fun a=>.sl a 0 n (.ex n))else none
 |none=>none
def gx (x:Od):bz:=.dw fun e=>match x.ev e with
 |.str s=>some (.cells (s.map c5) false,fun a=>.sl a 0 s.length (.un 1))
 |_=>none
def KY:bz:=.dw fun _=>some (.map [] 0,fun a=>.map a)
def dI (z:List V):Nat→List V
 |0=>[]
 |n+1=>z++dI z n
def iz:V→Option Nat
 |.int _ j=>match j with
  |.ofNat j=>some j
  |.negSucc _=>none
 |_=>none
def jg (z:List V) (bytes:Nat) (l c:Od):bz:=.dw fun e=>match iz (l.ev e)with
 |some l=>match iz (c.ev e)with
  |some c=>bif Nat.ble l c&&(Nat.ble c 281474976710656&&Nat.ble (bytes*c) 281474976710656)then some (.cells (dI z c) false,fun a=>.sl a 0 l (.ex c))else none
  |none=>none
 |none=>none
def dm:V:=.aM []
def oH (v:V):Option Hp→Option (V×Hp)
 |some h=>some (v,h)
 |none=>none
def gy (n:Nat) (a x:Od):bz:=.st fun e h=>match a.ev e with
 |.ptr b o=>let cs:=(x.ev e).cells
  bif Nat.beq cs.length n then oH dm (h.db b o cs)else none
 |_=>none
def ln (h:Hp) (ba n:Nat):V→Option (List V)
 |.sl a o _ _=>h.cl a o (n*ba)
 |.str s=>bif Nat.beq ba 1 then match takeN n s with|some r=>some (r.map c5)|none=>none else none
 |.no k=>match k with
  |.sl=>bif Nat.beq n 0 then some []else none
  |_=>none
 |_=>none
def j9:V→Option Nat
 |.sl _ _ n _=>some n
 |.str s=>some s.length
 |.no k=>match k with
  |.sl=>some 0
  |_=>none
 |_=>none
def sF (h:Hp) (ba n:Nat) (xs:List V):Option (V×Hp):=
 bif Nat.ble n 1073741824 then bif aY xs then some (.sl h.next 0 n (.un ba),h.alloc (.cells xs false))else none else none
def nO (h:Hp) (ba n:Nat) (xs:List V) (s:V):Option (V×Hp):=
    match s with
    |.no k=>match k with
     |.sl=>bif Nat.beq n 0 then some (.no .sl,h)else sF h ba n xs
     |_=>none
    |.sl a o m c=>
     bif Nat.beq n 0 then some (.sl a o m c,h)else
     match c with
     |.ex c=>bif Nat.ble (m+n) c then oH (.sl a o (m+n) (.ex c)) (h.db a (o+m*ba) xs)else
      match h.cl a o (m*ba)with
      |some aD=>sF h ba (m+n) (aD++xs)
      |none=>none
     |.un s=>bif Nat.beq s ba then
      match h.get a with
      |none=>none
      |some b=>match b with
       |.cells l d=>bif d then none else
        bif Nat.ble (o+(m+n)*ba) l.length then oH (.sl a o (m+n) (.un s)) (h.db a (o+m*ba) xs)else
        match takeN (m*ba) (qx o l)with
        |some aD=>sF (h.put a (.cells l true)) ba (m+n) (aD++xs)
        |none=>none
       |_=>none
      else none
    |_=>none
def yZ (h:Hp) (ba:Nat) (s x:V):Option (V×Hp):=
 match j9 x with
 |none=>none
 |some n=>match ln h ba n x with
  |none=>none
  |some xs=>nO h ba n xs s
def Cc (ba:Nat) (s x:Od):bz:=.st fun e h=>yZ h ba (s.ev e) (x.ev e)
def y0 (h:Hp) (ba:Nat) (z:List V) (s x:V):Option (V×Hp):=
 match iz x with
 |none=>none
 |some n=>bif Nat.ble n 1073741824 then nO h ba n (dI z n) s else none
def KZ (ba:Nat) (z:List V) (s x:Od):bz:=.st fun e h=>y0 h ba z (s.ev e) (x.ev e)
def Cd (h:Hp) (ba:Nat) (d s:V):Option (V×Hp):=
 match j9 s with
 |none=>none
 |some k=>match d with
  |.sl a o m _=>match ln h ba (Nat.min k m) s with
   |some xs=>oH (.int .i64 (.ofNat (Nat.min k m))) (h.db a o xs)
   |none=>none
  |.no q=>match q with|.sl=>some (.int .i64 (.ofNat 0),h)|_=>none
  |_=>none
def Ce (ba:Nat) (d s:Od):bz:=.st fun e h=>Cd h ba (d.ev e) (s.ev e)
def K0 (z:List V) (x:Od):bz:=.st fun e h=>match x.ev e with
 |.sl a o n _=>oH dm (h.db a o (dI z n))
 |.no k=>match k with|.sl=>some (dm,h)|_=>none
 |_=>none
def bm.nP (h:Hp):V→Option (Pa×List (V×V×Nat)×Nat)
 |.map r=>match h.get r with
  |some b=>match b with
   |.map es clock=>some (r,es,clock)
   |_=>none
  |none=>none
 |_=>none
def K1 (q:cV) (m k x:Od):bz:=.st fun e h=>match h.nP (m.ev e)with
 |some (r,es,clock)=>match(bif fits q (k.ev e)then iQ q (k.ev e) es 0 else none)with
  |some f=>match f with
   |some _=>none
   |none=>some (dm,h.put r (.map (es++[(k.ev e,x.ev e,clock)]) (clock+1)))
  |none=>none
 |none=>none
def acm (q:cV) (z:V) (m k:Od):bz:=.st fun e h=>match h.nP (m.ev e)with
 |some (r,es,clock)=>match(bif fits q (k.ev e)then iQ q (k.ev e) es 0 else none)with
  |some f=>match f with
   |some _=>none
   |none=>some (.aM [z,.int .i64 (.ofNat clock)],h.put r (.map (es++[(k.ev e,z,clock)]) (clock+1)))
  |none=>none
 |none=>none
def acn (m s x:Od):bz:=.st fun e h=>match h.nP (m.ev e)with
 |some (r,es,clock)=>match iz (s.ev e)with
  |some b=>match es.findIdx? (fun t=>Nat.beq t.2.2 b)with
   |some i=>some (dm,h.put r (.map (es.modify i fun t=>(t.1,x.ev e,t.2.2)) clock))
   |none=>none
  |none=>none
 |none=>none
def aC (g:Nat) (args:List Od):bz:=.ed fun e=>.call g (ea e args)
def wW (f:Od) (args:List Od):bz:=.ed fun e=>match f.ev e with
 |.fn g bf=>.call g (ea e args++bf)
 |.gV l=>.yield l (ea e args)
 |_=>.bad 59
def y3 (f:Od) (args:List Od):bz:=.ed fun e=>match f.ev e with
 |.fn g bf=>.defer (.call g (ea e args++bf))
 |_=>.bad 60
def Cf:bz:=.ed fun _=>.recover
def y4 (x:Od):bz:=.ed fun e=>match x.ev e with
 |.iface t v=>.panic (.iface t v)
 |_=>.bad 61
def a6 (n:Nat):bz:=.ed fun _=>.bad n
end
end Go.Ev
namespace Go.Ev
noncomputable section
def uC:Value→V
 |.bool b=>.bool b
 |.int k n=>.int k n
 |.string s=>.str s.data.toList
 |.pointer none=>.no .ptr
 |.slice none 0 0=>.no .sl
 |.map none=>.no .map
 |.func (.func f) ⟨[]⟩ ⟨[]⟩=>.fn f []
 |.nilFunc=>.no .fn
 |.nilIface=>.no .iface
 |_=>.no .bot
def dU:Value→V
 |.agg cs=>.agg (cs.toList.map uC)
 |v=>uC v
def pa (n:Nat):Pa:=Pa.of (n+1) n
def cO:Operand→Od
 |.tmp t=>.t (pa t)
 |.const v=>.c (dU v)
 |.global _=>.c (.no .bot)
 |.func f=>.c (.fn f [])
section
variable(P:Program) (nt:Nat)
def jM (t:TypeId):Option V:=
 match P.info? t with
 |some i=>i.zero.map dU
 |none=>none
def gz (t:TypeId):Option Nat:=(P.info? t).map (·.size)
def kb (t:TypeId):Option (Option Nat):=
 match P.info? t with
 |some i=>match P.underlying t with
  |some (.struct _)=>some (some i.size)
  |some (.array _ _)=>some (some i.size)
  |some _=>some none
  |none=>none
 |none=>none
def pk (t:TypeId):Option jL:=
 match P.underlying t with
 |some .bool=>some .b
 |some (.int _)=>some .i
 |some .string=>some .s
 |_=>none
def nQ:List Field→Option (List (Nat×jL))
 |[]=>some []
 |f::fs=>match nQ fs with
  |some l=>if f.name≠ "_" then(match pk P f.type with|some q=>some ((f.offset,q)::l)|none=>none)else some l
  |none=>none
def a7 (t:TypeId):cV:=
 match P.underlying t with
 |some .bool=>.flat .b
 |some (.int _)=>.flat .i
 |some .string=>.flat .s
 |some (.pointer _)=>.ptr
 |some (.interface _)=>.iface
 |some (.slice _)=>.slice
 |some (.func _ _ _)=>.func
 |some (.map _ _)=>.map
 |some (.struct fs)=>match nQ P fs.toList with
  |some l=>bif P.stoodInHeld t||P.eqGuardType P.depth t then .no else .agg l
  |none=>.no
 |_=>.no
def kd (place:Nat→Option (Nat×Nat)):List (Nat×Operand)→Option (List (Nat×Nat×Od))
 |[]=>some []
 |(i,x)::r=>match place i with
  |some (o,n)=>match kd place r with
   |some l=>some ((o,n,cO x)::l)
   |none=>none
  |none=>none
def qD (s d:TypeId) (x:Od):bz:=
 match P.underlying d with
 |some (.int k)=>match P.underlying s with
  |some (.int _)=>cH k x
  |_=>a6 6
 |some .string=>match P.underlying s with
  |some .string=>acf x
  |some (.slice e)=>match P.underlying e with
   |some (.int .u8)=>dT x
   |_=>a6 6
  |_=>a6 6
 |some (.slice e)=>match P.underlying s with
  |some .string=>match P.underlying e with
   |some (.int .u8)=>gx x
   |_=>a6 6
  |some (.slice _)=>bif Nat.beq s d then match P.underlying e with
   |some (.int .u8)=>acg x
   |_=>a6 6 else a6 6
  |_=>a6 6
 |_=>a6 6
def elemOf? (t:TypeId):Option TypeInfo:=
 match P.underlying t with
 |some (.slice e)=>P.info? e
 |_=>none
def pn (b:Builtin) (args:List Od) (types:Array TypeId):bz:=
 match b with
 |.len=>match args with
  |[x]=>match(types[0]?).bind P.underlying with
   |some (.slice _)=>c6 x
   |some .string=>cq x
   |_=>a6 20
  |_=>a6 20
 |.cap=>match args with
  |[x]=>match(types[0]?).bind P.underlying with
   |some (.slice _)=>ack x
   |_=>a6 20
  |_=>a6 20
 |.append=>match args with
  |[s,x]=>match(types[0]?).bind (elemOf? P)with
   |some i=>match(types[1]?).bind P.underlying with
    |some (.int _)=>match i.zero with
     |some z=>if i.bytes≤65536∧0<i.bytes∧0<i.size∧(dU z).cells.length=i.size then KZ i.size (dU z).cells s x else a6 19
     |none=>a6 19
    |some _=>match i.zero with
     |some z=>if i.bytes≤65536∧0<i.size∧(dU z).cells.length=i.size then Cc i.size s x else a6 19
     |none=>a6 19
    |none=>a6 19
   |none=>a6 19
  |_=>a6 19
 |.copy=>match args with
  |[d,s]=>match(types[0]?).bind (elemOf? P)with
   |some i=>Ce i.size d s
   |none=>a6 19
  |_=>a6 19
 |.min=>match args with
  |x::r=>ll false x r
  |[]=>a6 20
 |.max=>match args with
  |x::r=>ll true x r
  |[]=>a6 20
 |.clear=>match args with
  |[x]=>match(types[0]?).bind (elemOf? P)with
   |some i=>match i.zero with
    |some z=>K0 (dU z).cells x
    |none=>a6 19
   |none=>a6 19
  |_=>a6 19
 |.recover=>Cf
 |.panic=>match args with
  |[x]=>y4 x
  |_=>a6 20
 |_=>a6 20
def dJ:cV→Bool
 |.flat _=>true
 |.agg _=>true
 |_=>false
def ft:Operand→Bool
 |.const _=>true
 |_=>false
def cR:Op→bz
 |.move x=>qA (cO x)
 |.assign x=>qA (cO x)
 |.pick c a b=>eg (cO c) (cO a) (cO b)
 |.alloc e=>match jM P e with
  |some z=>ar z.cells
  |none=>a6 1
 |.box _ x=>Fc (cO x)
 |.build t ps=>
  match P.underlying t with
  |some (.struct fs)=>match(bif fs.toList.all (fun f=>(gz P f.type).isSome)then jM P t else none)with
   |some z=>match kd (fun i=>(fs[i]?).bind fun f=>(gz P f.type).map fun n=>(f.offset,n)) ps.toList with
    |some l=>aL z.cells l
    |none=>a6 2
   |none=>a6 2
  |some (.array _ e)=>match jM P t with
   |some z=>match gz P e with
    |some n=>match kd (fun i=>some (i*n,n)) ps.toList with
     |some l=>aL z.cells l
     |none=>a6 2
    |none=>a6 2
   |none=>a6 2
  |_=>a6 2
 |.buildSlice t len ps=>match elemOf? P t with
  |some i=>match i.zero with
   |some z=>if len*i.size≤16777216∧(dU z).cells.length=i.size then match kd (fun j=>some (j*i.size,i.size)) ps.toList with
    |some l=>aG (dI (dU z).cells len) len l
    |none=>a6 3 else a6 3
   |none=>a6 3
  |none=>a6 3
 |.load t a=>match kb P t with
  |some n=>bY n (cO a)
  |none=>a6 4
 |.store t a x=>match gz P t with
  |some n=>gy n (cO a) (cO x)
  |none=>a6 5
 |.nilCheck x=>jf (cO x)
 |.binOp op t x y _=>match a7 P t with
  |.iface=>bif ft x||ft y then a1 op .iface (cO x) (cO y)else a6 24
  |q=>a1 op q (cO x) (cO y)
 |.unOp op _ x=>dS op (cO x)
 |.convert s d x=>qD P s d (cO x)
 |.makeInterface t x=>match P.underlying t with
  |some (.interface _)=>a6 7
  |some _=>Ca t (cO x)
  |none=>a6 7
 |.makeFunc (.func f) first bf=>if first.size=0 then qB f (bf.toList.map cO)else a6 8
 |.makeMap _ none=>KY
 |.makeSlice t l c=>match elemOf? P t with
  |some i=>match i.zero with
   |some z=>if(dU z).cells.length=i.size then jg (dU z).cells i.bytes (cO l) (cO c)else a6 9
   |none=>a6 9
  |none=>a6 9
 |.slice t x lo hi mx=>match P.underlying t with
  |some (.array n e)=>match mx with
   |none=>match gz P e with
    |some s=>ach n s (cO x) (lo.map cO) (hi.map cO)
    |none=>a6 10
   |some _=>a6 10
  |some .string=>match mx with
   |none=>sD (cO x) (lo.map cO) (hi.map cO)
   |some _=>a6 10
  |some (.slice e)=>match gz P e with
   |some s=>bif mx.isSome&&hi.isNone then a6 10 else eE s (cO x) (lo.map cO) (hi.map cO) (mx.map cO)
   |none=>a6 10
  |_=>a6 10
 |.fieldAddr t x f=>match P.underlying t with
  |some (.struct fs)=>match fs[f]? with
   |some g=>match gz P g.type with
    |some (_+1)=>qC g.offset (cO x)
    |_=>a6 11
   |none=>a6 11
  |_=>a6 11
 |.field t x f=>match P.underlying t with
  |some (.struct fs)=>match fs[f]? with
   |some g=>match kb P g.type with
    |some n=>aci g.offset n (cO x)
    |none=>a6 12
   |none=>a6 12
  |_=>a6 12
 |.indexAddr t x i=>match P.underlying t with
  |some (.array n e)=>match gz P e with
   |some s=>bA (some n) s (cO x) (cO i)
   |none=>a6 13
  |some (.slice e)=>match gz P e with
   |some s=>bA none s (cO x) (cO i)
   |none=>a6 13
  |_=>a6 13
 |.index t x i=>match P.underlying t with
  |some .string=>iy (cO x) (cO i)
  |some (.array len e)=>match gz P e with
   |some s=>match kb P e with
    |some sh=>acj len s sh (cO x) (cO i)
    |none=>a6 14
   |none=>a6 14
  |_=>a6 14
 |.lookup t x i ok=>match P.underlying t with
  |some (.map k e)=>match jM P e with
   |some z=>bif dJ (a7 P k)then Cb (a7 P k) z (cO x) (cO i) ok else a6 15
   |none=>a6 15
  |_=>a6 15
 |.mapUpdate t m k x=>match P.underlying t with
  |some (.map kt _)=>bif dJ (a7 P kt)then K1 (a7 P kt) (cO m) (cO k) (cO x)else a6 16
  |_=>a6 16
 |.mapEntry t m k=>match P.underlying t with
  |some (.map kt e)=>match jM P e with
   |some z=>bif dJ (a7 P kt)then acm (a7 P kt) z (cO m) (cO k)else a6 17
   |none=>a6 17
  |_=>a6 17
 |.entryStore _ m s x=>acn (cO m) (cO s) (cO x)
 |.typeAssert x _ t ok=>match P.underlying t with
  |some (.interface _)=>a6 18
  |some _=>match jM P t with
   |some z=>KT t z (cO x) ok
   |none=>a6 18
  |none=>a6 18
 |.extract x i=>KU (cO x) i
 |.call c=>match c.callee with
  |.builtin b=>pn P b (c.args.toList.map cO) c.argTypes
  |.value f=>match f with
   |.func g=>aC g (c.args.toList.map cO)
   |f=>wW (cO f) (c.args.toList.map cO)
  |_=>a6 21
 |.defer c=>match c.callee with
  |.value f=>y3 (cO f) (c.args.toList.map cO)
  |_=>a6 21
 |.panic x=>y4 (cO x)
 |_=>a6 21
def uD (ops:Array Oper) (j:Nat):Option Nat:=(ops[j]?).bind (·.dst)
def y5 (o:Oper):Bool:=
 match o.dst with
 |none=>true
 |some d=>Nat.blt d nt
def ga (ops:Array Oper) (o:Oper):RO al:=
 match o.guard with
 |none=>{dst:=o.dst.map pa,sA:=bif y5 nt o then cR P o.op else a6 23,guard:=none}
 |some (j,w)=>match uD ops j with
  |some d=>bif y5 nt o then{dst:=o.dst.map pa,sA:=cR P o.op,guard:=some (pa d,w)}else{dst:=none,sA:=a6 23,guard:=none}
  |none=>{dst:=none,sA:=a6 22,guard:=none}
def ke:Op→Bool
 |.load ..|.lookup ..|.alloc _|.box ..|.buildSlice ..|.makeMap ..|.makeSlice ..|.convert ..|.slice ..=>true
 |_=>false
def wX:Operand→Option Nat
 |.tmp t=>some t
 |_=>none
def eF (ops:Array Oper) (o:Oper):List Nat:=
 match o.guard with
 |none=>o.op.operands.toList.filterMap wX
 |some (g,_)=>match uD ops g with
  |some d=>d::o.op.operands.toList.filterMap wX
  |none=>o.op.operands.toList.filterMap wX
def wY (l:List Nat) (t:Nat):Bool:=l.any fun u=>Nat.beq u t
def K2 (s:Nat) (e:Edge):Nat:=bif Region.binds .any e then Nat.lor s (2^e.on)else s
def y6 (o:Oper):Nat:=o.after.toList.foldl K2 0
def K3 (f2:List Nat) (s:Nat) (e:Edge):Nat:=bif Region.binds .any e then Nat.lor s (Nat.lor (2^e.on) (f2.getD e.on 0))else s
def uE (f2:List Nat) (o:Oper):Nat:=o.after.toList.foldl (K3 f2) 0
structure cv where
 i:Nat
 o:Oper
 pred:Nat
 iA:Nat
 e7:Bool
def nR (ops:Array Oper) (o:Oper):Bool:=
 match o.op with
 |.assign _=>false
 |_=>match(ga P nt ops o).sA with
  |.pu _=>match o.dst with
   |some _=>true
   |none=>false
  |.dw _=>match o.dst with
   |some _=>true
   |none=>false
  |.st _=>false
  |.ed _=>false
def e8 (ops:Array Oper):List Oper→Nat→List Nat→List cv
 |[],_,_=>[]
 |o::r,i,f2=>⟨i,o,y6 o,uE f2 o,!(nR P nt ops o)⟩::e8 ops r (i+1) (f2++[uE f2 o])
def lr (p:cv→Bool):List cv→Option (cv×List cv)
 |[]=>none
 |d::r=>bif p d then some (d,r)else match lr p r with
  |some (x,r')=>some (x,d::r')
  |none=>none
def qE (done:Nat) (d:cv):Bool:=Nat.beq (Nat.land d.pred done) d.pred
def Rv (o:Oper) (t:Nat):Bool:=
 match o.dst with
 |some d=>Nat.beq d t
 |none=>false
def wZ (ops:Array Oper) (x:cv):List cv→List (RS al)
 |[]=>[]
 |y::r=>bif y.e7 then wZ ops x r else bif Nat.testBit x.iA y.i then wZ ops x r else
  bif ke y.o.op||(match x.o.dst with|some d=>wY (eF ops y.o) d|none=>false)then .cf (ga P nt ops y.o)::wZ ops x r else wZ ops x r
def qF (ops:Array Oper):Nat→Nat→List cv→List cv→List (RS al)
 |0,_,_,_=>[]
 |f+1,done,dO,rem=>
  match lr (fun d=>!d.e7&&qE done d) rem with
  |some (d,kw)=>.op (ga P nt ops d.o)::qF ops f (Nat.lor done (2^d.i)) (d::dO) kw
  |none=>match lr (qE done) rem with
   |some (d,kw)=>bif kw.any (qE done)then[.op {dst:=none,sA:=a6 26,guard:=none}]else
     .op (ga P nt ops d.o)::(wZ P nt ops d dO++qF ops f (Nat.lor done (2^d.i)) (d::dO) kw)
   |none=>[]
def Rw (ops:Array Oper) (x y:cv):Bool:=
 match x.o.dst with
 |none=>true
 |some d=>!(Rv y.o d)&&(x.e7||!(wY (eF ops y.o) d)||Nat.testBit y.iA x.i)
def Rx (ops:Array Oper) (x:cv):Bool:=
 match x.o.dst with
 |none=>true
 |some d=>x.e7||!(wY (eF ops x.o) d)
def Ry (x:cv):Bool:=x.o.after.toList.all fun e=>!(Region.binds .any e)||Nat.blt e.on x.i
def y7 (ops:Array Oper) (l:List cv):Bool:=
 l.all fun x=>Ry x&&(Rx ops x&&l.all fun y=>Nat.beq x.i y.i||Rw ops x y)
def Cg (ce:List Nat) (l:List cv):Bool:=l.all fun x=>x.e7||(match x.o.dst with|some d=>!(wY ce d)|none=>true)
def drawn (ce:List Nat) (ops:Array Oper) (l:List cv):IC al:=bif P.follows .mixedOrders&&(y7 ops l&&Cg ce l)then .region (qF P nt ops ops.size 0 [] l)else .bad
def cS (ce:List Nat):Code→IC al
 |.skip=>.skip
 |.region _ ops draw=>bif draw then drawn P nt ce ops (e8 P nt ops ops.toList 0 [])else .region (ops.toList.map fun o=>.op (ga P nt ops o))
 |.seq a b=>.seq (cS ce a) (cS ce b)
 |.cond c a b=>.cond (cO c) (cS ce a) (cS ce b)
 |.block id b=>.block id (cS ce b)
 |.loop b=>.loop (cS ce b)
 |.rangeFunc f ps a b=>bif ps.toList.all (fun t=>Nat.blt t nt)then .rangeFunc (cO f) (ps.toList.map pa) (cS ce a) (cS ce b)else .bad
 |.exit id=>.exit id
 |.ret=>.ret
 |.label _=>.skip
 |.scope _=>.bad
 |.goto _=>.bad
 |.refuse _=>.bad
def slotsOf:List ResultVar→List Nat
 |[]=>[]
 |.tmp t::r=>t::slotsOf r
 |.cell a _::r=>a::slotsOf r
def Ch (fn:Func):List Nat:=slotsOf fn.results.toList
def b1 (f:Nat):List Nat:=
 match P.funcs[f]? with
 |some fn=>Ch fn
 |none=>[]
def nS:List ResultVar→Option (List (Pa×Option (Option Nat)))
 |[]=>some []
 |.tmp t::r=>match nS r with
  |some l=>some ((pa t,none)::l)
  |none=>none
 |.cell a t::r=>match kb P t with
  |some n=>match nS r with
   |some l=>some ((pa a,some n)::l)
   |none=>none
  |none=>none
structure hZ where
 body:IC al
 nt:Nat
 res:List (Pa×Option (Option Nat))
inductive aN where
 |code (f:hZ)
 |c7 (g:List V→Hp→Option (V×Hp))
def e9 (f:Nat):Option hZ:=
 match P.funcs[f]? with
 |some fn=>match fn.body with
  |some c=>match nS P fn.results.toList with
   |some res=>some {body:=cS P fn.ntmps (Ch fn) c,nt:=fn.ntmps,res}
   |none=>none
  |none=>none
 |none=>none
end
end
end Go.Ev
namespace Go.Ev
noncomputable section
inductive Item where
 |code (c:IC al)
 |inBlock (id:Nat)
 |inLoop (b:IC al)
 |dc (rs:List (RS al))
 |jh (l:Pa)
 |nT (l:Pa)
 |begin
inductive Mode where
 |run
 |returning
 |panicking (v:V) (recovered:Bool)
structure FK where
 fn:Nat
 nt:Nat
 deferred:Bool
 round:Option Pa
structure Fr where
 k:FK
 env:T V
 todo:List Item
 defers:List Def
 mode:Mode
structure LE where
 id:Pa
 assign:IC al
 body:IC al
inductive Nx where
 |go (fr:Fr) (cs:List Fr) (h:Hp) (ls:List LE)
 |done (v:V) (h:Hp)
 |bad (n:Nat) (fn:Nat)
def gb (l:Pa):List LE→Option LE
 |[]=>none
 |x::r=>bif x.id.beq l then some x else gb l r
def T.put (e:T V) (v:V):Option Pa→T V
 |none=>e
 |some d=>e.set v d
def h2:List V→Pa→T V→T V
 |[],_,e=>e
 |v::r,i,e=>h2 r i.succ (e.set v i)
def sG:List Pa→List V→T V→Option (T V)
 |[],vs,e=>match vs with|[]=>some e|_::_=>none
 |p::ps,vs,e=>match vs with
  |v::vs=>sG ps vs (e.set v p)
  |[]=>none
def enter (fn:hZ) (f:Nat) (args:List V) (deferred:Bool):Fr:=
 ⟨⟨f,fn.nt,deferred,none⟩,h2 args .z .E,[.code fn.body],[],.run⟩
def exitTo (id:Nat):List Item→Option (List Item)
 |[]=>none
 |i::k=>match i with
  |.inBlock j=>bif Nat.beq j id then some k else exitTo id k
  |_=>exitTo id k
inductive W3 where
 |yes|no|bad
def fa (e:T V):Option (Pa×Bool)→W3
 |none=>.yes
 |some (d,w)=>match e.get d with
  |some v=>match v with
   |.bool b=>bif B8 b w then .yes else .no
   |.aM _=>.no
   |_=>.bad
  |none=>.bad
def kf (e:T V) (h:Hp):List (Pa×Option (Option Nat))→Option (List V)
 |[]=>some []
 |(t,c)::r=>match(match c with|none=>some (e.val t)|some n=>fH h n (e.val t))with
  |some v=>match kf e h r with
   |some l=>some (v::l)
   |none=>none
  |none=>none
def oneOf (l:List V):V:=
 match l with
 |[]=>.aM []
 |v::r=>match r with
  |[]=>v
  |_::_=>.aM l
def K4:hW→hW→Bool
 |.ex a,.ex b=>Nat.beq a b
 |.un a,.un b=>Nat.beq a b
 |_,_=>false
def K5:NK→NK→Bool
 |.ptr,.ptr=>true
 |.sl,.sl=>true
 |.map,.map=>true
 |.fn,.fn=>true
 |.iface,.iface=>true
 |_,_=>false
def dd:V→V→Bool
 |.int k a,y=>match y with|.int k' b=>cW k k'&&iw a b|_=>false
 |.bool a,y=>match y with|.bool b=>B8 a b|_=>false
 |.str a,y=>match y with|.str b=>nN a b|_=>false
 |.ptr a o,y=>match y with|.ptr b p=>a.beq b&&Nat.beq o p|_=>false
 |.sl a o n c,y=>match y with|.sl b p m d=>(a.beq b&&Nat.beq o p)&&(Nat.beq n m&&K4 c d)|_=>false
 |.map a,y=>match y with|.map b=>a.beq b|_=>false
 |.no k,y=>match y with|.no j=>K5 k j|_=>false
 |_,_=>false
def cm:List V→List V→Bool
 |[],m=>match m with|[]=>true|_::_=>false
 |a::l,m=>match m with|b::m=>bif dd a b then cm l m else false|[]=>false
def same:V→V→Bool
 |.agg a,y=>match y with|.agg b=>cm a b|_=>false
 |.aM a,y=>match y with|.aM b=>cm a b|_=>false
 |a,b=>dd a b
def qG:V→Option Pa
 |.ptr a _=>some a
 |.sl a _ _ _=>some a
 |.map a=>some a
 |_=>none
def K6:al→al→Bool
 |.cells l d,y=>match y with|.cells m d'=>bif d||d' then false else cm l m|_=>false
 |.map es c,y=>match y with
  |.map fs k=>bif Nat.beq c k then match es with
   |[]=>match fs with
    |[]=>true
    |_::_=>false
   |_::_=>false else false
  |_=>false
 |_,_=>false
def lu (e:T V) (h:Hp) (o:RO al):Bool:=
 match fa e o.guard with
 |.no=>match o.dst with
  |none=>false
  |some d=>match e.get d with
   |some (.aM [])=>true
   |_=>false
 |.bad=>false
 |.yes=>match o.dst with
  |none=>false
  |some d=>match e.get d with
   |none=>false
   |some v=>match o.sA with
    |.pu f=>match f e h with
     |some w=>same v w
     |none=>false
    |.dw f=>match f e with
     |some (b,mk)=>match qG v with
      |some a=>match h.get a with
       |some b'=>bif same v (mk a)then K6 b b' else false
       |none=>false
      |none=>false
     |none=>false
    |.st _=>false
    |.ed _=>false
inductive OR where
 |fin (e:T V) (h:Hp)
 |uF (c:lj) (o:RO al) (rs:List (RS al)) (e:T V) (h:Hp)
 |bad (n:Nat)
def gW (rs:List (RS al)):T V→Hp→OR:=
 List.rec (motive:=fun _=>T V→Hp→OR) (fun e h=>.fin e h)
  (fun s rs ih e h=>RS.rec (motive:=fun _=>OR)
    (fun o=>W3.rec (motive:=fun _=>OR)
      (Sm.rec (motive:=fun _=>OR)
        (fun f=>Option.rec (motive:=fun _=>OR) (.bad 70) (fun v=>ih (e.put v o.dst) h) (f e h))
        (fun f=>Option.rec (motive:=fun _=>OR) (.bad 71) (fun p=>ih (e.put (p.2 h.next) o.dst) (h.alloc p.1)) (f e))
        (fun f=>Option.rec (motive:=fun _=>OR) (.bad 72) (fun p=>ih (e.put p.1 o.dst) p.2) (f e h))
        (fun f=>.uF (f e) o rs e h) o.sA)
      (ih (e.put dm o.dst) h) (.bad 87) (fa e o.guard))
    (fun o=>Bool.rec (motive:=fun _=>OR) (.bad 92) (ih e h) (lu e h o)) s) rs
section
variable(F:Nat→Option aN)
def finish (c:Fr) (v:V) (cs:List Fr) (h:Hp) (ls:List LE):Nx:=
 match c.mode with
 |.run=>match c.todo with
  |[]=>.bad 89 c.k.fn
  |i::k=>match i with
   |.dc rs=>match rs with
    |[]=>.bad 89 c.k.fn
    |s::rs=>match s with
     |.op o=>.go ⟨c.k,c.env.put v o.dst,.dc rs::k,c.defers,.run⟩ cs h ls
     |.cf _=>.bad 89 c.k.fn
   |.jh l=>.go ⟨c.k,c.env,.nT l::k,c.defers,.run⟩ cs h ls
   |_=>.bad 89 c.k.fn
 |_=>.bad 89 c.k.fn
def mJ (fr:Fr) (cs:List Fr) (h:Hp) (ls:List LE) (f:Nat) (args:List V):Nx:=
 match F f with
 |some x=>match x with
  |.code fn=>.go (enter fn f args false) (fr::cs) h ls
  |.c7 g=>match g args h with
   |some p=>finish fr p.1 cs p.2 ls
   |none=>.bad 79 f
 |none=>.bad 80 f
def w0 (fr:Fr) (cs:List Fr) (h:Hp) (ls:List LE) (l:Pa) (args:List V):Nx:=
 match h.get l with
 |some b=>match b with
  |.loop r=>match sG r.params args r.env with
   |some e=>match gb l ls with
    |some x=>.go ⟨⟨r.fn,r.nt,false,some l⟩,e,[.code x.assign,.begin,.code x.body],[],.run⟩ (fr::cs) h ls
    |none=>.bad 81 r.fn
   |none=>.bad 81 r.fn
  |_=>.bad 82 0
 |none=>.bad 82 0
def uG (K:FK) (e:T V) (o:RO al) (rs:List (RS al)) (k:List Item) (ds:List Def) (cs:List Fr) (h:Hp) (ls:List LE):lj→Nx
 |.call f args=>mJ F ⟨K,e,.dc (.op o::rs)::k,ds,.run⟩ cs h ls f args
 |.yield l args=>w0 ⟨K,e,.dc (.op o::rs)::k,ds,.run⟩ cs h ls l args
 |.defer d=>match K.round with
  |none=>.go ⟨K,e.put dm o.dst,.dc rs::k,d::ds,.run⟩ cs h ls
  |some _=>.bad 84 K.fn
 |.recover=>match cs with
  |[]=>.bad 85 K.fn
  |c::cs'=>bif K.deferred then match K.round with
   |some _=>.bad 85 K.fn
   |none=>match c.mode with
    |.panicking v r=>bif r then .go ⟨K,e.put (.no .iface) o.dst,.dc rs::k,ds,.run⟩ cs h ls
      else .go ⟨K,e.put v o.dst,.dc rs::k,ds,.run⟩ (⟨c.k,c.env,c.todo,c.defers,.panicking v true⟩::cs') h ls
    |_=>.go ⟨K,e.put (.no .iface) o.dst,.dc rs::k,ds,.run⟩ cs h ls
   else .bad 85 K.fn
 |.panic v=>.go ⟨K,e,.dc (.op o::rs)::k,ds,.panicking v false⟩ cs h ls
 |.bad n=>.bad n K.fn
def doReturn (K:FK) (cs:List Fr) (h:Hp) (ls:List LE) (v:V):Nx:=
 match cs with
 |[]=>match K.round with
  |some _=>.bad 88 K.fn
  |none=>bif K.deferred then .bad 88 K.fn else .done v h
 |c::cs'=>
  bif K.deferred then
   match c.mode with
   |.panicking _ r=>bif r then .go ⟨c.k,c.env,c.todo,c.defers,.returning⟩ cs' h ls else .go c cs' h ls
   |.returning=>.go c cs' h ls
   |.run=>.bad 88 K.fn
  else finish c v cs' h ls
def uH (fr:Fr) (cs:List Fr) (h:Hp) (ls:List LE) (j:Option qv):Nx:=
 match fr.k.round with
 |none=>match j with
  |none=>.go ⟨fr.k,fr.env,fr.todo,fr.defers,.returning⟩ cs h ls
  |some j=>match j with
   |.ret=>.go ⟨fr.k,fr.env,fr.todo,fr.defers,.returning⟩ cs h ls
   |.exit _=>.bad 90 fr.k.fn
 |some l=>match h.get l with
  |some b=>match b with
   |.loop r=>match fr.defers with
    |[]=>doReturn fr.k cs (h.put l (.loop {r with state:=match j with|none=>.ready|some _=>.done,pending:=j})) ls (.bool (match j with|none=>true|some _=>false))
    |_::_=>.bad 91 fr.k.fn
   |_=>.bad 91 fr.k.fn
  |none=>.bad 91 fr.k.fn
def Fe:Option qv→List Item
 |none=>[]
 |some j=>match j with
  |.ret=>[.code .ret]
  |.exit id=>[.code (.exit id)]
def fI:IC al→List Item→List Item
 |.skip,k=>k
 |.seq a b,k=>fI a (.code b::k)
 |.region rs,k=>.dc rs::k
 |c,k=>.code c::k
def kg (K:FK) (e:T V) (k:List Item) (ds:List Def) (cs:List Fr) (h:Hp) (ls:List LE):IC al→Nx
 |.skip=>.go ⟨K,e,k,ds,.run⟩ cs h ls
 |.region rs=>.go ⟨K,e,.dc rs::k,ds,.run⟩ cs h ls
 |.seq a b=>.go ⟨K,e,fI a (.code b::k),ds,.run⟩ cs h ls
 |.cond c a b=>match c.ev e with
  |.bool t=>.go ⟨K,e,fI (bif t then a else b) k,ds,.run⟩ cs h ls
  |_=>.bad 97 K.fn
 |.block id b=>.go ⟨K,e,fI b (.inBlock id::k),ds,.run⟩ cs h ls
 |.loop b=>.go ⟨K,e,fI b (.inLoop b::k),ds,.run⟩ cs h ls
 |.rangeFunc f ps a b=>match K.round with
  |some _=>.bad 98 K.fn
  |none=>match f.ev e with
   |.fn g bf=>match F g with
    |some (.code fn)=>.go (enter fn g (.gV h.next.succ::bf) false) (⟨K,e,.jh h.next.succ::k,.mark h.next::ds,.run⟩::cs)
      ((h.alloc (.dH true)).alloc (.loop {state:=.ready,pending:=none,fn:=K.fn,nt:=K.nt,env:=e,params:=ps})) (⟨h.next.succ,a,b⟩::ls)
    |_=>.bad 80 g
   |_=>.bad 98 K.fn
 |.exit id=>match exitTo id k with
  |some k'=>.go ⟨K,e,k',ds,.run⟩ cs h ls
  |none=>uH ⟨K,e,k,ds,.run⟩ cs h ls (some (.exit id))
 |.ret=>uH ⟨K,e,k,ds,.run⟩ cs h ls (some .ret)
 |.bad=>.bad 99 K.fn
def jN (K:FK) (e:T V) (k:List Item) (ds:List Def) (cs:List Fr) (h:Hp) (ls:List LE):Item→Nx
 |.dc rs=>match gW rs e h with
  |.fin e h=>.go ⟨K,e,k,ds,.run⟩ cs h ls
  |.uF c o rs e h=>uG F K e o rs k ds cs h ls c
  |.bad n=>.bad n K.fn
 |.code c=>kg F K e k ds cs h ls c
 |.inBlock _=>.go ⟨K,e,k,ds,.run⟩ cs h ls
 |.inLoop b=>.go ⟨K,e,fI b (.inLoop b::k),ds,.run⟩ cs h ls
 |.jh _=>.bad 93 K.fn
 |.nT l=>match h.get l with
  |some b=>match b with
   |.loop r=>match r.state with
    |.busy=>.bad 94 K.fn
    |_=>.go ⟨K,e,Fe r.pending++k,ds,.run⟩ cs (h.put l (.loop {r with state:=.exhausted})) ls
   |_=>.bad 95 K.fn
  |none=>.bad 95 K.fn
 |.begin=>match K.round with
  |some l=>match h.get l with
   |some b=>match b with
    |.loop r=>match r.state with
     |.ready=>.go ⟨K,e,k,ds,.run⟩ cs (h.put l (.loop {r with state:=.busy})) ls
     |_=>.bad 96 K.fn
    |_=>.bad 96 K.fn
   |none=>.bad 96 K.fn
  |none=>.bad 96 K.fn
def unwind (fr:Fr) (cs:List Fr) (h:Hp) (ls:List LE):Nx:=
 match fr.defers with
 |d::ds=>match d with
  |.mark a=>match h.get a with
   |some b=>match b with
    |.dH l=>bif l then .go ⟨fr.k,fr.env,fr.todo,ds,fr.mode⟩ cs (h.put a (.dH false)) ls else .bad 206 fr.k.fn
    |_=>.bad 206 fr.k.fn
   |none=>.bad 206 fr.k.fn
  |.call f args=>match F f with
   |some (.code fn)=>.go (enter fn f args true) (⟨fr.k,fr.env,fr.todo,ds,fr.mode⟩::cs) h ls
   |_=>.bad 80 f
 |[]=>match fr.mode with
  |.returning=>match F fr.k.fn with
   |some (.code fn)=>match kf fr.env h fn.res with
    |some l=>doReturn fr.k cs h ls (oneOf l)
    |none=>.bad 200 fr.k.fn
   |_=>.bad 201 fr.k.fn
  |.panicking v r=>bif r then .bad 202 fr.k.fn else match F fr.k.fn with
   |some _=>match cs with
    |c::cs'=>match c.mode with
     |.run=>.go ⟨c.k,c.env,c.todo,c.defers,.panicking v false⟩ cs' h ls
     |_=>.bad 203 fr.k.fn
    |[]=>.bad 204 fr.k.fn
   |none=>.bad 207 fr.k.fn
  |.run=>.bad 205 fr.k.fn
def step (fr:Fr) (cs:List Fr) (h:Hp) (ls:List LE):Nx:=
 match fr with
 |⟨K,e,todo,ds,m⟩=>match m with
  |.run=>match todo with
   |[]=>uH ⟨K,e,[],ds,.run⟩ cs h ls none
   |i::k=>jN F K e k ds cs h ls i
  |m=>unwind F ⟨K,e,todo,ds,m⟩ cs h ls
def again (ih:Fr→List Fr→Hp→List LE→Nx) (fr:Fr) (cs:List Fr) (h:Hp) (ls:List LE):Nx:=ih fr cs h ls
def run (n:Nat):Fr→List Fr→Hp→List LE→Nx:=
 Nat.rec (motive:=fun _=>Fr→List Fr→Hp→List LE→Nx) (fun fr cs h ls=>.go fr cs h ls)
  (fun _ ih fr cs h ls=>Nx.rec (motive:=fun _=>Nx) (fun fr cs h ls=>again ih fr cs h ls) (fun v h=>.done v h) (fun a b=>.bad a b) (step F fr cs h ls)) n
end
def jO:Hp:=⟨.z,.E⟩
def uI (l:List UInt8):Nat→List UInt8
 |0=>[]
 |n+1=>l++uI l n
def ji (args:List V) (h:Hp):Option (V×Hp):=
 match args with
 |[]=>none
 |a::r=>match a with
  |.str s=>match r with
   |[]=>none
   |b::r=>match r with
    |_::_=>none
    |[]=>match b with
     |.int k i=>match k with
      |.i64=>match i with
       |.ofNat n=>bif Nat.ble n 9223372036854775807 then bif Nat.ble (Nat.mul s.length n) 140737488355328 then some (.str (uI s n),h)else none else none
       |.negSucc _=>none
      |_=>none
     |_=>none
  |_=>none
def apart (s v:V):Bool:=
 match v with
 |.sl a _ _ _=>match s with
  |.sl b _ _ _=>!(a.beq b)
  |_=>true
 |_=>false
def uJ (P:Program) (l:List (Nat×(List V→Hp→Option (V×Hp)))) (i:Nat):Option aN:=
 match l with
 |[]=>(e9 P i).map .code
 |p::r=>bif Nat.beq p.1 i then some (.c7 p.2)else uJ P r i
end
end Go.Ev
namespace Go.Ev
theorem T.aco {U:Type} (x:U) (p q:Pa):(T.one x p).get q=if p=q then some x else none:=by
 induction p generalizing q with
 |z=>cases q<;>simp[T.one,T.get]
 |l p ih=>cases q with
  |z=>simp[T.one,T.get]
  |l q=>simpa[T.one,T.get]using ih q
  |r q=>simp[T.one,T.get]
 |r p ih=>cases q with
  |z=>simp[T.one,T.get]
  |l q=>simp[T.one,T.get]
  |r q=>simpa[T.one,T.get]using ih q
theorem T.gX {U:Type} (x:U) (t:T U) (p q:Pa):(t.set x p).get q=if p=q then some x else t.get q:=by
 induction t generalizing p q with
 |E=>
  show(T.one x p).get q=_;rw[T.aco];(try rfl)
 |N v l r zN zO=>
  cases p with
  |z=>cases q<;>simp[T.set,T.get]
  |l p=>cases q with
   |z=>simp[T.set,T.get]
   |l q=>simpa[T.set,T.get]using zN p q
   |r q=>simp[T.set,T.get]
  |r p=>cases q with
   |z=>simp[T.set,T.get]
   |l q=>simp[T.set,T.get]
   |r q=>simpa[T.set,T.get]using zO p q
theorem Pa.iB (p:Pa):p.succ.toNat=p.toNat+1:=by
 induction p with
 |z=>rfl
 |l p _=>simp[Pa.succ,Pa.toNat]
 |r p ih=>simp[Pa.succ,Pa.toNat,ih];omega
theorem Pa.toNat_inj {p q:Pa} (h:p.toNat=q.toNat):p=q:=by
 induction p generalizing q with
 |z=>cases q with
  |z=>rfl
  |l q=>simp[Pa.toNat]at h
  |r q=>simp[Pa.toNat]at h
 |l p ih=>cases q with
  |z=>simp[Pa.toNat]at h
  |l q=>simp only[Pa.toNat]at h;have e:=ih (q:=q) (by omega);rw[e]
  |r q=>simp only[Pa.toNat]at h;omega
 |r p ih=>cases q with
  |z=>simp[Pa.toNat]at h
  |l q=>simp only[Pa.toNat]at h;omega
  |r q=>simp only[Pa.toNat]at h;have e:=ih (q:=q) (by omega);rw[e]
theorem Pa.beq_iff (p q:Pa):p.beq q=true↔p=q:=by
 induction p generalizing q with
 |z=>cases q<;>simp[Pa.beq]
 |l p ih=>cases q<;>simp[Pa.beq,ih]
 |r p ih=>cases q<;>simp[Pa.beq,ih]
theorem Pa.acp (f k:Nat) (h:k<2^f):(Pa.of f k).toNat=k:=by
 induction f generalizing k with
 |zero=>simp at h;subst h;rfl
 |succ f ih=>
  unfold Pa.of;by_cases h0:k=0
  ·simp[h0,Pa.toNat]
  ·by_cases I:k%2=1
   ·simp only[h0,I,if_true,if_false,Pa.toNat];rw[ih _ (by omega)];omega
   ·simp only[h0,I,if_false,Pa.toNat];rw[ih _ (by omega)];omega
theorem qH {U:Type} (l:List U) (n:Nat):nth l n=l[n]? :=by
 induction l generalizing n with
 |nil=>simp[nth]
 |cons a l ih=>
  cases n with
  |zero=>simp[nth]
  |succ n=>
   show cond (Nat.beq (n+1) 0) (some a) (nth l (n+1-1))=_;rw[ih];simp[Nat.beq]
theorem w3 {U:Type} {n:Nat} {l r:List U} (h:takeN n l=some r):n≤l.length∧r=l.take n:=by
 induction n generalizing l r with
 |zero=>simp[takeN]at h;simp[h]
 |succ n ih=>
  cases l with
  |nil=>simp[takeN]at h
  |cons a l=>
   simp only[takeN]at h;split at h
   ·rename_i r' hr;obtain⟨I,J⟩:=ih hr;simp at h;subst h;simp[J];omega
   ·simp at h
theorem qI {U:Type} (n:Nat) (l:List U):qx n l=l.drop n:=by
 induction n generalizing l with
 |zero=>simp[qx]
 |succ n ih=>cases l<;>simp[qx,ih]
theorem acq {l xs r:List V} (h:over l xs=some r):xs.length≤l.length∧r=xs++l.drop xs.length:=by
 induction xs generalizing l r with
 |nil=>cases l<;>simp[over]at h<;>simp[h]
 |cons x xs ih=>
  cases l with
  |nil=>simp[over]at h
  |cons a l=>
   simp only[over]at h;split at h
   ·rename_i r' hr;obtain⟨I,J⟩:=ih hr;simp at h;subst h;simp[J];omega
   ·simp at h
theorem Ci {o:Nat} {l xs r:List V} (h:dk o l xs=some r):
 o+xs.length≤l.length∧r=l.take o++xs++l.drop (o+xs.length):=by
 induction o generalizing l r with
 |zero=>
  simp only[dk]at h;obtain⟨I,J⟩:=acq h;simp[I,J]
 |succ o ih=>
  cases l with
  |nil=>simp[dk]at h
  |cons a l=>
   simp only[dk]at h;split at h
   ·rename_i r' hr;obtain⟨I,J⟩:=ih hr;simp at h;subst h;refine⟨by simp;omega,?_⟩;simp[J,Nat.add_right_comm]
   ·simp at h
structure Loc where
 aw:Nat
 base:Nat
 top:Nat
 eb:Bool
abbrev AM:=Pa→Option Loc
def AM.le (U aA:AM):Prop:=∀a L,U a=some L→aA a=some L
theorem AM.le_refl (U:AM):U.le U:=fun _ _ h=>h
theorem AM.le_trans {U β γ:AM} (h:U.le β) (k:β.le γ):U.le γ:=fun a L x=>k a L (h a L x)
def lz (L:Loc) (o capC:Nat):hW→Prop
 |.ex c=>capC=c
 |.un s=>L.base+o+capC*s=L.top∧(s=1∨L.eb=false)
mutual
inductive VR (U:AM):V→Value→Prop
 |bool (b:Bool):VR U (.bool b) (.bool b)
 |int (k:IntKind) (n:Int):VR U (.int k n) (.int k n)
 |str (s:ByteArray):VR U (.str s.data.toList) (.string s)
 |ptr (a:Pa) (o:Nat) (L:Loc) (h:U a=some L):VR U (.ptr a o) (.pointer (some ⟨L.aw,L.base+o,none⟩))
 |sl (a:Pa) (o n:Nat) (c:hW) (L:Loc) (capC:Nat) (h:U a=some L) (hn:n≤capC) (hc:lz L o capC c):
   VR U (.sl a o n c) (.slice (some ⟨L.aw,L.base+o,none⟩) n capC)
 |dV (a:Pa) (o:Nat) (c:hW) (b6:Addr) (hc:c=.ex 0∨∃s L,c=.un s∧U a=some L∧L.base+o=L.top):VR U (.sl a o 0 c) (.slice (some b6) 0 0)
 |agg (l:List V) (cs:List Value) (h:bd U l cs):VR U (.agg l) (.agg ⟨cs⟩)
 |aM (l:List V) (cs:List Value) (h:bd U l cs):VR U (.aM l) (.tuple ⟨cs⟩)
 |Rz:VR U (.no .ptr) (.pointer none)
 |y8:VR U (.no .sl) (.slice none 0 0)
 |RA:VR U (.no .map) (.map none)
 |RB:VR U (.no .fn) .nilFunc
 |Ff:VR U (.no .iface) .nilIface
 |bot (c:Value):VR U (.no .bot) c
 |map (a:Pa) (L:Loc) (h:U a=some L):VR U (.map a) (.map (some L.aw))
 |fn (f:Nat) (bf:List V) (cs:List Value) (h:bd U bf cs):VR U (.fn f bf) (.func (.func f) #[] ⟨cs⟩)
 |gV (l:Pa) (L:Loc) (h:U l=some L):VR U (.gV l) (.func (.yield L.aw) #[] #[])
 |iface (t:Nat) (v:V) (c:Value) (h:VR U v c):VR U (.iface t v) (.iface t c)
inductive bd (U:AM):List V→List Value→Prop
 |nil:bd U [] []
 |cons (v:V) (c:Value) (l:List V) (cs:List Value) (h:VR U v c) (hs:bd U l cs):bd U (v::l) (c::cs)
end
mutual
theorem VR.mono {U aA:AM} (ac:U.le aA):∀{v:V} {c:Value},VR U v c→VR aA v c
 |_,_,.bool b=>.bool b
 |_,_,.int k n=>.int k n
 |_,_,.str s=>.str s
 |_,_,.ptr a o L h=>.ptr a o L (ac a L h)
 |_,_,.sl a o n c L capC h hn hc=>.sl a o n c L capC (ac a L h) hn hc
 |_,_,.dV a o c b6 hc=>.dV a o c b6 (hc.imp id fun⟨s,L,I,J,h3⟩=>⟨s,L,I,ac a L J,h3⟩)
 |_,_,.agg l cs h=>.agg l cs (bd.mono ac h)
 |_,_,.aM l cs h=>.aM l cs (bd.mono ac h)
 |_,_,.Rz=>.Rz
 |_,_,.y8=>.y8
 |_,_,.RA=>.RA
 |_,_,.RB=>.RB
 |_,_,.Ff=>.Ff
 |_,_,.bot c=>.bot c
 |_,_,.map a L h=>.map a L (ac a L h)
 |_,_,.fn f bf cs h=>.fn f bf cs (bd.mono ac h)
 |_,_,.gV l L h=>.gV l L (ac l L h)
 |_,_,.iface t v c h=>.iface t v c (VR.mono ac h)
theorem bd.mono {U aA:AM} (ac:U.le aA):∀{l:List V} {cs:List Value},bd U l cs→bd aA l cs
 |_,_,.nil=>.nil
 |_,_,.cons v c l cs h hs=>.cons v c l cs (VR.mono ac h) (bd.mono ac hs)
end
theorem Fg {U:AM} {a:Pa} {o k:Nat} (h:(hW.ex k)=.ex 0∨∃s L,(hW.ex k)=.un s∧U a=some L∧L.base+o=L.top):k=0:=by
 rcases h with h|⟨s,L,h,_⟩
 ·cases h;rfl
 ·cases h
theorem bd.length {U:AM} {l:List V} {cs:List Value} (h:bd U l cs):l.length=cs.length:=by
 induction l generalizing cs with
 |nil=>cases h;rfl
 |cons v l ih=>cases h with|cons _ c _ cs h hs=>simp[ih hs]
theorem bd.get {U:AM} {l:List V} {cs:List Value} (h:bd U l cs) {i:Nat} {v:V} (hv:l[i]? =some v):
 ∃c,cs[i]? =some c∧VR U v c:=by
 induction l generalizing cs i with
 |nil=>simp at hv
 |cons a l ih=>cases h with
  |cons _ c _ cs h hs=>
   cases i with
   |zero=>simp at hv;subst hv;exact⟨c,by simp,h⟩
   |succ i=>simp at hv;obtain⟨d,I,J⟩:=ih hs hv;exact⟨d,by simpa using I,J⟩
theorem bd.append {U:AM} {l m:List V} {cs ds:List Value} (h:bd U l cs) (k:bd U m ds):bd U (l++m) (cs++ds):=by
 induction l generalizing cs with
 |nil=>cases h;exact k
 |cons a l ih=>cases h with|cons _ c _ cs h hs=>exact .cons _ _ _ _ h (ih hs)
theorem bd.take {U:AM} {l:List V} {cs:List Value} (h:bd U l cs) (n:Nat):bd U (l.take n) (cs.take n):=by
 induction n generalizing l cs with
 |zero=>simp;exact .nil
 |succ n ih=>cases h with
  |nil=>simp;exact .nil
  |cons v c l cs h hs=>simp;exact .cons _ _ _ _ h (ih hs)
theorem bd.drop {U:AM} {l:List V} {cs:List Value} (h:bd U l cs) (n:Nat):bd U (l.drop n) (cs.drop n):=by
 induction n generalizing l cs with
 |zero=>simpa using h
 |succ n ih=>cases h with
  |nil=>simp;exact .nil
  |cons v c l cs h hs=>simpa using ih hs
theorem bd.RC {U:AM} {l:List V} {cs:List Value} (hl:l.length=cs.length)
 (h:∀(i:Nat) (v:V),l[i]? =some v→∃c,cs[i]? =some c∧VR U v c):bd U l cs:=by
 induction l generalizing cs with
 |nil=>cases cs with
  |nil=>exact .nil
  |cons _ _=>simp at hl
 |cons a l ih=>cases cs with
  |nil=>simp at hl
  |cons c cs=>
   obtain⟨d,I,J⟩:=h 0 a (by simp);simp at I;subst I;refine .cons _ _ _ _ J (ih (by simpa using hl) fun i v hv=>?_);obtain⟨e,h3,h4⟩:=h (i+1) v (by simpa using hv);exact⟨e,by simpa using h3,h4⟩
theorem VR.cells {U:AM} {v:V} {c:Value} (h:VR U v c) (hb:v≠.no .bot):bd U v.cells c.cells.toList:=by
 cases h with
 |agg l cs h=>exact h
 |bot c=>exact absurd rfl hb
 |_=>exact .cons _ _ _ _ (by first|(constructor<;>assumption)|constructor) .nil
end Go.Ev
namespace Go.Ev
theorem gY (n:Nat):(pa n).toNat=n:=Pa.acp _ _ (aqB (aqy n) (by
 have:∀k:Nat,k≤2^k:=fun k=>are Nat.lt_two_pow_self;exact this _))
def fJ (U:AM) (e:T V) (tmps:Array Value):Prop:=
 ∀p v,e.get p=some v→∃c,tmps[p.toNat]? =some c∧VR U v c
theorem fJ.mono {U aA:AM} (ac:U.le aA) {e:T V} {tmps:Array Value} (h:fJ U e tmps):fJ aA e tmps:=
 fun p v hp=>let⟨c,I,J⟩:=h p v hp;⟨c,I,J.mono ac⟩
theorem fJ.set {U:AM} {e:T V} {tmps:Array Value} (h:fJ U e tmps) {v:V} {c:Value} (hv:VR U v c) {d:Nat} (hd:d<tmps.size):
 fJ U (e.set v (pa d)) (tmps.setIfInBounds d c):=by
 intro p u hp;rw[T.gX]at hp;by_cases xN:pa d=p
 ·simp only[xN,if_true,E8]at hp;subst hp;refine⟨c,?_,hv⟩;rw[←xN,gY];simp[hd]
 ·simp only[xN,if_false]at hp;obtain⟨x,I,J⟩:=h p u hp;refine⟨x,?_,J⟩;rw[lb3,I];intro e1;exact xN (Pa.toNat_inj (by rw[gY];exact e1))
def iC (U:AM) (e:T V) (ρ:Operand→Value):Prop:=∀x:Operand,VR U ((cO x).ev e) (ρ x)
theorem K7 (U:AM) (c:Value):VR U (uC c) c:=by
 unfold uC;split<;>first|exact .fn _ _ _ .nil|constructor
theorem RD (U:AM) (cs:List Value):bd U (cs.map uC) cs:=by
 induction cs with
 |nil=>exact .nil
 |cons c cs ih=>exact .cons _ _ _ _ (K7 U c) ih
theorem Cj (U:AM) (c:Value):VR U (dU c) c:=by
 unfold dU;split
 ·rename_i cs;cases cs with|mk cs=>exact .agg _ _ (RD U cs)
 ·exact K7 U c
theorem odR {U:AM} {e:T V} {a:Act} (h:fJ U e a.tmps):iC U e a.eval:=by
 intro x;cases x with
 |tmp t=>
  simp only[cO,Od.ev,T.val,Act.eval];split
  ·rename_i v hv;obtain⟨c,I,J⟩:=h _ _ hv;rw[gY]at I;simp[Array.getD_eq_getD_getElem?,I,J]
  ·exact .bot _
 |const v=>exact Cj U v
 |global g=>exact .bot _
 |func f=>exact .fn f [] [] .nil
theorem iC.list {U:AM} {e:T V} {ρ:Operand→Value} (h:iC U e ρ) (l:List Operand):bd U (ea e (l.map cO)) (l.map ρ):=by
 induction l with
 |nil=>exact .nil
 |cons x l ih=>exact .cons _ _ _ _ (h x) ih
def K8:Option qv→Option Code→Prop
 |none,none=>True
 |some .ret,some .ret=>True
 |some (.exit i),some (.exit j)=>i=j
 |_,_=>False
def po (U:AM) (l:List V) (cs:Array Value) (base:Nat):Prop:=
 base+l.length≤cs.size∧∀(i:Nat) (v:V),l[i]? =some v→∃c,cs[base+i]? =some c∧VR U v c
def quietAt (size:Nat) (fr:Nat×Nat):Prop:=fr.1=fr.2∨size≤fr.1
def K9 (mk:Bool) (fr:Nat×Nat):Prop:=mk=false→fr.2≤fr.1
def BR (P:Program) (U:AM) (ls:List LE) (a:Pa) (b:al) (L:Loc) (w:World):Prop:=
 match b with
 |.cells l _=>∃cs el fr,w.heap[L.aw]? =some (.cells cs el fr)∧cs.size=L.top∧quietAt cs.size fr∧po U l cs L.base∧K9 L.eb fr
 |.ro l=>∃cs el fr,w.heap[L.aw]? =some (.cells cs el fr)∧cs.size=L.top∧po U l cs L.base
 |.map es clock=>∃bv,w.heap[L.aw]? =some (.map bv clock)∧bv.size=es.length∧
   ∀(i:Nat) (t:V×V×Nat),es[i]? =some t→∃x,bv[i]? =some x∧VR U t.1 x.key∧VR U t.2.1 x.val∧x.born=t.2.2
 |.loop r=>∃x,w.heap[L.aw]? =some (.loop x)∧x.state=r.state∧K8 r.pending x.pending∧x.fn=r.fn∧fJ U r.env x.tmps∧r.nt≤x.tmps.size∧
   r.params=x.params.toList.map pa∧(∀t∈x.params.toList,t<r.nt)∧
   ∃y,gb a ls=some y∧y.assign=cS P r.nt (b1 P r.fn) x.assign∧y.body=cS P r.nt (b1 P r.fn) x.body
 |.dH l=>w.heap[L.aw]? =some (.deferred (if l then some []else none))
def al.live:al→Bool
 |.cells _ d=>!d
 |_=>true
def al.Fh:al→Bool
 |.ro _=>true
 |_=>false
def RE (ls pm:List LE):Prop:=∀a x,gb a ls=some x→gb a pm=some x
theorem po.mono {U aA:AM} (ac:U.le aA) {l:List V} {cs:Array Value} {b:Nat} (h:po U l cs b):po aA l cs b:=
 ⟨h.1,fun i v hv=>let⟨c,I,J⟩:=h.2 i v hv;⟨c,I,J.mono ac⟩⟩
theorem BR.mono {P:Program} {U aA:AM} (ac:U.le aA) {ls pm:List LE} (hl:RE ls pm) {a:Pa} {b:al} {L:Loc} {w w':World}
 (hw:w'.heap[L.aw]? =w.heap[L.aw]?) (h:BR P U ls a b L w):BR P aA pm a b L w':=by
 cases b with
 |cells l d=>obtain⟨cs,el,fr,I,J,h3,h4,h5⟩:=h;exact⟨cs,el,fr,hw.trans I,J,h3,h4.mono ac,h5⟩
 |ro l=>obtain⟨cs,el,fr,I,J,h4⟩:=h;exact⟨cs,el,fr,hw.trans I,J,h4.mono ac⟩
 |map es clock=>
  obtain⟨bv,I,J,h3⟩:=h;exact⟨bv,hw.trans I,J,fun i t ht=>let⟨x,k1,k2,k3,k4⟩:=h3 i t ht;⟨x,k1,k2.mono ac,k3.mono ac,k4⟩⟩
 |loop r=>
  obtain⟨x,I,J,h3,h4,h5,h6,h7,h8,y,h9,dA,dB⟩:=h;exact⟨x,hw.trans I,J,h3,h4,h5.mono ac,h6,h7,h8,y,hl _ _ h9,dA,dB⟩
 |dH l=>exact hw.trans h
def mK (w w':World):Prop:=w'.os=w.os∧w'.output=w.output∧w'.tape=w.tape∧w.drawn≤w'.drawn
theorem mK.refl (w:World):mK w w:=⟨rfl,rfl,rfl,B5 _⟩
theorem mK.trans {w w1 w2:World} (h:mK w w1) (h':mK w1 w2):mK w w2:=⟨h'.1.trans h.1,h'.2.1.trans h.2.1,h'.2.2.1.trans h.2.2.1,aqb h.2.2.2 h'.2.2.2⟩
def pq (b:Bool) (w w':World):Prop:=w'.os=w.os∧w'.output=w.output∧(b=true→w'.tape=w.tape∧w.drawn≤w'.drawn)
theorem pq.refl (b:Bool) (w:World):pq b w w:=⟨rfl,rfl,fun _=>⟨rfl,B5 _⟩⟩
theorem pq.trans {b:Bool} {w w1 w2:World} (h:pq b w w1) (h':mK w1 w2):pq b w w2:=⟨h'.1.trans h.1,h'.2.1.trans h.2.1,fun e=>⟨h'.2.2.1.trans (h.2.2 e).1,aqb (h.2.2 e).2 h'.2.2.2⟩⟩
theorem pq.RF {b:Bool} {w w1 w2:World} (h:pq b w w1) (hb:b=false) (h':w2.os=w1.os∧w2.output=w1.output):pq b w w2:=⟨h'.1.trans h.1,h'.2.trans h.2.1,fun e=>by rw[hb]at e;cases e⟩
structure Cx where
 P:Program
 w4:World
 N0:Nat
 sd:Bool
structure aP (C:Cx) (U:AM) (Λ:Pa→Prop) (h:Hp) (ls:List LE) (w:World):Prop where
 ia:∀a L,U a=some L→a.toNat<h.next.toNat
 aw:∀a L,U a=some L→Λ a→∃b,h.get a=some b∧BR C.P U ls a b L w
 inj:∀a a' L L',U a=some L→U a'=some L'→Λ a→Λ a'→L.aw=L'.aw→C.N0≤L.aw→a=a'
 live:∀a L b,U a=some L→h.get a=some b→Λ a∨∃l,b=.cells l true
 wr:∀a L b,U a=some L→Λ a→h.get a=some b→b.Fh=false→C.N0≤L.aw
 low:∀i,i<C.N0→w.heap[i]? =C.w4.heap[i]?
 size:C.N0≤w.heap.size
 still:pq C.sd C.w4 w
 fresh:∀a,h.next.toNat≤a.toNat→h.get a=none
 jj:∀a x,gb a ls=some x→a.toNat<h.next.toNat
theorem aP.lt {C:Cx} {U:AM} {Λ:Pa→Prop} {h:Hp} {ls:List LE} {w:World} (s:aP C U Λ h ls w) {a:Pa} {L:Loc} (ha:U a=some L) (bn:Λ a):
 L.aw<w.heap.size:=by
 obtain⟨b,_,hb⟩:=s.aw a L ha bn;have:∃o,w.heap[L.aw]? =some o:=by
  cases b with
  |cells l d=>obtain⟨_,_,_,I,_⟩:=hb;exact⟨_,I⟩
  |ro l=>obtain⟨_,_,_,I,_⟩:=hb;exact⟨_,I⟩
  |map es c=>obtain⟨_,I,_⟩:=hb;exact⟨_,I⟩
  |loop r=>obtain⟨_,I,_⟩:=hb;exact⟨_,I⟩
  |dH l=>exact⟨_,hb⟩
 obtain⟨o,ho⟩:=this;exact(lb1.1 ho).1
theorem aP.same {C:Cx} {U:AM} {Λ:Pa→Prop} {h:Hp} {ls:List LE} {w w':World} (s:aP C U Λ h ls w) (hw:w'.heap=w.heap) (aj:mK w w'):aP C U Λ h ls w' where
 ia:=s.ia
 aw:=fun a L ha bn=>let⟨b,I,J⟩:=s.aw a L ha bn;⟨b,I,J.mono (AM.le_refl U) (fun _ _ h=>h) (by rw[hw])⟩
 inj:=s.inj
 live:=s.live
 wr:=s.wr
 low:=by rw[hw];exact s.low
 size:=by rw[hw];exact s.size
 still:=s.still.trans aj
 fresh:=s.fresh
 jj:=s.jj
def AM.put (U:AM) (a:Pa) (L:Loc):AM:=fun b=>if b=a then some L else U b
theorem AM.lA {U:AM} {a:Pa} {L:Loc} (h:U a=none):U.le (U.put a L):=by
 intro b M hb;unfold AM.put;split
 ·rename_i e;subst e;rw[h]at hb;cases hb
 ·exact hb
theorem AM.kh (U:AM) (a:Pa) (L:Loc):U.put a L a=some L:=by simp[AM.put]
theorem aP.lB {C:Cx} {U:AM} {Λ:Pa→Prop} {h:Hp} {ls:List LE} {w:World} (s:aP C U Λ h ls w):U h.next=none:=by
 cases e:U h.next with
 |none=>rfl
 |some L=>exact absurd (s.ia _ _ e) (Nat.lt_irrefl _)
def lC (w w':World):Prop:=w'.heap.size=w.heap.size+1∧(∀i,i<w.heap.size→w'.heap[i]? =w.heap[i]?)∧mK w w'
theorem aP.ghost {C:Cx} {U:AM} {Λ:Pa→Prop} {h:Hp} {ls:List LE} {w:World} (s:aP C U Λ h ls w) (b:al):aP C U Λ (h.alloc b) ls w:=by
 have bx:∀a L,U a=some L→a≠h.next:=fun a L ha e=>by subst e;rw[s.lB]at ha;cases ha
 have bE:∀a,a≠h.next→(h.alloc b).get a=h.get a:=fun a e=>by
  simp[bm.alloc,bm.get,T.gX,Ne.symm e]
 have b3:(h.alloc b).next.toNat=h.next.toNat+1:=Pa.iB _;refine⟨fun a L ha=>by rw[b3];exact aq2 (s.ia a L ha),fun a L ha bn=>?_,s.inj,fun a L c ha hg=>?_,fun a L c ha bn hg hr=>?_,s.low,s.size,s.still,fun a ha=>?_,fun a x hx=>?_⟩
 ·rw[bE a (bx a L ha)];exact s.aw a L ha bn
 ·rw[bE a (bx a L ha)]at hg;exact s.live a L c ha hg
 ·rw[bE a (bx a L ha)]at hg;exact s.wr a L c ha bn hg hr
 ·rw[b3]at ha;rw[bE a (fun e=>by subst e;omega)];exact s.fresh a (by omega)
 ·rw[b3];exact aq2 (s.jj a x hx)
theorem aP.fill {C:Cx} {U:AM} {Λ:Pa→Prop} {h:Hp} {ls:List LE} {w w':World} (s:aP C U Λ h ls w) {a:Pa} {b:al} {top:Nat} {md:Bool}
 (ha:U a=none) (hg:h.get a=some b) (hw:lC w w')
 (hb:BR C.P (U.put a ⟨w.heap.size,0,top,md⟩) ls a b ⟨w.heap.size,0,top,md⟩ w'):
 aP C (U.put a ⟨w.heap.size,0,top,md⟩) (fun x=>Λ x∨x=a) h ls w':=by
 have ac:U.le (U.put a ⟨w.heap.size,0,top,md⟩):=AM.lA ha;have aD:∀x M,(U.put a ⟨w.heap.size,0,top,md⟩) x=some M→x≠a→U x=some M:=fun x M hx bM=>by
  simpa[AM.put,bM]using hx
 have new:∀M,(U.put a ⟨w.heap.size,0,top,md⟩) a=some M→M=⟨w.heap.size,0,top,md⟩:=fun M hM=>by
  simp[AM.put]at hM;exact hM.symm
 have ap:a.toNat<h.next.toNat:=by
  rcases aqE a.toNat h.next.toNat with I|I
  ·exact I
  ·rw[s.fresh a I]at hg;cases hg
 refine⟨fun x M hx=>?_,fun x M hx bn=>?_,fun x y M K hx hy fd vm e hN=>?_,fun x M c hx cZ=>?_,fun x M c hx bn cZ hr=>?_,fun i hi=>?_,?_,s.still.trans hw.2.2,s.fresh,s.jj⟩
 ·by_cases bM:x=a
  ·subst bM;exact ap
  ·exact s.ia x M (aD x M hx bM)
 ·by_cases bM:x=a
  ·subst bM;rw[new M hx];exact⟨b,hg,hb⟩
  ·have LT:Λ x:=bn.resolve_right bM;obtain⟨c,I,J⟩:=s.aw x M (aD x M hx bM) LT;exact⟨c,I,J.mono ac (fun _ _ h=>h) (hw.2.1 _ (s.lt (aD x M hx bM) LT))⟩
 ·by_cases bM:x=a
  ·by_cases i0:y=a
   ·rw[bM,i0]
   ·exfalso;subst bM;rw[new M hx]at e;have:=s.lt (aD y K hy i0) (vm.resolve_right i0);simp at e;omega
  ·by_cases i0:y=a
   ·exfalso;subst i0;rw[new K hy]at e;have:=s.lt (aD x M hx bM) (fd.resolve_right bM);simp at e;omega
   ·exact s.inj x y M K (aD x M hx bM) (aD y K hy i0) (fd.resolve_right bM) (vm.resolve_right i0) e hN
 ·by_cases bM:x=a
  ·exact .inl (.inr bM)
  ·rcases s.live x M c (aD x M hx bM) cZ with I|I
   ·exact .inl (.inl I)
   ·exact .inr I
 ·by_cases bM:x=a
  ·subst bM;rw[new M hx];exact s.size
  ·exact s.wr x M c (aD x M hx bM) (bn.resolve_right bM) cZ hr
 ·rw[hw.2.1 i (aqB hi s.size)];exact s.low i hi
 ·rw[hw.1];exact Nat.le_succ_of_le s.size
def iR (w w':World) (k:Nat):Prop:=w'.heap.size=w.heap.size∧(∀i,i≠k→w'.heap[i]? =w.heap[i]?)∧mK w w'
theorem iR.refl (w:World) (k:Nat):iR w w k:=⟨rfl,fun _ _=>rfl,mK.refl w⟩
theorem iR.trans {w w1 w2:World} {k:Nat} (h:iR w w1 k) (h':iR w1 w2 k):iR w w2 k:=
 ⟨h'.1.trans h.1,fun i hi=>(h'.2.1 i hi).trans (h.2.1 i hi),h.2.2.trans h'.2.2⟩
theorem aP.w5 {C:Cx} {U:AM} {Λ:Pa→Prop} {h:Hp} {ls:List LE} {w w':World} (s:aP C U Λ h ls w) {a:Pa} {L:Loc} {b b':al}
 (ha:U a=some L) (bn:Λ a) (hg:h.get a=some b) (f5:b.Fh=false) (_hro':b'.Fh=false) (hw:iR w w' L.aw)
 (hb:BR C.P U ls a b' L w'):aP C U Λ (h.put a b') ls w':=by
 have hN:C.N0≤L.aw:=s.wr a L b ha bn hg f5;have bE:∀x,(h.put a b').get x=if a=x then some b' else h.get x:=fun x=>by simp[bm.put,bm.get,T.gX]
 refine⟨s.ia,fun x M hx fd=>?_,s.inj,fun x M c hx cZ=>?_,fun x M c hx fd cZ hr=>?_,fun i hi=>?_,by rw[hw.1];exact s.size,s.still.trans hw.2.2,fun x hx=>?_,s.jj⟩
 ·by_cases bM:a=x
  ·subst bM;rw[ha]at hx;cases hx;exact⟨b',by rw[bE];simp,hb⟩
  ·obtain⟨c,I,J⟩:=s.aw x M hx fd;refine⟨c,by rw[bE];simp[bM,I],J.mono (AM.le_refl U) (fun _ _ h=>h) (hw.2.1 _ ?_)⟩;intro e;exact bM (s.inj a x L M ha hx bn fd e.symm hN)
 ·by_cases bM:a=x
  ·subst bM;exact .inl bn
  ·rw[bE]at cZ;simp only[bM,if_false]at cZ;exact s.live x M c hx cZ
 ·by_cases bM:a=x
  ·subst bM;rw[ha]at hx;cases hx;exact hN
  ·rw[bE]at cZ;simp only[bM,if_false]at cZ;exact s.wr x M c hx fd cZ hr
 ·rw[hw.2.1 i (by omega)];exact s.low i hi
 ·rw[bE];by_cases bM:a=x
  ·subst bM;exact absurd (s.ia a L ha) (Nat.not_lt.2 hx)
  ·simp only[bM,if_false];exact s.fresh x hx
end Go.Ev
namespace Go.Ev
variable{P:Program} {w:World}
theorem bj {t:TypeId} {d:TypeDesc} (h:P.underlying t=some d):(underlying t).run P w=.ok d w:=by simp[underlying,h]
theorem uK {t:TypeId} {i:TypeInfo} (h:P.info? t=some i):(typeInfo t).run P w=.ok i w:=by simp[typeInfo,h]
theorem gZ {t:TypeId} {i:TypeInfo} (h:P.info? t=some i):(sizeOf t).run P w=.ok i.size w:=by simp[sizeOf,uK h]
theorem lD {t:TypeId} {i:TypeInfo} {v:Value} (h:P.info? t=some i) (hz:i.zero=some v):(zeroValue t).run P w=.ok v w:=by
 simp[zeroValue,uK h,hz]
theorem qJ {t:TypeId} {n:Nat} (h:gz P t=some n):∃i,P.info? t=some i∧i.size=n:=by
 unfold gz at h;cases e:P.info? t with
 |none=>simp[e]at h
 |some i=>simp[e]at h;exact⟨i,rfl,h⟩
theorem y9 {t:TypeId} {z:V} (h:jM P t=some z):∃i v,P.info? t=some i∧i.zero=some v∧z=dU v:=by
 unfold jM at h;cases e:P.info? t with
 |none=>simp[e]at h
 |some i=>
  simp only[e]at h;cases Fd:i.zero with
  |none=>simp[Fd]at h
  |some v=>simp[Fd]at h;exact⟨i,v,rfl,Fd,h.symm⟩
theorem RG {t:TypeId} (h:kb P t=some none):∃i,P.info? t=some i∧∀w,(isAgg t).run P w=.ok false w:=by
 unfold kb at h;cases e:P.info? t with
 |none=>simp[e]at h
 |some i=>
  refine⟨i,rfl,fun w=>?_⟩;simp only[e]at h;cases vn:P.underlying t with
  |none=>simp[vn]at h
  |some d=>cases d<;>simp[vn]at h<;>simp[isAgg,bj vn]
theorem RH {t:TypeId} {n:Nat} (h:kb P t=some (some n)):∃i,P.info? t=some i∧i.size=n∧∀w,(isAgg t).run P w=.ok true w:=by
 unfold kb at h;cases e:P.info? t with
 |none=>simp[e]at h
 |some i=>
  simp only[e]at h;cases vn:P.underlying t with
  |none=>simp[vn]at h
  |some d=>cases d<;>simp[vn]at h<;>exact⟨i,rfl,h,fun w=>by simp[isAgg,bj vn]⟩
theorem La {cs:Array Value} {el:TypeId} {fr:Nat×Nat} {b o:Nat} {c:Value} (hw:w.heap[b]? =some (.cells cs el fr)) (hc:cs[o]? =some c):
 w.cell? ⟨b,o,none⟩=some c:=by simp[World.cell?,hw,hc]
theorem qK (b o n:Nat):(Addr.mk b o none).add n=⟨b,o+n,none⟩:=by
 unfold Addr.add;split
 ·rename_i h;simp[h]
 ·rfl
theorem acr {a:Addr} {c:Value} (h:w.cell? a=some c):(load a).run P w=.ok c w:=by simp[h]
theorem RJ (b o:Nat):∀(cs:List Value) (i:Nat) (am:Array Value),(∀(j:Nat) (c:Value),cs[j]? =some c→w.cell? ⟨b,o+i+j,none⟩=some c)→
 (loadCellsFrom ⟨b,o,none⟩ i cs.length am).run P w=.ok (am++cs.toArray) w
 |[],i,am,_=>by simp[loadCellsFrom]
 |c::cs,i,am,h=>by
  have h0:=h 0 c (by simp);have ih:=RJ b o cs (i+1) (am.push c) (fun j d hd=>by
   have:=h (j+1) d (by simpa using hd);rw[show o+(i+1)+j=o+i+(j+1)from by omega];exact this)
  simp only[WW,loadCellsFrom,Sem.run_bind,qK];rw[acr (by simpa using h0)];simp only[Result.andThen_ok,ih];simp
theorem acs (b o:Nat) (cs:List Value) (h:∀(j:Nat) (c:Value),cs[j]? =some c→w.cell? ⟨b,o+j,none⟩=some c):
 (loadCells ⟨b,o,none⟩ cs.length).run P w=.ok cs.toArray w:=by
 have:=RJ (P:=P) b o cs 0 #[] (by simpa using h);simpa[loadCells]using this
variable{C:Cx} {U:AM} {Λ:Pa→Prop} {h:Hp} {ls:List LE}
theorem aP.cells (s:aP C U Λ h ls w) {a:Pa} {L:Loc} (ha:U a=some L) {l:List V} (hl:h.cells a=some l):
 ∀(i:Nat) (v:V),l[i]? =some v→∃c,w.cell? ⟨L.aw,L.base+i,none⟩=some c∧VR U v c:=by
 unfold bm.cells at hl;cases hg:h.get a with
 |none=>simp[hg]at hl
 |some b=>
  simp only[hg]at hl;have bn:Λ a:=by
   rcases s.live a L _ ha hg with I|⟨m,I⟩
   ·exact I
   ·subst I;simp at hl
  obtain⟨b',I,J⟩:=s.aw a L ha bn;rw[hg]at I;injection I with I;subst I
  cases b with
  |cells m d=>
   simp only at hl;cases d with
   |true=>simp at hl
   |false=>
    simp at hl;subst hl;obtain⟨cs,el,fr,k1,_,_,⟨_,k5⟩,_⟩:=J;intro i v hv;obtain⟨c,k6,zP⟩:=k5 i v hv;exact⟨c,La k1 k6,zP⟩
  |ro m=>
   simp at hl;subst hl;obtain⟨cs,el,fr,k1,_,_,k5⟩:=J;intro i v hv;obtain⟨c,k6,zP⟩:=k5 i v hv;exact⟨c,La k1 k6,zP⟩
  |map es c=>simp at hl
  |loop r=>simp at hl
  |dH l=>simp at hl
theorem aP.Lb (s:aP C U Λ h ls w) {a:Pa} {L:Loc} (ha:U a=some L) {o n:Nat} {l:List V} (hl:h.cl a o n=some l):
 ∃cs:List Value,cs.length=n∧bd U l cs∧∀w1:World,w1.heap=w.heap→(loadCells ⟨L.aw,L.base+o,none⟩ n).run P w1=.ok cs.toArray w1:=by
 unfold bm.cl at hl;cases hc:h.cells a with
 |none=>simp[hc]at hl
 |some m=>
  simp only[hc,qI]at hl;obtain⟨I,J⟩:=w3 hl;have zQ:=s.cells ha hc;have hlen:l.length=n:=by rw[J];simp at I⊢;omega
  have bE:∀(i:Nat) (v:V),l[i]? =some v→∃c,w.cell? ⟨L.aw,L.base+o+i,none⟩=some c∧VR U v c:=by
   intro i v hv;rw[J,aqt]at hv;split at hv
   ·rw[aqi]at hv;obtain⟨c,k1,k2⟩:=zQ _ _ hv;exact⟨c,by rw[aqf];exact k1,k2⟩
   ·cases hv
  have:∀(m:List V) (o':Nat),(∀(i:Nat) (v:V),m[i]? =some v→∃c,w.cell? ⟨L.aw,o'+i,none⟩=some c∧VR U v c)→
   ∃cs:List Value,cs.length=m.length∧bd U m cs∧∀(j:Nat) (c:Value),cs[j]? =some c→w.cell? ⟨L.aw,o'+j,none⟩=some c:=by
   intro m
   induction m with
   |nil=>intro o' _;exact⟨[],rfl,.nil,fun j c hj=>by simp at hj⟩
   |cons v m ih=>
    intro o' hm;obtain⟨c,k1,k2⟩:=hm 0 v (by simp);obtain⟨cs,k3,k4,k5⟩:=ih (o'+1) (fun i u hu=>by
     obtain⟨d,e1,e2⟩:=hm (i+1) u (by simpa using hu);exact⟨d,by rw[show o'+1+i=o'+(i+1)from by omega];exact e1,e2⟩)
    refine⟨c::cs,by simp[k3],.cons _ _ _ _ k2 k4,fun j d hd=>?_⟩;cases j with
    |zero=>simp at hd;subst hd;simpa using k1
    |succ j=>simp at hd;rw[show o'+(j+1)=o'+1+j from by omega];exact k5 j d hd
  obtain⟨cs,k1,k2,k3⟩:=this l (L.base+o) bE;refine⟨cs,by rw[k1,hlen],k2,fun w1 dP=>?_⟩;have:=acs (P:=P) (w:=w1) L.aw (L.base+o) cs (fun j c hj=>by
   have:=k3 j c hj;unfold World.cell? at this⊢;rw[dP];exact this)
  rwa [k1,hlen]at this
theorem aP.cl (s:aP C U Λ h ls w) {a:Pa} {L:Loc} (ha:U a=some L) {o n:Nat} {l:List V} (hl:h.cl a o n=some l):
 ∃cs:List Value,cs.length=n∧bd U l cs∧(loadCells ⟨L.aw,L.base+o,none⟩ n).run P w=.ok cs.toArray w:=
 let⟨cs,I,J,h3⟩:=s.Lb (P:=P) ha hl
 ⟨cs,I,J,h3 w rfl⟩
theorem acu {t:TypeId} {a:Addr} {c:Value} (ha:(isAgg t).run P w=.ok false w) (hc:w.cell? a=some c):(loadVar t a).run P w=.ok c w:=by
 simp[loadVar,ha,hc]
theorem acv {t:TypeId} {a:Addr} {i:TypeInfo} {cs:Array Value} (ha:(isAgg t).run P w=.ok true w) (hi:P.info? t=some i)
 (hc:(loadCells a i.size).run P w=.ok cs w):(loadVar t a).run P w=.ok (.agg cs) w:=by
 simp[loadVar,ha,gZ hi,hc]
theorem RK (s:aP C U Λ h ls w) {n:Option Nat} {t:TypeId} (hn:kb P t=some n) {x v:V} {c:Value} (hx:VR U x c) (hv:fH h n x=some v):
 ∃a d,c=.pointer (some a)∧(loadVar t a).run P w=.ok d w∧VR U v d:=by
 cases x with
 |ptr a o=>
  cases hx with
  |ptr _ _ L ha=>
   simp only[fH]at hv;cases n with
   |none=>
    simp only at hv;obtain⟨i,hi,m3⟩:=RG hn;cases hc:h.cells a with
    |none=>simp[hc]at hv
    |some l=>
     simp only[hc,qH]at hv;obtain⟨d,k1,k2⟩:=s.cells ha hc _ _ hv;exact⟨_,d,rfl,acu (m3 w) k1,k2⟩
   |some n=>
    simp only at hv;obtain⟨i,hi,bJ,m3⟩:=RH hn;split at hv
    ·rename_i l hl;simp at hv;subst hv;obtain⟨cs,k1,k2,k3⟩:=s.cl (P:=P) ha hl;exact⟨_,.agg cs.toArray,rfl,acv (m3 w) hi (by rw[bJ];exact k3),.agg _ _ k2⟩
    ·cases hv
 |_=>simp[fH]at hv
end Go.Ev
namespace Go.Ev
theorem Ck {a b:IntKind} (h:cW a b=true):a=b:=by
 cases a<;>cases b<;>first|rfl|(simp[cW,KM,Nat.beq]at h;done)
theorem ki (a b:Int):iw a b=(a==b):=by
 cases a<;>cases b<;>simp[iw]<;>rw[aqC]<;>simp<;>omega
theorem sH (a b:Int):jc a b=decide (a<b):=by
 cases a<;>cases b<;>simp only[jc]<;>rw[aqC]<;>simp[arx]<;>omega
theorem Lc (a b:Int):B6 a b=a+b:=by cases a<;>cases b<;>simp[B6]
theorem Ld (a b:Int):B7 a b=a-b:=by
 cases a<;>cases b<;>simp only[B7]
 rename_i a b;cases h:Nat.ble b a with
 |true=>simp at h;simp;omega
 |false=>simp
theorem RL (a b:Int):E9 a b=a*b:=by cases a<;>cases b<;>simp[E9]
theorem Fi (k:IntKind) (a:Nat) (h:a≤qw k):k.wrap (Int.ofNat a)=Int.ofNat a:=by
 cases k<;>simp only[qw]at h
 ·exact IntWalk.i8_in _ (by simp only[aqV];omega)
 ·exact IntWalk.i16_in _ (by simp only[aqV];omega)
 ·exact IntWalk.i32_in _ (by simp only[aqV];omega)
 ·exact IntWalk.i64_in _ (by simp only[aqV];omega)
 ·exact IntWalk.u8_in _ (by simp only[aqV];omega)
 ·exact IntWalk.u16_in _ (by simp only[aqV];omega)
 ·exact IntWalk.u32_in _ (by simp only[aqV];omega)
 ·exact IntWalk.u64_in _ (by simp only[aqV];omega)
theorem acw (k:IntKind) (a:Nat) (I:k.signed=true) (h:a≤qw k):k.wrap (Int.negSucc a)=Int.negSucc a:=by
 cases k<;>simp only[qw]at h<;>first|cases I|skip
 ·exact IntWalk.i8_in _ (by simp only[arx];omega)
 ·exact IntWalk.i16_in _ (by simp only[arx];omega)
 ·exact IntWalk.i32_in _ (by simp only[arx];omega)
 ·exact IntWalk.i64_in _ (by simp only[arx];omega)
theorem uL (k:IntKind) (n:Int):e6 k n=k.wrap n:=by
 cases n with
 |ofNat a=>
  simp only[e6];cases h:Nat.ble a (qw k)with
  |false=>rfl
  |true=>exact(Fi k a (ap5 h)).symm
 |negSucc a=>
  simp only[e6];cases h:(k.signed&&Nat.ble a (qw k))with
  |false=>rfl
  |true=>
   rw[G7]at h;exact(acw k a h.1 (ap5 h.2)).symm
theorem RM (a b:Bool):B8 a b=(a==b):=by cases a<;>cases b<;>rfl
theorem qL (a b:List UInt8):nN a b=(a==b):=by
 induction a generalizing b with
 |nil=>cases b<;>rfl
 |cons x a ih=>
  cases b with
  |nil=>rfl
  |cons y b=>
   simp only[nN,ih,List.cons_beq_cons];cases h:Nat.beq x.toNat y.toNat with
   |true=>
    have:x=y:=art.1 (by simpa using h);simp[this]
   |false=>
    have:(x==y)=false:=by
     rw[beq_eq_false_iff_ne];intro e;subst e;simp at h
    simp[this]
theorem acx (a b:List UInt8):ph a b=Op.bytesLess a b:=by
 induction a generalizing b with
 |nil=>cases b<;>rfl
 |cons x a ih=>
  cases b with
  |nil=>rfl
  |cons y b=>
   simp only[ph,Op.bytesLess,ih];by_cases I:x<y
   ·have:Nat.blt x.toNat y.toNat=true:=by simpa[UInt8.lt_iff_toNat_lt]using I
    simp[this,I]
   ·have lm:Nat.blt x.toNat y.toNat=false:=by
     rw[aqO];intro e;apply I;simpa[UInt8.lt_iff_toNat_lt]using e
    simp only[lm,I,KL,decide_false,aqu];cases h:Nat.beq x.toNat y.toNat with
    |true=>
     have:x=y:=art.1 (by simpa using h);simp[this]
    |false=>
     have:(x==y)=false:=by
      rw[beq_eq_false_iff_ne];intro e;subst e;simp at h
     simp[this]
variable{P:Program} {w:World} {U:AM}
theorem Fj {t:TypeId} {q:jL} (h:pk P t=some q):
 (q=.b∧P.underlying t=some .bool)∨(q=.i∧∃k,P.underlying t=some (.int k))∨(q=.s∧P.underlying t=some .string):=by
 unfold pk at h;split at h<;>first|(cases h;simp_all;done)|cases h
theorem RN {x y:V} {c d:Value} {b:Bool} {q:jL} (hx:VR U x c) (hy:VR U y d) (h:fq q x y=some b) {t:TypeId} (ht:pk P t=some q) (n:Nat):
 (Op.equalIn (n+1) t c d).run P w=.ok b w:=by
 rcases Fj ht with⟨rfl,hu⟩|⟨rfl,k,hu⟩|⟨rfl,hu⟩
 ·cases x<;>simp only[fq]at h<;>(try cases h)
  cases y<;>simp only at h<;>(try cases h)
  cases hx;cases hy;rw[run_equalIn_bool' w n t _ _ hu,RM]
 ·cases x<;>simp only[fq]at h<;>(try cases h)
  cases y<;>simp only at h<;>(try cases h)
  rename_i k i k' j;cases hk:cW k k' with
  |false=>simp[hk]at h
  |true=>
   have:=Ck hk;subst this;simp[hk]at h;subst h;cases hx;cases hy;rw[run_equalIn_int w n t _ _ _ _ hu,ki]
 ·cases x<;>simp only[fq]at h<;>(try cases h)
  cases y<;>simp only at h<;>(try cases h)
  cases hx;cases hy;rw[run_equalIn_string w n t _ _ hu,qL,ByteArray.toList_eq,ByteArray.toList_eq]
theorem RP {t:TypeId} {q:jL} (ht:pk P t=some q):(isAgg t).run P w=.ok false w:=by
 rcases Fj ht with⟨_,hu⟩|⟨_,k,hu⟩|⟨_,hu⟩<;>simp[isAgg,bj hu]
theorem Fk {t:TypeId} {cs:Array Value} {o:Nat} {c:Value} (ha:(isAgg t).run P w=.ok false w) (hc:cs[o]? =some c):(Go.part t cs o).run P w=.ok c w:=by
 simp[Go.part,ha,hc]
theorem Lf (n:Nat) {xs ys:List V} {cs ds:List Value} (hx:bd U xs cs) (hy:bd U ys ds):
 ∀(fs:List Field) (l:List (Nat×jL)) (b:Bool),nQ P fs=some l→pj xs ys l=some b→
  (Op.eqFields (n+1) cs.toArray ds.toArray fs).run P w=.ok b w
 |[],l,b,hl,hb=>by
  simp[nQ]at hl;subst hl;simp[pj]at hb;subst hb;simp[Op.eqFields]
 |f::fs,l,b,hl,hb=>by
  simp only[nQ]at hl;cases rc:nQ P fs with
  |none=>simp[rc]at hl
  |some m=>
   simp only[rc]at hl;by_cases hn:f.name≠ "_"
   ·rw[B4 hn]at hl;cases hq:pk P f.type with
    |none=>simp[hq]at hl
    |some q=>
     simp[hq]at hl;subst hl;simp only[pj,qH]at hb;cases ha:xs[f.offset]? with
     |none=>simp[ha]at hb
     |some a=>
      cases xO:ys[f.offset]? with
      |none=>simp[ha,xO]at hb
      |some a'=>
       simp only[ha,xO]at hb;obtain⟨c,hc,GE⟩:=hx.get ha;obtain⟨d,hd,So⟩:=hy.get xO;have m3:∀w,(isAgg f.type).run P w=.ok false w:=fun w=>RP hq;cases he:fq q a a' with
       |none=>simp[he]at hb
       |some r=>
        have hr:=RN (P:=P) (w:=w) GE So he hq n;have p1:=Fk (P:=P) (w:=w) (cs:=cs.toArray) (o:=f.offset) (m3 w) (by simpa using hc);have p2:=Fk (P:=P) (w:=w) (cs:=ds.toArray) (o:=f.offset) (m3 w) (by simpa using hd);have ih:=Lf n hx hy fs m;cases r with
        |true=>
         simp only[he]at hb;simp only[Op.eqFields,hn,ne_eq,not_false_eq_true,if_true,Sem.run_bind,p1,Result.andThen_ok,p2,hr];simp[ih b rc hb]
        |false=>
         simp[he]at hb;subst hb;simp only[Op.eqFields,hn,ne_eq,not_false_eq_true,if_true,Sem.run_bind,p1,Result.andThen_ok,p2,hr];simp
   ·rw[pg hn]at hl;cases hl;simp only[Op.eqFields,hn,if_false];exact Lf n hx hy fs _ b rc hb
theorem Lg (op:BinOp) (t:TypeId) (x y:Operand) (c d:Value) (I:c=.nilIface→d=.nilIface→ft x||ft y)
 (J:∀a b,c=.agg a→d=.agg b→P.eqGuardType P.depth t=false):(eqGuard op t x y c d).run P w=.ok () w:=by
 unfold eqGuard;cases op<;>first
  |rfl
  |(simp only[aqR,aqN,if_false]
    split
    ·have lm:=I rfl rfl;cases x<;>cases y<;>first|rfl|(simp[ft]at lm;done)
    ·rename_i a b;simp[J a b rfl rfl]
    ·rfl)
theorem acy (t:TypeId) (c d:Value):∃m,(Op.equal t c d)=Op.equalIn (m+1+1) t c d:=⟨9998,rfl⟩
theorem ib {q:cV} {x:V} (h:isNil q x=.nil):(q=.ptr∧x=.no .ptr)∨(q=.iface∧x=.no .iface)∨(q=.slice∧x=.no .sl)∨(q=.func∧x=.no .fn)∨(q=.map∧x=.no .map):=by
 cases x<;>simp only[isNil]at h<;>(try(cases q<;>cases h;done))
 rename_i k;cases q<;>cases k<;>simp_all
theorem qM {q:cV} {x:V} (h:isNil q x=.some):(q=.ptr∧∃a o,x=.ptr a o)∨(q=.iface∧∃t v,x=.iface t v)∨(q=.slice∧∃a o n c,x=.sl a o n c)∨(q=.func∧∃f l,x=.fn f l)∨(q=.map∧∃a,x=.map a):=by
 cases x<;>simp only[isNil]at h<;>(try(cases q<;>cases h;done))<;>cases q<;>(try(simp_all;done))<;>(rename_i k;cases k<;>simp_all)
theorem sI (t:TypeId):(∃q,a7 P t=.flat q∧pk P t=some q)∨
 (∃l fs,a7 P t=.agg l∧P.underlying t=some (.struct fs)∧nQ P fs.toList=some l∧P.stoodInHeld t=false∧P.eqGuardType P.depth t=false)∨
 (a7 P t=.ptr∧∃e,P.underlying t=some (.pointer e))∨(a7 P t=.iface∧∃e,P.underlying t=some (.interface e))∨
 (a7 P t=.slice∧∃e,P.underlying t=some (.slice e))∨(a7 P t=.func∧∃a b c,P.underlying t=some (.func a b c))∨
 (a7 P t=.map∧∃a b,P.underlying t=some (.map a b))∨a7 P t=.no:=by
 unfold a7 pk;cases hu:P.underlying t with
 |none=>simp
 |some d=>
  cases d<;>simp
  rename_i fs;cases hf:nQ P fs.toList with
  |none=>simp
  |some l=>
   cases hh:(P.stoodInHeld t||P.eqGuardType P.depth t)with
   |true=>simp
   |false=>
    have rg:=hh;rw[W0]at rg;simp[rg.1,rg.2]
theorem acz {t:TypeId} (h:a7 P t=.ptr):∃e,P.underlying t=some (.pointer e):=by
 rcases sI (P:=P) t with⟨_,I,_⟩|⟨_,_,I,_⟩|⟨I,J⟩|⟨I,J⟩|⟨I,J⟩|⟨I,J⟩|⟨I,J⟩|I<;>rw[h]at I<;>first|exact J|cases I
theorem acA {t:TypeId} (h:a7 P t=.iface):∃e,P.underlying t=some (.interface e):=by
 rcases sI (P:=P) t with⟨_,I,_⟩|⟨_,_,I,_⟩|⟨I,J⟩|⟨I,J⟩|⟨I,J⟩|⟨I,J⟩|⟨I,J⟩|I<;>rw[h]at I<;>first|exact J|cases I
theorem acB {t:TypeId} (h:a7 P t=.slice):∃e,P.underlying t=some (.slice e):=by
 rcases sI (P:=P) t with⟨_,I,_⟩|⟨_,_,I,_⟩|⟨I,J⟩|⟨I,J⟩|⟨I,J⟩|⟨I,J⟩|⟨I,J⟩|I<;>rw[h]at I<;>first|exact J|cases I
theorem acC {t:TypeId} (h:a7 P t=.func):∃a b c,P.underlying t=some (.func a b c):=by
 rcases sI (P:=P) t with⟨_,I,_⟩|⟨_,_,I,_⟩|⟨I,J⟩|⟨I,J⟩|⟨I,J⟩|⟨I,J⟩|⟨I,J⟩|I<;>rw[h]at I<;>first|exact J|cases I
theorem acD {t:TypeId} (h:a7 P t=.map):∃a b,P.underlying t=some (.map a b):=by
 rcases sI (P:=P) t with⟨_,I,_⟩|⟨_,_,I,_⟩|⟨I,J⟩|⟨I,J⟩|⟨I,J⟩|⟨I,J⟩|⟨I,J⟩|I<;>rw[h]at I<;>first|exact J|cases I
theorem acE {t:TypeId} {q:jL} (h:a7 P t=.flat q):pk P t=some q:=by
 rcases sI (P:=P) t with⟨_,I,J⟩|⟨_,_,I,_⟩|⟨I,J⟩|⟨I,J⟩|⟨I,J⟩|⟨I,J⟩|⟨I,J⟩|I<;>rw[h]at I<;>first|(cases I;exact J)|cases I
theorem acF {t:TypeId} {l:List (Nat×jL)} (h:a7 P t=.agg l):
 ∃fs,P.underlying t=some (.struct fs)∧nQ P fs.toList=some l∧P.stoodInHeld t=false∧P.eqGuardType P.depth t=false:=by
 rcases sI (P:=P) t with⟨_,I,J⟩|⟨_,fs,I,J⟩|⟨I,J⟩|⟨I,J⟩|⟨I,J⟩|⟨I,J⟩|⟨I,J⟩|I<;>rw[h]at I<;>first|(cases I;exact⟨fs,J⟩)|cases I
section
variable{t:TypeId} (n:Nat)
theorem kj {e:TypeId} (hu:P.underlying t=some (.pointer e)) (b:Option Addr):(Op.equalIn (n+1) t (.pointer none) (.pointer b)).run P w=.ok b.isNone w:=by
 simp only[Op.equalIn,Sem.run_bind,bj hu,Result.andThen_ok];rfl
theorem kk {e:TypeId} (hu:P.underlying t=some (.pointer e)) (a:Addr):(Op.equalIn (n+1) t (.pointer (some a)) (.pointer none)).run P w=.ok false w:=by
 simp only[Op.equalIn,Sem.run_bind,bj hu,Result.andThen_ok];rfl
theorem kl {e:Array (String×TypeId)} (hu:P.underlying t=some (.interface e)):(Op.equalIn (n+1) t .nilIface .nilIface).run P w=.ok true w:=by
 simp only[Op.equalIn,Sem.run_bind,bj hu,Result.andThen_ok];rfl
theorem km {e:Array (String×TypeId)} (hu:P.underlying t=some (.interface e)) (k:TypeId) (v:Value):(Op.equalIn (n+1) t .nilIface (.iface k v)).run P w=.ok false w:=by
 simp only[Op.equalIn,Sem.run_bind,bj hu,Result.andThen_ok];rfl
theorem kn {e:Array (String×TypeId)} (hu:P.underlying t=some (.interface e)) (k:TypeId) (v:Value):(Op.equalIn (n+1) t (.iface k v) .nilIface).run P w=.ok false w:=by
 simp only[Op.equalIn,Sem.run_bind,bj hu,Result.andThen_ok];rfl
theorem kp {e:TypeId} (hu:P.underlying t=some (.slice e)) (i j:Nat) (b:Option Addr) (k l:Nat):(Op.equalIn (n+1) t (.slice none i j) (.slice b k l)).run P w=.ok b.isNone w:=by
 simp only[Op.equalIn,Sem.run_bind,bj hu,Result.andThen_ok];rfl
theorem kq {e:TypeId} (hu:P.underlying t=some (.slice e)) (i j:Nat) (a:Addr) (k l:Nat):(Op.equalIn (n+1) t (.slice (some a) i j) (.slice none k l)).run P w=.ok false w:=by
 simp only[Op.equalIn,Sem.run_bind,bj hu,Result.andThen_ok];rfl
theorem kr {e1 e2:Array TypeId} {e3:Bool} (hu:P.underlying t=some (.func e1 e2 e3)):(Op.equalIn (n+1) t .nilFunc .nilFunc).run P w=.ok true w:=by
 simp only[Op.equalIn,Sem.run_bind,bj hu,Result.andThen_ok];rfl
theorem ku {e1 e2:Array TypeId} {e3:Bool} (hu:P.underlying t=some (.func e1 e2 e3)) (f:Fn) (a b:Array Value):(Op.equalIn (n+1) t .nilFunc (.func f a b)).run P w=.ok false w:=by
 simp only[Op.equalIn,Sem.run_bind,bj hu,Result.andThen_ok];rfl
theorem kx {e1 e2:Array TypeId} {e3:Bool} (hu:P.underlying t=some (.func e1 e2 e3)) (f:Fn) (a b:Array Value):(Op.equalIn (n+1) t (.func f a b) .nilFunc).run P w=.ok false w:=by
 simp only[Op.equalIn,Sem.run_bind,bj hu,Result.andThen_ok];rfl
theorem ky {e1 e2:TypeId} (hu:P.underlying t=some (.map e1 e2)) (b:Option Nat):(Op.equalIn (n+1) t (.map none) (.map b)).run P w=.ok b.isNone w:=by
 simp only[Op.equalIn,Sem.run_bind,bj hu,Result.andThen_ok];rfl
theorem kz {e1 e2:TypeId} (hu:P.underlying t=some (.map e1 e2)) (b:Nat):(Op.equalIn (n+1) t (.map (some b)) (.map none)).run P w=.ok false w:=by
 simp only[Op.equalIn,Sem.run_bind,bj hu,Result.andThen_ok];rfl
end
theorem RQ {x y:V} {c d:Value} {b:Bool} (hx:VR U x c) (hy:VR U y d) {t:TypeId} (h:da (a7 P t) x y=some b):
 (Op.equal t c d).run P w=.ok b w∧(∀e f,c=.agg e→d=.agg f→P.eqGuardType P.depth t=false)∧(c=.nilIface→a7 P t=.iface):=by
 obtain⟨m,hm⟩:=acy t c d;rw[hm];clear hm;cases hq:a7 P t with
 |flat q=>
  rw[hq]at h;simp only[da]at h;refine⟨RN hx hy h (acE hq) (m+1),fun e f he _=>?_,fun he=>?_⟩
  ·subst he;cases hx<;>cases q<;>simp[fq]at h
  ·subst he;cases hx<;>cases q<;>simp[fq]at h
 |agg l=>
  rw[hq]at h;simp only[da]at h;obtain⟨fs,hu,hl,aj,GT⟩:=acF hq;cases x<;>simp only at h<;>(try(cases h;done))
  cases y<;>simp only at h<;>(try(cases h;done))
  cases hx with
  |agg xs cs eV=>
   cases hy with
   |agg ys ds ST=>
    refine⟨?_,fun _ _ _ _=>GT,fun he=>by cases he⟩;have eW:P.fieldsOf t=fs:=by simp[Program.fieldsOf,hu]
    rw[run_equalIn_struct w (m+1) t _ _ (by rw[eW];exact hu) aj,eW];exact Lf m eV ST fs.toList l b hl h
 |no=>rw[hq]at h;simp[da,isNil]at h;cases x<;>cases y<;>simp at h
 |ptr=>
  rw[hq]at h;simp only[da]at h;obtain⟨e,hu⟩:=acz hq;split at h<;>(try(cases h;done))<;>cases h<;>rename_i I J
  ·rcases ib I with⟨_,rfl⟩|⟨h3,_⟩|⟨h3,_⟩|⟨h3,_⟩|⟨h3,_⟩<;>(try cases h3)
   rcases ib J with⟨_,rfl⟩|⟨h3,_⟩|⟨h3,_⟩|⟨h3,_⟩|⟨h3,_⟩<;>(try cases h3)
   cases hx;cases hy;exact⟨(by first|exact kj _ hu _|exact kk _ hu _|exact kl _ hu|exact km _ hu _ _|exact kn _ hu _ _|exact kp _ hu _ _ _ _ _|exact kq _ hu _ _ _ _ _|exact kr _ hu|exact ku _ hu _ _ _|exact kx _ hu _ _ _|exact ky _ hu _|exact kz _ hu _),fun _ _ he _=>(by cases he),fun he=>(by cases he)⟩
  ·rcases ib I with⟨_,rfl⟩|⟨h3,_⟩|⟨h3,_⟩|⟨h3,_⟩|⟨h3,_⟩<;>(try cases h3)
   rcases qM J with⟨_,_,_,rfl⟩|⟨h3,_⟩|⟨h3,_⟩|⟨h3,_⟩|⟨h3,_⟩<;>(try cases h3)
   cases hx;cases hy;exact⟨(by first|exact kj _ hu _|exact kk _ hu _|exact kl _ hu|exact km _ hu _ _|exact kn _ hu _ _|exact kp _ hu _ _ _ _ _|exact kq _ hu _ _ _ _ _|exact kr _ hu|exact ku _ hu _ _ _|exact kx _ hu _ _ _|exact ky _ hu _|exact kz _ hu _),fun _ _ he _=>(by cases he),fun he=>(by cases he)⟩
  ·rcases qM I with⟨_,_,_,rfl⟩|⟨h3,_⟩|⟨h3,_⟩|⟨h3,_⟩|⟨h3,_⟩<;>(try cases h3)
   rcases ib J with⟨_,rfl⟩|⟨h3,_⟩|⟨h3,_⟩|⟨h3,_⟩|⟨h3,_⟩<;>(try cases h3)
   cases hx;cases hy;exact⟨(by first|exact kj _ hu _|exact kk _ hu _|exact kl _ hu|exact km _ hu _ _|exact kn _ hu _ _|exact kp _ hu _ _ _ _ _|exact kq _ hu _ _ _ _ _|exact kr _ hu|exact ku _ hu _ _ _|exact kx _ hu _ _ _|exact ky _ hu _|exact kz _ hu _),fun _ _ he _=>(by cases he),fun he=>(by cases he)⟩
 |iface=>
  rw[hq]at h;simp only[da]at h;obtain⟨e,hu⟩:=acA hq;split at h<;>(try(cases h;done))<;>cases h<;>rename_i I J
  ·rcases ib I with⟨h3,_⟩|⟨_,rfl⟩|⟨h3,_⟩|⟨h3,_⟩|⟨h3,_⟩<;>(try cases h3)
   rcases ib J with⟨h3,_⟩|⟨_,rfl⟩|⟨h3,_⟩|⟨h3,_⟩|⟨h3,_⟩<;>(try cases h3)
   cases hx;cases hy;exact⟨(by first|exact kj _ hu _|exact kk _ hu _|exact kl _ hu|exact km _ hu _ _|exact kn _ hu _ _|exact kp _ hu _ _ _ _ _|exact kq _ hu _ _ _ _ _|exact kr _ hu|exact ku _ hu _ _ _|exact kx _ hu _ _ _|exact ky _ hu _|exact kz _ hu _),fun _ _ he _=>(by cases he),fun _=>rfl⟩
  ·rcases ib I with⟨h3,_⟩|⟨_,rfl⟩|⟨h3,_⟩|⟨h3,_⟩|⟨h3,_⟩<;>(try cases h3)
   rcases qM J with⟨h3,_⟩|⟨_,_,_,rfl⟩|⟨h3,_⟩|⟨h3,_⟩|⟨h3,_⟩<;>(try cases h3)
   cases hx;cases hy;exact⟨(by first|exact kj _ hu _|exact kk _ hu _|exact kl _ hu|exact km _ hu _ _|exact kn _ hu _ _|exact kp _ hu _ _ _ _ _|exact kq _ hu _ _ _ _ _|exact kr _ hu|exact ku _ hu _ _ _|exact kx _ hu _ _ _|exact ky _ hu _|exact kz _ hu _),fun _ _ he _=>(by cases he),fun _=>rfl⟩
  ·rcases qM I with⟨h3,_⟩|⟨_,_,_,rfl⟩|⟨h3,_⟩|⟨h3,_⟩|⟨h3,_⟩<;>(try cases h3)
   rcases ib J with⟨h3,_⟩|⟨_,rfl⟩|⟨h3,_⟩|⟨h3,_⟩|⟨h3,_⟩<;>(try cases h3)
   cases hx;cases hy;exact⟨(by first|exact kj _ hu _|exact kk _ hu _|exact kl _ hu|exact km _ hu _ _|exact kn _ hu _ _|exact kp _ hu _ _ _ _ _|exact kq _ hu _ _ _ _ _|exact kr _ hu|exact ku _ hu _ _ _|exact kx _ hu _ _ _|exact ky _ hu _|exact kz _ hu _),fun _ _ he _=>(by cases he),fun _=>rfl⟩
 |slice=>
  rw[hq]at h;simp only[da]at h;obtain⟨e,hu⟩:=acB hq;split at h<;>(try(cases h;done))<;>cases h<;>rename_i I J
  ·rcases ib I with⟨h3,_⟩|⟨h3,_⟩|⟨_,rfl⟩|⟨h3,_⟩|⟨h3,_⟩<;>(try cases h3)
   rcases ib J with⟨h3,_⟩|⟨h3,_⟩|⟨_,rfl⟩|⟨h3,_⟩|⟨h3,_⟩<;>(try cases h3)
   cases hx;cases hy;exact⟨(by first|exact kj _ hu _|exact kk _ hu _|exact kl _ hu|exact km _ hu _ _|exact kn _ hu _ _|exact kp _ hu _ _ _ _ _|exact kq _ hu _ _ _ _ _|exact kr _ hu|exact ku _ hu _ _ _|exact kx _ hu _ _ _|exact ky _ hu _|exact kz _ hu _),fun _ _ he _=>(by cases he),fun he=>(by cases he)⟩
  ·rcases ib I with⟨h3,_⟩|⟨h3,_⟩|⟨_,rfl⟩|⟨h3,_⟩|⟨h3,_⟩<;>(try cases h3)
   rcases qM J with⟨h3,_⟩|⟨h3,_⟩|⟨_,_,_,_,_,rfl⟩|⟨h3,_⟩|⟨h3,_⟩<;>(try cases h3)
   cases hx;cases hy<;>
   exact⟨(by first|exact kj _ hu _|exact kk _ hu _|exact kl _ hu|exact km _ hu _ _|exact kn _ hu _ _|exact kp _ hu _ _ _ _ _|exact kq _ hu _ _ _ _ _|exact kr _ hu|exact ku _ hu _ _ _|exact kx _ hu _ _ _|exact ky _ hu _|exact kz _ hu _),fun _ _ he _=>(by cases he),fun he=>(by cases he)⟩
  ·rcases qM I with⟨h3,_⟩|⟨h3,_⟩|⟨_,_,_,_,_,rfl⟩|⟨h3,_⟩|⟨h3,_⟩<;>(try cases h3)
   rcases ib J with⟨h3,_⟩|⟨h3,_⟩|⟨_,rfl⟩|⟨h3,_⟩|⟨h3,_⟩<;>(try cases h3)
   cases hy;cases hx<;>
   exact⟨(by first|exact kj _ hu _|exact kk _ hu _|exact kl _ hu|exact km _ hu _ _|exact kn _ hu _ _|exact kp _ hu _ _ _ _ _|exact kq _ hu _ _ _ _ _|exact kr _ hu|exact ku _ hu _ _ _|exact kx _ hu _ _ _|exact ky _ hu _|exact kz _ hu _),fun _ _ he _=>(by cases he),fun he=>(by cases he)⟩
 |func=>
  rw[hq]at h;simp only[da]at h;obtain⟨e,e2,e3,hu⟩:=acC hq;split at h<;>(try(cases h;done))<;>cases h<;>rename_i I J
  ·rcases ib I with⟨h3,_⟩|⟨h3,_⟩|⟨h3,_⟩|⟨_,rfl⟩|⟨h3,_⟩<;>(try cases h3)
   rcases ib J with⟨h3,_⟩|⟨h3,_⟩|⟨h3,_⟩|⟨_,rfl⟩|⟨h3,_⟩<;>(try cases h3)
   cases hx;cases hy;exact⟨(by first|exact kj _ hu _|exact kk _ hu _|exact kl _ hu|exact km _ hu _ _|exact kn _ hu _ _|exact kp _ hu _ _ _ _ _|exact kq _ hu _ _ _ _ _|exact kr _ hu|exact ku _ hu _ _ _|exact kx _ hu _ _ _|exact ky _ hu _|exact kz _ hu _),fun _ _ he _=>(by cases he),fun he=>(by cases he)⟩
  ·rcases ib I with⟨h3,_⟩|⟨h3,_⟩|⟨h3,_⟩|⟨_,rfl⟩|⟨h3,_⟩<;>(try cases h3)
   rcases qM J with⟨h3,_⟩|⟨h3,_⟩|⟨h3,_⟩|⟨_,_,_,rfl⟩|⟨h3,_⟩<;>(try cases h3)
   cases hx;cases hy;exact⟨(by first|exact kj _ hu _|exact kk _ hu _|exact kl _ hu|exact km _ hu _ _|exact kn _ hu _ _|exact kp _ hu _ _ _ _ _|exact kq _ hu _ _ _ _ _|exact kr _ hu|exact ku _ hu _ _ _|exact kx _ hu _ _ _|exact ky _ hu _|exact kz _ hu _),fun _ _ he _=>(by cases he),fun he=>(by cases he)⟩
  ·rcases qM I with⟨h3,_⟩|⟨h3,_⟩|⟨h3,_⟩|⟨_,_,_,rfl⟩|⟨h3,_⟩<;>(try cases h3)
   rcases ib J with⟨h3,_⟩|⟨h3,_⟩|⟨h3,_⟩|⟨_,rfl⟩|⟨h3,_⟩<;>(try cases h3)
   cases hx;cases hy;exact⟨(by first|exact kj _ hu _|exact kk _ hu _|exact kl _ hu|exact km _ hu _ _|exact kn _ hu _ _|exact kp _ hu _ _ _ _ _|exact kq _ hu _ _ _ _ _|exact kr _ hu|exact ku _ hu _ _ _|exact kx _ hu _ _ _|exact ky _ hu _|exact kz _ hu _),fun _ _ he _=>(by cases he),fun he=>(by cases he)⟩
 |map=>
  rw[hq]at h;simp only[da]at h;obtain⟨e,e2,hu⟩:=acD hq;split at h<;>(try(cases h;done))<;>cases h<;>rename_i I J
  ·rcases ib I with⟨h3,_⟩|⟨h3,_⟩|⟨h3,_⟩|⟨h3,_⟩|⟨_,rfl⟩<;>(try cases h3)
   rcases ib J with⟨h3,_⟩|⟨h3,_⟩|⟨h3,_⟩|⟨h3,_⟩|⟨_,rfl⟩<;>(try cases h3)
   cases hx;cases hy;exact⟨(by first|exact kj _ hu _|exact kk _ hu _|exact kl _ hu|exact km _ hu _ _|exact kn _ hu _ _|exact kp _ hu _ _ _ _ _|exact kq _ hu _ _ _ _ _|exact kr _ hu|exact ku _ hu _ _ _|exact kx _ hu _ _ _|exact ky _ hu _|exact kz _ hu _),fun _ _ he _=>(by cases he),fun he=>(by cases he)⟩
  ·rcases ib I with⟨h3,_⟩|⟨h3,_⟩|⟨h3,_⟩|⟨h3,_⟩|⟨_,rfl⟩<;>(try cases h3)
   rcases qM J with⟨h3,_⟩|⟨h3,_⟩|⟨h3,_⟩|⟨h3,_⟩|⟨_,_,rfl⟩<;>(try cases h3)
   cases hx;cases hy;exact⟨(by first|exact kj _ hu _|exact kk _ hu _|exact kl _ hu|exact km _ hu _ _|exact kn _ hu _ _|exact kp _ hu _ _ _ _ _|exact kq _ hu _ _ _ _ _|exact kr _ hu|exact ku _ hu _ _ _|exact kx _ hu _ _ _|exact ky _ hu _|exact kz _ hu _),fun _ _ he _=>(by cases he),fun he=>(by cases he)⟩
  ·rcases qM I with⟨h3,_⟩|⟨h3,_⟩|⟨h3,_⟩|⟨h3,_⟩|⟨_,_,rfl⟩<;>(try cases h3)
   rcases ib J with⟨h3,_⟩|⟨h3,_⟩|⟨h3,_⟩|⟨h3,_⟩|⟨_,rfl⟩<;>(try cases h3)
   cases hx;cases hy;exact⟨(by first|exact kj _ hu _|exact kk _ hu _|exact kl _ hu|exact km _ hu _ _|exact kn _ hu _ _|exact kp _ hu _ _ _ _ _|exact kq _ hu _ _ _ _ _|exact kr _ hu|exact ku _ hu _ _ _|exact kx _ hu _ _ _|exact ky _ hu _|exact kz _ hu _),fun _ _ he _=>(by cases he),fun he=>(by cases he)⟩
end Go.Ev
