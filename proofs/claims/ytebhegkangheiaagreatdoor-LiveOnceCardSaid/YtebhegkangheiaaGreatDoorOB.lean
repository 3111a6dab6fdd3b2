/- A part of the proof of glacislaw13.LiveOnce. -/
import Derived.Test.YtebhegkangheiaaGreatDoorOA
import Derived.Laws.BytesString
import Derived.Laws.Slices
namespace Go.Ev
variable{C:Cx} {U:AM} {Λ:Pa->Prop} {h:Hp} {ls:List LE} {w:World} {e:T V} {ρ:Operand->Value}
def c8 (P:Program) (I:Oper) (f:T V->Hp->Option V):Prop:=
 ∀(C:Cx) (U:AM) (Λ:Pa->Prop) (h:Hp) (ls:List LE) (w:World) (e:T V) (ρ:Operand->Value) (v:V),C.P=P->aS C U Λ h ls w->gn U e ρ->f e h=some v->
  ∃c,(execOp ρ I).run P w=.ok (.value c) w/\VR U v c
theorem b5 {P:Program} {s:Sem Value} {c:Value} {w w':World} (hs:s.run P w=.ok c w'):
 (do pure (Next.value (<-s)):Sem Next).run P w=.ok (.value c) w':=by simp[hs]
theorem uI {P:Program} {s:Sem Unit} {w w':World} (hs:s.run P w=.ok () w'):
 (do s;pure Next.skip:Sem Next).run P w=.ok .skip w':=by simp[hs]
variable{P:Program} {I:Oper}
theorem xP {x:Operand} (ho:I.op=.move x\/I.op=.assign x):c8 P I fun e _=>some ((cO x).ev e):=by
 intro C U Λ h ls w e ρ v _ _ d hv;dsimp only at hv;simp only[aL]at hv;subst hv;refine⟨ρ x,?_,d x⟩;rcases ho with ho|ho<;>simp only[execOp,ho]<;>rfl
theorem Dz {c a b:Operand} (ho:I.op=.pick c a b):c8 P I fun e _=>match(cO c).ev e with
 |.bool t=>some (bif t then(cO a).ev e else(cO b).ev e)
 |_=>none:=by
 intro C U Λ h ls w e ρ v _ _ j hv;dsimp only at hv;have hc:=j c;revert hv;generalize (cO c).ev e=x at hc;intro hv;cases x<;>simp only at hv<;>(try(cases hv;done))
 rename_i t;simp only[aL]at hv;subst hv;generalize hd:ρ c=d at hc;cases hc;cases t with
 |true=>exact⟨ρ a,by simp[execOp,ho,hd,asBool],j a⟩
 |false=>exact⟨ρ b,by simp[execOp,ho,hd,asBool],j b⟩
theorem DA {t:TypeId} {a:Operand} {n:Option Nat} (ho:I.op=.load t a) (hn:hV P t=some n):
 c8 P I fun e h=>eE h n ((cO a).ev e):=by
 intro C U Λ h ls w e ρ v B s A hv;dsimp only at hv;obtain⟨bV,d,o,aj,j⟩:=xJ (P:=P) s hn (A a) hv;refine⟨d,?_,j⟩;simp only[execOp,ho];exact b5 (by simp only[Instr.loadAt,o,Instr.sureAddr,Sem.run_bind,Sem.run_pure,Result.andThen_ok,aj])
theorem DC {x:Operand} (ho:I.op=.nilCheck x):c8 P I fun e _=>match(cO x).ev e with
 |.ptr a I=>some (.ptr a I)
 |_=>none:=by
 intro C U Λ h ls w e ρ v _ _ j hv;dsimp only at hv;have hc:=j x;revert hv;generalize (cO x).ev e=y at hc;intro hv;cases y<;>simp only at hv<;>(try(cases hv;done))
 simp only[aL]at hv;subst hv;refine⟨ρ x,?_,hc⟩;generalize hd:ρ x=d at hc;cases hc;simp only[execOp,ho,hd];rfl
theorem DD {op:BinOp} {k:IntKind} {a b:Int} {v:V} (hv:uc op k a b=some v) (t:TypeId):
 ∃c,(Go.binOp op t (.int k a) (.int k b)).run P w=.ok c w/\VR U v c:=by
 have hdiv:∀{r:V} {x:Option V},(bif gh b 0 then none else x)=some r->b≠0/\x=some r:=by
  intro r x hx;rw[h3]at hx;by_cases d:b=0
  ·subst d;simp at hx
  ·have:(b==0)=false:=by simpa using d
   rw[this]at hx;exact⟨d,hx⟩
 cases op<;>simp only[uc]at hv<;>(try(cases hv;done))
 case quo=>
  obtain⟨d,hv⟩:=hdiv hv;simp only[aL]at hv;subst hv;exact⟨.int k (k.wrap (a.tdiv b)),by simp[Go.binOp,Op.intDiv,d],by rw[nr];exact .int _ _⟩
 case rem=>
  obtain⟨d,hv⟩:=hdiv hv;simp only[aL]at hv;subst hv;exact⟨.int k (a.tmod b),by simp[Go.binOp,Op.intDiv,d],.int _ _⟩
 all_goals
  simp only[aL]at hv;subst hv;refine⟨_,?_,by first|exact .int _ _|exact .bool _⟩;simp[Go.binOp,Op.intArith,Op.intBits,Op.intCmp,uE,uF,xK,nr,h3,mf,bne]
  try(rw[kp];simp)
theorem xQ {op:BinOp} {left:Bool} (h:op=if left then .shl else .shr) {k k':IntKind} {a b:Int} {v:V} (hv:nc left k a b=some v) (t:TypeId):
 ∃c,(Go.binOp op t (.int k a) (.int k' b)).run P w=.ok c w/\VR U v c:=by
 unfold nc at hv;rw[mf]at hv;by_cases d:b<0
 ·simp[d]at hv
 ·simp only[d,decide_false,bw]at hv;cases left with
  |true=>
   simp at h hv;subst h;subst hv;exact⟨_,by simp[Go.binOp,Op.shift,d],.int _ _⟩
  |false=>
   simp at h hv;subst h;subst hv;exact⟨_,by simp[Go.binOp,Op.shift,d],.int _ _⟩
theorem mh (s:ByteArray):s.data.toList.length=s.size:=Array.length_toList
theorem DE {op:BinOp} {a b:ByteArray} {v:V} (hv:ud op a.data.toList b.data.toList=some v) (t:TypeId):
 ∃c,(Go.binOp op t (.string a) (.string b)).run P w=.ok c w/\VR U v c:=by
 cases op<;>simp only[ud]at hv<;>(try(cases hv;done))
 case add=>
  cases d:Nat.ble (a.data.toList.length+b.data.toList.length) 9223372036854775807 with
  |false=>rw[d]at hv;cases hv
  |true=>
   simp only[d,aE,aL]at hv;subst hv;have j:=eT d;refine⟨.string (a++b),?_,?_⟩
   ·have o:a.size=a.data.toList.length:=(mh a).symm;have aj:b.size=b.data.toList.length:=(mh b).symm;have h:¬(((a.size+b.size:Nat):Int)>IntKind.i64.max):=by
     have:IntKind.i64.max=9223372036854775807:=by decide
     rw[this];omega
    simp only[Go.binOp,Op.stringOp];rw[ab h];(try rfl)
   ·have:=VR.str (U:=U) (a++b)
    rwa [ByteArray.toList_data_append]at this
 all_goals
  simp only[aL]at hv;subst hv;refine⟨_,?_,.bool _⟩;simp[Go.binOp,Op.stringOp,lv,Dp,ByteArray.toList_eq]
def r9:Value->Bool
 |.int _ _=>false
 |.float _ _=>false
 |.complex _ _ _=>false
 |.string _=>false
 |_=>true
theorem DF {t:TypeId} {c d:Value} {r:Bool} (hc:r9 c=true) (hr:(Op.equal t c d).run P w=.ok r w):(Go.binOp .eql t c d).run P w=.ok (.bool r) w:=by
 have:(Go.binOp .eql t c d)=(do pure (.bool (<-Op.equal t c d)):Sem Value):=by
  cases c<;>simp[r9]at hc<;>cases d<;>rfl
 rw[this];simp[hr]
theorem DG {t:TypeId} {c d:Value} {r:Bool} (hc:r9 c=true) (hr:(Op.equal t c d).run P w=.ok r w):(Go.binOp .neq t c d).run P w=.ok (.bool (!r)) w:=by
 have:(Go.binOp .neq t c d)=(do pure (.bool (!(<-Op.equal t c d))):Sem Value):=by
  cases c<;>simp[r9]at hc<;>cases d<;>rfl
 rw[this];simp[hr]
theorem uJ {t:TypeId} {a b:V} {r:Bool} (h:cF (a7 P t) a b=some r):
 (∃k i k' j,a=.int k i/\b=.int k' j/\k=k'/\r=(i==j))\/(∃i j,a=.str i/\b=.str j/\r=(i==j))\/
   ((∀k i,a≠.int k i)/\(∀i,a≠.str i)/\a≠.no .bot):=by
 cases a with
 |int k i=>
  cases hq:a7 P t with
  |flat q=>
   rw[hq]at h;cases q<;>simp only[cF,en]at h<;>(try(cases h;done))
   cases b<;>simp only at h<;>(try(cases h;done))
   rename_i k' j;cases hk:cr k k' with
   |false=>simp[hk]at h
   |true=>
    simp only[hk,aE,aL]at h;exact .inl ⟨k,i,k',j,rfl,rfl,qD hk,by rw[<-h,h3]⟩
  |agg l=>rw[hq]at h;simp[cF]at h
  |_=>rw[hq]at h;simp[cF,isNil]at h
 |str i=>
  cases hq:a7 P t with
  |flat q=>
   rw[hq]at h;cases q<;>simp only[cF,en]at h<;>(try(cases h;done))
   cases b<;>simp only at h<;>(try(cases h;done))
   rename_i j;simp only[aL]at h;exact .inr (.inl ⟨i,j,rfl,rfl,by rw[<-h,lv]⟩)
  |agg l=>rw[hq]at h;simp[cF]at h
  |_=>rw[hq]at h;simp[cF,isNil]at h
 |no k=>
  refine .inr (.inr ⟨by simp,by simp,?_⟩);intro e;cases e;cases hq:a7 P t with
  |flat q=>rw[hq]at h;cases q<;>simp[cF,en]at h
  |agg l=>rw[hq]at h;simp[cF]at h
  |_=>rw[hq]at h;simp[cF,isNil]at h
 |_=>exact .inr (.inr ⟨by simp,by simp,by simp⟩)
theorem DH {op:BinOp} {t:TypeId} {x y:Operand} {a b:V} {c d:Value} {v:V} (hx:VR U a c) (h:VR U b d)
 (hi:a7 P t=.iface->(eo x||eo y)=true) (hv:b0 op (a7 P t) a b=some v):
 ∃r,(do eqGuard op t x y c d;Go.binOp op t c d:Sem Value).run P w=.ok r w/\VR U v r:=by
 have guard:∀{c d:Value} {k:IntKind} {i:Int},c=.int k i->(eqGuard op t x y c d).run P w=.ok () w:=by
  intro c d k i hc;subst hc;exact uH op t x y _ d (fun e=>by cases e) (fun _ _ e=>by cases e)
 have guards:∀{c d:Value} {i:ByteArray},c=.string i->(eqGuard op t x y c d).run P w=.ok () w:=by
  intro c d i hc;subst hc;exact uH op t x y _ d (fun e=>by cases e) (fun _ _ e=>by cases e)
 have D:∀{r:Bool},cF (a7 P t) a b=some r->(eqGuard op t x y c d).run P w=.ok () w/\(Op.equal t c d).run P w=.ok r w:=by
  intro r hr;obtain⟨o,aj,G⟩:=xO (P:=P) (w:=w) hx h hr;exact⟨uH op t x y c d (fun e _=>hi (G e)) (fun u I e e'=>aj u I e e'),o⟩
 have F:∀{v:V},ue op a b=some v->∃r,(do eqGuard op t x y c d;Go.binOp op t c d:Sem Value).run P w=.ok r w/\VR U v r:=by
  intro v hv;unfold ue at hv;cases a with
  |int k i=>cases b with
   |int k' j=>
    simp only at hv;cases hk:cr k k' with
    |false=>simp[hk]at hv
    |true=>
     have:=qD hk;subst this;simp only[hk,aE]at hv;cases hx;cases h;obtain⟨r,o,aj⟩:=DD (P:=P) (w:=w) (U:=U) hv t;exact⟨r,by simp only[Sem.run_bind,guard rfl,Result.andThen_ok,o],aj⟩
   |_=>simp at hv
  |str i=>cases b with
   |str j=>
    simp only at hv;cases hx;cases h;obtain⟨r,o,aj⟩:=DE (P:=P) (w:=w) (U:=U) hv t;exact⟨r,by simp only[Sem.run_bind,guards rfl,Result.andThen_ok,o],aj⟩
   |_=>simp at hv
  |_=>simp at hv
 cases op
 case shl=>
  simp only[b0]at hv;cases a<;>simp only at hv<;>(try(cases hv;done))
  cases b<;>simp only at hv<;>(try(cases hv;done))
  cases hx;cases h;obtain⟨r,o,aj⟩:=xQ (P:=P) (w:=w) (U:=U) (op:=.shl) (left:=true) rfl hv t;exact⟨r,by simp only[Sem.run_bind,guard rfl,Result.andThen_ok];exact o,aj⟩
 case shr=>
  simp only[b0]at hv;cases a<;>simp only at hv<;>(try(cases hv;done))
  cases b<;>simp only at hv<;>(try(cases hv;done))
  cases hx;cases h;obtain⟨r,o,aj⟩:=xQ (P:=P) (w:=w) (U:=U) (op:=.shr) (left:=false) rfl hv t;exact⟨r,by simp only[Sem.run_bind,guard rfl,Result.andThen_ok];exact o,aj⟩
 case eql=>
  simp only[b0]at hv;cases hr:cF (a7 P t) a b with
  |none=>simp[hr]at hv
  |some r=>
   simp[hr]at hv;subst hv;obtain⟨o,aj⟩:=D hr;refine⟨.bool r,?_,.bool r⟩;simp only[Sem.run_bind,o,Result.andThen_ok];rcases uJ hr with⟨k,i,k',j,rfl,rfl,rfl,rfl⟩|⟨i,j,rfl,rfl,rfl⟩|⟨n1,A,B⟩
   ·cases hx;cases h;simp[Go.binOp,Op.intCmp]
   ·cases hx;cases h;simp[Go.binOp,Op.stringOp,ByteArray.toList_eq]
   ·refine DF ?_ aj;cases hx<;>first|rfl|exact absurd rfl (n1 _ _)|exact absurd rfl (A _)|exact absurd rfl B
 case neq=>
  simp only[b0]at hv;cases hr:cF (a7 P t) a b with
  |none=>simp[hr]at hv
  |some r=>
   simp[hr]at hv;subst hv;obtain⟨o,aj⟩:=D hr;refine⟨.bool (!r),?_,.bool (!r)⟩;simp only[Sem.run_bind,o,Result.andThen_ok];rcases uJ hr with⟨k,i,k',j,rfl,rfl,rfl,rfl⟩|⟨i,j,rfl,rfl,rfl⟩|⟨n1,A,B⟩
   ·cases hx;cases h;simp[Go.binOp,Op.intCmp,bne]
   ·cases hx;cases h;simp[Go.binOp,Op.stringOp,ByteArray.toList_eq]
   ·refine DG ?_ aj;cases hx<;>first|rfl|exact absurd rfl (n1 _ _)|exact absurd rfl (A _)|exact absurd rfl B
 all_goals exact F hv
theorem xR {op:BinOp} {t j:TypeId} {x y:Operand} (ho:I.op=.binOp op t x y j) (hi:a7 P t=.iface->(eo x||eo y)=true):
 c8 P I fun e _=>b0 op (a7 P t) ((cO x).ev e) ((cO y).ev e):=by
 intro C U Λ h ls w e ρ v _ _ d hv;dsimp only at hv;obtain⟨r,o,aj⟩:=DH (P:=P) (w:=w) (d x) (d y) hi hv;exact⟨r,by simp only[execOp,ho];exact b5 o,aj⟩
theorem DI {op:UnOp} {t:TypeId} {x:Operand} (ho:I.op=.unOp op t x):c8 P I fun e _=>pg op ((cO x).ev e):=by
 intro C U Λ h ls w e ρ v _ _ d hv;dsimp only at hv;have hx:=d x;revert hv;generalize (cO x).ev e=a at hx;intro hv;have:∃c,(Op.unary op (ρ x)).run P w=.ok c w/\VR U v c:=by
  cases op<;>simp only[pg]at hv<;>(try(cases hv;done))
  all_goals
   cases a<;>simp only at hv<;>(try(cases hv;done))
   simp only[aL]at hv;subst hv;generalize ρ x=c at hx⊢;cases hx;refine⟨_,?_,by first|exact .int _ _|exact .bool _⟩;simp[Op.unary,Op.intArith,Op.intBits,nr,uF]
 obtain⟨c,o,aj⟩:=this;exact⟨c,by simp only[execOp,ho];exact b5 o,aj⟩
theorem DJ {j d:TypeId} {x:Operand} {k k':IntKind} (ho:I.op=.convert j d x) (hs:P.underlying j=some (.int k')) (hd:P.underlying d=some (.int k)):
 c8 P I fun e _=>match(cO x).ev e with
  |.int _ n=>some (.int k (ek k n))
  |_=>none:=by
 intro C U Λ h ls w e ρ v _ _ o hv;dsimp only at hv;have hx:=o x;revert hv;generalize (cO x).ev e=a at hx;intro hv;cases a<;>simp only at hv<;>(try(cases hv;done))
 simp only[aL]at hv;subst hv;generalize hc:ρ x=c at hx;cases hx;exact⟨_,by simp only[execOp,ho,hc];exact b5 (by simp[convert,bk hs,bk hd,Conv.intToInt,nr]),.int _ _⟩
theorem DK {j d:TypeId} {x:Operand} (ho:I.op=.convert j d x) (hs:P.underlying j=some .string) (hd:P.underlying d=some .string):
 c8 P I fun e _=>match(cO x).ev e with
  |.str s=>some (.str s)
  |_=>none:=by
 intro C U Λ h ls w e ρ v _ _ o hv;dsimp only at hv;have hx:=o x;revert hv;generalize (cO x).ev e=a at hx;intro hv;cases a<;>simp only at hv<;>(try(cases hv;done))
 simp only[aL]at hv;subst hv;generalize hc:ρ x=c at hx;cases hx with
 |str s=>exact⟨.string s,by simp only[execOp,ho,hc];exact b5 (by simp[convert,bk hs,bk hd]),.str s⟩
theorem xS:∀{l:List V} {cs:List Value} {h:List UInt8},bd U l cs->bytesOf l=some h->
 ∃j:List Int,cs=j.map (Value.int .u8)/\h=j.map fun n=>UInt8.ofNat n.toNat
 |[],_,h,hl,d=>by
  cases hl;simp[bytesOf]at d;subst d;exact⟨[],rfl,rfl⟩
 |v::l,_,h,.cons _ c _ cs hc hs,d=>by
  cases v<;>simp only[bytesOf]at d<;>(try(cases d;done))
  rename_i k n;cases k<;>simp only at d<;>(try(cases d;done))
  cases hr:bytesOf l with
  |none=>simp[hr]at d
  |some r=>
   simp only[hr,aL]at d;subst d;obtain⟨j,o,aj⟩:=xS hs hr;cases hc;exact⟨n::j,by simp[o],by simp[aj]⟩
theorem DL (d:List Int):∀s:ByteArray,(d.foldl (fun r n=>r.push (UInt8.ofNat n.toNat)) s).data.toList=s.data.toList++d.map fun n=>UInt8.ofNat n.toNat:=by
 induction d with
 |nil=>intro s;simp
 |cons n d h=>intro s;rw[gK,h];simp[ByteArray.push]
theorem DM {B A el:TypeId} {x:Operand} (ho:I.op=.convert B A x) (hs:P.underlying B=some (.slice el)) (he:P.underlying el=some (.int .u8)) (hd:P.underlying A=some .string):
 c8 P I fun e h=>match(cO x).ev e with
  |.sl a I n _=>match h.b1 a I n with
   |some l=>match bytesOf l with|some s=>some (.str s)|none=>none
   |none=>none
  |.no k=>match k with|.sl=>some (.str [])|_=>none
  |_=>none:=by
 intro C U Λ h ls w e ρ v _ s O hv;dsimp only at hv;have hx:=O x;revert hv;generalize (cO x).ev e=a at hx;intro hv;have qE:∀(b:ByteArray) (l:List UInt8),b.data.toList=l->VR U (.str l) (.string b):=fun b l j=>by subst j;exact .str b
 cases a<;>simp only at hv<;>(try(cases hv;done))
 ·rename_i a off n c;cases hl:h.b1 a off n with
  |none=>simp[hl]at hv
  |some l=>
   simp only[hl]at hv;cases j:bytesOf l with
   |none=>simp[j]at hv
   |some R=>
    simp only[j,aL]at hv;subst hv;generalize hc:ρ x=d at hx;cases hx with
    |sl _ _ _ _ L capC ha hn G=>
     obtain⟨cs,S,k2,Q⟩:=s.b1 (P:=P) ha hl;obtain⟨F,o,aj⟩:=xS k2 j;subst o;refine⟨.string (F.foldl (fun r n=>r.push (UInt8.ofNat n.toNat)) ByteArray.empty),?_,qE _ _ ?_⟩
     ·simp only[execOp,ho,hc];exact b5 (by rw[run_convert_bytes_string w B A el _ _ _ hs he hd];exact run_bytesToString w _ n capC F (by simpa using Q))
     ·rw[DL,aj];(try rfl)
    |de _ _ _ bV G=>
     have M:l=[]:=by
      unfold bn.b1 at hl;cases D:h.cells a with
      |none=>simp[D]at hl
      |some m=>simp[D,takeN]at hl;exact hl
     subst M;simp[bytesOf]at j;subst j;refine⟨.string .empty,?_,qE _ _ ?_⟩
     ·simp only[execOp,ho,hc];exact b5 (by rw[run_convert_bytes_string w B A el _ _ _ hs he hd];exact run_bytesToString w bV 0 0 [] (by simp[loadCells,loadCellsFrom]))
     ·rfl
 ·rename_i k;cases k<;>simp only at hv<;>(try(cases hv;done))
  simp only[aL]at hv;subst hv;generalize hc:ρ x=d at hx;cases hx;refine⟨.string .empty,?_,qE _ _ rfl⟩;simp only[execOp,ho,hc];exact b5 (by rw[run_convert_bytes_string w B A el _ _ _ hs he hd];simp[Conv.bytesToString])
theorem DN {t:TypeId} {d:TypeDesc} {x:Operand} (ho:I.op=.makeInterface t x) (hd:P.underlying t=some d) (hn:∀m,d≠.interface m):
 c8 P I fun e _=>some (.iface t ((cO x).ev e)):=by
 intro C U Λ h ls w e ρ v _ _ j hv;dsimp only at hv;simp only[aL]at hv;subst hv;refine⟨.iface t (ρ x),?_,.iface _ _ _ (j x)⟩;simp only[execOp,ho];refine b5 ?_;simp only[Instr.makeInterface,Sem.run_bind,bk hd,Result.andThen_ok];cases d<;>first|rfl|exact absurd rfl (hn _)
theorem DO {f:FuncId} {first a2:Array Operand} (ho:I.op=.makeFunc (.func f) first a2) (d:first.size=0):
 c8 P I fun e _=>some (.fn f (di e (a2.toList.map cO))):=by
 intro C U Λ h ls w e ρ v _ _ j hv;dsimp only at hv;simp only[aL]at hv;subst hv;have:first=#[]:=Array.eq_empty_of_size_eq_zero d
 subst this;refine⟨.func (.func f) #[] (a2.map ρ),?_,?_⟩
 ·simp only[execOp,ho];exact b5 (by simp[Instr.makeFunc])
 ·have:=j.list a2.toList;have aj:=VR.fn f _ _ this;have e:a2.map ρ=⟨a2.toList.map ρ⟩:=by rw[<-qg]
  rw[e];exact aj
end Go.Ev
namespace Go.Ev
variable{C:Cx} {U:AM} {Λ:Pa->Prop} {h:Hp} {ls:List LE} {w:World} {e:T V} {ρ:Operand->Value}
variable{P:Program} {I:Oper}
theorem uK {d y:Nat} {x:Option V} {c:Option Value} {n:Nat} (hx:∀v,x=some v->∃u,c=some u/\VR U v u) (hn:x=none->c=none)
 (hs:dw d y x=some n) (code:BoundsCode):
 (match c with|some v=>Instr.sliceBound v y code|none=>(pure d:Sem Nat)).run P w=.ok n w/\(x≠none->n<=y)/\(x=none->n=d):=by
 cases x with
 |none=>
  simp[dw]at hs;subst hs;rw[hn rfl];exact⟨rfl,fun e=>absurd rfl e,fun _=>rfl⟩
 |some v=>
  obtain⟨u,hu,j⟩:=hx v rfl;cases v<;>simp only[dw]at hs<;>(try(cases hs;done))
  rename_i k i;cases i<;>simp only at hs<;>(try(cases hs;done))
  rename_i i;cases h:Nat.ble i y with
  |false=>simp[h]at hs
  |true=>
   simp only[h,aE,aL]at hs;subst hs;cases j;rw[hu];have:=eT h;refine⟨?_,fun _=>this,fun e=>by cases e⟩;have:=run_sliceBound (P:=P) w k (Int.ofNat i) y code (by simp) (by simpa using this);simpa using this
theorem DP (n:Nat):Nat.blt n n=false:=by
 unfold Nat.blt;cases h:Nat.ble n.succ n with
 |false=>rfl
 |true=>exact absurd (eT h) (Nat.not_succ_le_self n)
theorem xT {d d' y o:Nat} {v:V} {n:Nat} (h:dw d y (some v)=some n) (A:y<=o):dw d' o (some v)=some n:=by
 cases v with
 |int k i=>
  cases i with
  |ofNat i=>
   simp only[dw]at h⊢;cases j:Nat.ble i y with
   |false=>simp[j]at h
   |true=>
    have:Nat.ble i o=true:=hA (fL (eT j) A);simp only[j,aE]at h;simp only[this,aE,h]
  |negSucc i=>simp[dw]at h
 |_=>simp[dw]at h
theorem uL {d y j:Nat} {x:Option V} {n:Nat} (h:dw d y x=some n) (o:y<=j):dw d j x=some n:=by
 cases x with
 |none=>exact h
 |some v=>exact xT h o
theorem uM (d:gn U e ρ) {x:Option Operand} {v:V} (h:aZ e (x.map cO)=some v):∃u,x.map ρ=some u/\VR U v u:=by
 cases x with
 |none=>simp[aZ]at h
 |some x=>simp[aZ]at h;subst h;exact⟨ρ x,rfl,d x⟩
theorem uN {x:Option Operand} (h:aZ e (x.map cO)=none):x.map ρ=none:=by
 cases x with
 |none=>rfl
 |some x=>simp[aZ]at h
theorem jz (I:gn U e ρ) {n c:Nat} {lo hi mx:Option Operand} {l F m:Nat} (ax:Bool) (hn:n<=c)
 (hs:dN n c (aZ e (lo.map cO)) (aZ e (hi.map cO)) (aZ e (mx.map cO))=some (l,F,m)) (L:mx.isSome=true->hi.isSome=true):
 (Instr.sliceBounds ax n c (lo.map ρ) (hi.map ρ) (mx.map ρ)).run P w=.ok (l,F,m) w/\l<=F/\F<=m/\m<=c/\(mx=none->m=c):=by
 unfold dN at hs;cases o:dw c c (aZ e (mx.map cO))with
 |none=>simp[o]at hs
 |some m'=>
  simp only[o]at hs;cases aj:dw n m' (aZ e (hi.map cO))with
  |none=>simp[aj]at hs
  |some h'=>
   simp only[aj]at hs;cases G:dw 0 h' (aZ e (lo.map cO))with
   |none=>simp[G]at hs
   |some l'=>
    simp only[G,aL,dH]at hs;obtain⟨rfl,rfl,rfl⟩:=hs;have A:=fun code=>uK (P:=P) (w:=w) (c:=mx.map ρ) (fun v hv=>uM I hv) (fun hv=>uN hv) o code;have D:=fun code=>uK (P:=P) (w:=w) (c:=hi.map ρ) (fun v hv=>uM I hv) (fun hv=>uN hv) aj code;have B:=fun code=>uK (P:=P) (w:=w) (c:=lo.map ρ) (fun v hv=>uM I hv) (fun hv=>uN hv) G code;have M:m'<=c:=by
     by_cases hm:aZ e (mx.map cO)=none
     ·rw[(A .index).2.2 hm];exact aB _
     ·exact(A .index).2.1 hm
    have O:h'<=m':=by
     by_cases hm:aZ e (hi.map cO)=none
     ·rw[(D .index).2.2 hm];have:mx=none:=by
       cases mx with
       |none=>rfl
       |some y=>
        have:=L rfl;cases hi with
        |none=>cases this
        |some z=>simp[aZ]at hm
      subst this;rw[(A .index).2.2 rfl];exact hn
     ·exact(D .index).2.1 hm
    have Q:l'<=h':=by
     by_cases hm:aZ e (lo.map cO)=none
     ·rw[(B .index).2.2 hm];exact cS _
     ·exact(B .index).2.1 hm
    refine⟨?_,Q,O,M,fun hm=>by subst hm;exact(A .index).2.2 rfl⟩;unfold Instr.sliceBounds;cases mx with
    |none=>
     have R:=(A .index).1;cases hi with
     |none=>
      cases lo with
      |none=>
       have j:=(A .index).1;have h:=(D .index).1;have d:=(B .index).1;simp at j h d;subst j;subst h;subst d;rfl
      |some lo=>
       have j:=(A .index).1;have h:=(D .index).1;simp at j h;subst j;subst h;have d:=(B .sliceB).1;simp only[dM]at d;simp[d]
     |some hi=>
      have j:=(A .index).1;simp at j;subst j;have h:=(D (if ax then .sliceAcap else .sliceAlen)).1;simp only[dM]at h;cases lo with
      |none=>
       have d:=(B .index).1;simp at d;subst d;simp[h]
      |some lo=>
       have d:=(B .sliceB).1;simp only[dM]at d;simp[h,d]
    |some mx=>
     have j:=(A (if ax then .slice3Acap else .slice3Alen)).1;simp only[dM]at j;cases hi with
     |none=>exact absurd (L rfl) (by simp)
     |some hi=>
      have h:=(D .slice3B).1;simp only[dM]at h;cases lo with
      |none=>
       have d:=(B .index).1;simp at d;subst d;simp[j,h]
      |some lo=>
       have d:=(B .slice3C).1;simp only[dM]at d;simp[j,h,d]
theorem sa (b I n:Nat):(some (Addr.mk b I none)).map (·.add n)=some ⟨b,I+n,none⟩:=by simp[lu]
theorem xU {L:Loc} {I cc s n d:Nat} (h:L.base+I+cc*s=L.top/\(s=1\/L.dm=false)) (hd:n+d=cc):L.base+(I+n*s)+d*s=L.top/\(s=1\/L.dm=false):=by
 subst hd;refine⟨?_,h.2⟩
 replace h:=h.1
 rw[iH]at h;omega
theorem DQ {t el:TypeId} {i:TypeInfo} {x:Operand} {lo hi mx:Option Operand} (ho:I.op=.slice t x lo hi mx) (ht:P.underlying t=some (.slice el)) (ag:P.info? el=some i)
 (R:mx.isSome=true->hi.isSome=true):
 c8 P I fun e _=>dx i.size ((cO x).ev e) (aZ e (lo.map cO)) (aZ e (hi.map cO)) (aZ e (mx.map cO)):=by
 intro C U Λ h ls w e ρ v _ _ F hv;dsimp only at hv;have hx:=F x;revert hv;generalize (cO x).ev e=a at hx;intro hv;suffices hs:∃c,(Instr.slice t (ρ x) (lo.map ρ) (hi.map ρ) (mx.map ρ)).run P w=.ok c w/\VR U v c by
  obtain⟨c,o,aj⟩:=hs;refine⟨c,?_,aj⟩;simp only[execOp,ho];refine b5 ?_;simp only[Instr.sliceAt,Sem.run_bind,bk ht,Result.andThen_ok,o]
 have run:∀{bV:Option Addr} {n c l A m:Nat},ρ x=.slice bV n c->(Instr.sliceBounds true n c (lo.map ρ) (hi.map ρ) (mx.map ρ)).run P w=.ok (l,A,m) w->
  (Instr.slice t (ρ x) (lo.map ρ) (hi.map ρ) (mx.map ρ)).run P w=.ok (.slice (if m=l then bV else bV.map (·.add (l*i.size))) (A-l) (m-l)) w:=by
  intro bV n c l A m ak j;simp only[Instr.slice,ak,Sem.run_bind,bk ht,Result.andThen_ok,j,fv ag,Sem.run_pure]
 cases a<;>simp only[dx]at hv<;>(try(cases hv;done))
 ·rename_i a off n c;cases c with
  |ex c=>
   simp only at hv;cases j:dN n c (aZ e (lo.map cO)) (aZ e (hi.map cO)) (aZ e (mx.map cO))with
   |none=>simp[j]at hv
   |some p=>
    obtain⟨l,A,m⟩:=p;simp only[j,aL]at hv;subst hv;generalize hc:ρ x=d at hx;cases hx with
    |sl _ _ _ _ L capC ha hn B=>
     simp only[iN]at B;subst B;obtain⟨D,G,M,O,Q⟩:=jz (P:=P) (w:=w) F true hn j R;refine⟨_,hc▸run hc D,?_⟩;by_cases hm:m=l
     ·subst hm;simp only[if_true,iG,qm,aE];have:A-m=0:=by omega
      rw[this];exact .de _ _ _ _ (.inl rfl)
     ·have S:Nat.beq m l=false:=by rw[l2];intro Z;exact hm (dG Z)
      simp only[hm,if_false,S,bw,sa];have:=VR.sl (U:=U) a (off+l*i.size) (A-l) (.ex (m-l)) L (m-l) ha (by omega) rfl;simpa[gg]using this
    |de _ _ _ bV B=>
     have ae:c=0:=r4 B;subst ae;obtain⟨D,G,M,O,Q⟩:=jz (P:=P) (w:=w) F true (aB 0) j R;refine⟨_,hc▸run hc D,?_⟩;have:m=0:=by omega
     subst this;have:A=0:=by omega
     subst this;have:l=0:=by omega
     subst this;exact .de _ _ _ _ (.inl rfl)
  |un s=>
   simp only at hv;cases Y:Nat.beq s i.size with
   |false=>simp[Y]at hv
   |true=>
    have ai:=dG Y;subst ai;simp only[Y,aE]at hv;cases j:dN n n (aZ e (lo.map cO)) (aZ e (hi.map cO)) (aZ e (mx.map cO))with
    |none=>simp[j]at hv
    |some p=>
     obtain⟨l,A,m⟩:=p;simp only[j]at hv;generalize hc:ρ x=d at hx;cases mx with
     |none=>
      simp only[aZ,o9,aL]at hv;subst hv;cases hx with
      |sl _ _ _ _ L capC ha hn B=>
       simp only[iN]at B;have W:dN n capC (aZ e (lo.map cO)) (aZ e (hi.map cO)) (aZ e ((none:Option Operand).map cO))=some (l,A,capC):=by
        unfold dN at j⊢;have q:aZ e ((none:Option Operand).map cO)=none:=rfl;have al:∀d y,dw d y none=some d:=fun _ _=>rfl;simp only[q,al]at j⊢;revert j;cases aj:dw n n (aZ e (hi.map cO))with
        |none=>intro j;simp at j
        |some h'=>
         have ac:dw n capC (aZ e (hi.map cO))=some h':=uL aj hn;intro j;simp only[ac];simp only at j;revert j;cases dw 0 h' (aZ e (lo.map cO))with
         |none=>intro j;simp at j
         |some l'=>intro j;simp at j;simp[j]
       obtain⟨D,G,M,O,Q⟩:=jz (P:=P) (w:=w) F true hn W (by intro A;cases A);have an:A<=n:=by
        obtain⟨_,_,Pm,O9,_⟩:=jz (P:=P) (w:=w) F true (aB n) j (by intro A;cases A);omega
       refine⟨_,hc▸run hc D,?_⟩;by_cases hm:capC=l
       ·subst hm;simp only[if_true,iG];have:A-capC=0:=by omega
        rw[this];exact .de _ _ _ _ (.inr ⟨_,L,rfl,ha,by omega⟩)
       ·simp only[hm,if_false,sa];have:=VR.sl (U:=U) a (off+l*i.size) (A-l) (.un i.size) L (capC-l) ha (by omega) (xU B (by omega));simpa[gg]using this
      |de _ _ _ bV B=>
       obtain⟨D,G,M,O,Q⟩:=jz (P:=P) (w:=w) F true (aB 0) j (by intro A;cases A);refine⟨_,hc▸run hc D,?_⟩;have:m=0:=by omega
       subst this;have:A=0:=by omega
       subst this;have:l=0:=by omega
       subst this;rcases B with B|⟨s',L,o,aj,am⟩
       ·cases B
       ·exact .de _ _ _ _ (.inr ⟨_,L,rfl,aj,by omega⟩)
     |some mx=>
      simp only[aZ,dM]at hv;cases hx with
      |sl _ _ _ _ L capC ha hn B=>
       simp only[iN]at B;have W:dN n capC (aZ e (lo.map cO)) (aZ e (hi.map cO)) (aZ e ((some mx).map cO))=some (l,A,m):=by
        unfold dN at j⊢;revert j;cases o:dw n n (aZ e ((some mx).map cO))with
        |none=>intro j;simp at j
        |some m'=>
         have ab:dw capC capC (aZ e ((some mx).map cO))=some m':=xT o hn;intro j;simp only[ab];exact j
       obtain⟨D,G,M,O,Q⟩:=jz (P:=P) (w:=w) F true hn W R;have ao:m<=n:=(jz (P:=P) (w:=w) F true (aB n) j R).2.2.2.1;refine⟨_,hc▸run hc D,?_⟩;by_cases hm:m=l
       ·subst hm;have S:Nat.blt m m=false:=DP m;simp only[S,bw,aL]at hv;subst hv;simp only[if_true,iG];have:A-m=0:=by omega
        rw[this];exact .de _ _ _ _ (.inl rfl)
       ·have ah:Nat.blt l m=true:=by simpa using(by omega:l<m)
        simp only[ah,aE,aL]at hv;subst hv;simp only[hm,if_false,sa];have:=VR.sl (U:=U) a (off+l*i.size) (A-l) (.ex (m-l)) L (m-l) ha (by omega) rfl;simpa[gg]using this
      |de _ _ _ bV B=>
       obtain⟨D,G,M,O,Q⟩:=jz (P:=P) (w:=w) F true (aB 0) j R;refine⟨_,hc▸run hc D,?_⟩;have:m=0:=by omega
       subst this;have:A=0:=by omega
       subst this;have:l=0:=by omega
       subst this;have S:Nat.blt 0 0=false:=rfl;simp only[S,bw,aL]at hv;subst hv;exact .de _ _ _ _ (.inl rfl)
 ·rename_i k;cases k<;>simp only at hv<;>(try(cases hv;done))
  cases j:dN 0 0 (aZ e (lo.map cO)) (aZ e (hi.map cO)) (aZ e (mx.map cO))with
  |none=>simp[j]at hv
  |some p=>
   obtain⟨l,A,m⟩:=p;simp only[j,aL]at hv;subst hv;generalize hc:ρ x=d at hx;cases hx;obtain⟨D,G,M,O,Q⟩:=jz (P:=P) (w:=w) F true (aB 0) j R;refine⟨_,hc▸run hc D,?_⟩;have:m=0:=by omega
   subst this;have:A=0:=by omega
   subst this;have:l=0:=by omega
   subst this;exact .pv
theorem qE {b:ByteArray} {l:List UInt8} (d:b.data.toList=l):VR U (.str l) (.string b):=by subst d;exact .str b
theorem sb (s:ByteArray) (l h:Nat):(s.extract l h).data.toList=(s.data.toList.drop l).take (h-l):=by
 obtain⟨⟨s⟩⟩:=s;have:=ByteArray.extract_mk s l h;exact congrArg (fun b:ByteArray=>b.data.toList) this
theorem DR {t:TypeId} {x:Operand} {lo hi:Option Operand} (ho:I.op=.slice t x lo hi none) (ht:P.underlying t=some .string):
 c8 P I fun e _=>gO ((cO x).ev e) (aZ e (lo.map cO)) (aZ e (hi.map cO)):=by
 intro C U Λ h ls w e ρ v _ _ D hv;dsimp only at hv;have hx:=D x;revert hv;generalize (cO x).ev e=a at hx;intro hv;cases a<;>simp only[gO]at hv<;>(try(cases hv;done))
 rename_i s;generalize hc:ρ x=d at hx;cases hx with
 |str s=>
  cases j:dN s.data.toList.length s.data.toList.length (aZ e (lo.map cO)) (aZ e (hi.map cO)) none with
  |none=>rw[j]at hv;cases hv
  |some p=>
   obtain⟨l,o,m⟩:=p;simp only[j,lq]at hv;cases A:takeN (o-l) (s.data.toList.drop l)with
   |none=>simp[A]at hv
   |some r=>
    simp only[A,aL]at hv;subst hv;obtain⟨_,hr⟩:=od A;rw[mh]at j;obtain⟨B,_⟩:=jz (P:=P) (w:=w) D (mx:=none) false (aB s.size) j (by intro o;cases o);refine⟨.string (s.extract l o),?_,qE (by rw[sb,hr])⟩;simp only[execOp,ho,hc];refine b5 ?_;simp only[o9]at B;simp only[Instr.sliceAt,Sem.run_bind,bk ht,Result.andThen_ok,Instr.slice,o9,Option.isSome_none,l1,if_false,B,Sem.run_pure]
theorem DS {t el:TypeId} {i:TypeInfo} {x:Operand} {lo hi:Option Operand} {n:Nat} (ho:I.op=.slice t x lo hi none) (ht:P.underlying t=some (.array n el)) (G:P.info? el=some i):
 c8 P I fun e _=>uf n i.size ((cO x).ev e) (aZ e (lo.map cO)) (aZ e (hi.map cO)):=by
 intro C U Λ h ls w e ρ v _ _ B hv;dsimp only at hv;have hx:=B x;revert hv;generalize (cO x).ev e=a at hx;intro hv;cases a<;>simp only[uf]at hv<;>(try(cases hv;done))
 rename_i a off;generalize hc:ρ x=d at hx;cases hx with
 |ptr _ _ L ha=>
  cases o:dN n n (aZ e (lo.map cO)) (aZ e (hi.map cO)) none with
  |none=>simp[o]at hv
  |some p=>
   obtain⟨l,j,m⟩:=p;simp only[o,aL]at hv;subst hv;obtain⟨A,M,O,Q,R⟩:=jz (P:=P) (w:=w) B (mx:=none) false (aB n) o (by intro j;cases j);simp only[o9]at A;refine⟨.slice (some (if m=l then⟨L.aw,L.base+off,none⟩else(Addr.mk L.aw (L.base+off) none).add (l*i.size))) (j-l) (m-l),?_,?_⟩
   ·simp only[execOp,ho,hc];refine b5 ?_;simp only[Instr.sliceAt,Sem.run_bind,bk ht,Result.andThen_ok,Instr.sureAddr,o9,A,fv G,Sem.run_pure]
   ·by_cases hm:m=l
    ·subst hm;simp only[if_true,iG,qm,aE];have:j-m=0:=by omega
     rw[this];exact .de _ _ _ _ (.inl rfl)
    ·have F:Nat.beq m l=false:=by rw[l2];intro D;exact hm (dG D)
     simp only[hm,if_false,F,bw,lu];have:=VR.sl (U:=U) a (off+l*i.size) (j-l) (.ex (m-l)) L (m-l) ha (by omega) rfl;simpa[gg]using this
theorem DT {t el:TypeId} {i:TypeInfo} {x:Operand} {lo hi:Option Operand} (ho:I.op=.slice t x lo hi none) (ht:P.underlying t=some (.slice el)) (ah:P.info? el=some i):
 c8 P I fun e h=>nd h i.size ((cO x).ev e) (aZ e (lo.map cO)) (aZ e (hi.map cO)):=by
 intro C U Λ h ls w e ρ v _ S M hv;dsimp only at hv;have hx:=M x;revert hv;generalize (cO x).ev e=a at hx;intro hv;suffices hs:∃c,(Instr.slice t (ρ x) (lo.map ρ) (hi.map ρ) ((none:Option Operand).map ρ)).run P w=.ok c w/\VR U v c by
  obtain⟨c,o,aj⟩:=hs;refine⟨c,?_,aj⟩;simp only[execOp,ho];refine b5 ?_;simp only[Instr.sliceAt,Sem.run_bind,bk ht,Result.andThen_ok,o]
 have run:∀{bV:Option Addr} {n c l A m:Nat},ρ x=.slice bV n c->(Instr.sliceBounds true n c (lo.map ρ) (hi.map ρ) ((none:Option Operand).map ρ)).run P w=.ok (l,A,m) w->
  (Instr.slice t (ρ x) (lo.map ρ) (hi.map ρ) ((none:Option Operand).map ρ)).run P w=.ok (.slice (if m=l then bV else bV.map (·.add (l*i.size))) (A-l) (m-l)) w:=by
  intro bV n c l A m ak j;simp only[Instr.slice,ak,Sem.run_bind,bk ht,Result.andThen_ok,j,fv ah,Sem.run_pure]
 cases a<;>simp only[nd]at hv<;>(try(cases hv;done))
 rename_i a off n c;cases c with
 |ex c=>simp at hv
 |un s=>
  simp only at hv;cases G:Nat.beq s i.size with
  |false=>simp[G]at hv
  |true=>
   have ai:=dG G;subst ai;simp only[G,aE]at hv;generalize hN:k9 h i.size a off=N at hv;cases F:Nat.ble n N with
   |false=>simp[F]at hv
   |true=>
    simp only[F,aE]at hv;have ar:=eT F;cases j:dN n N (aZ e (lo.map cO)) (aZ e (hi.map cO)) none with
    |none=>simp[j]at hv
    |some p=>
     obtain⟨l,A,m⟩:=p;simp only[j,aL]at hv;subst hv;have cap:∀{L:Loc} {capC:Nat},U a=some L->L.base+off+capC*i.size=L.top->N<=capC:=by
      intro L capC ha B;rw[<-hN];unfold k9;cases Q:h.get a with
      |none=>exact cS _
      |some b=>
       cases b with
       |cells R d=>
        cases d with
        |true=>exact cS _
        |false=>
         have al:Λ a:=by
          rcases S.live a L _ ha Q with o|⟨m,o⟩
          ·exact o
          ·cases o
         obtain⟨b',o,aj⟩:=S.aw a L ha al;rw[Q]at o;cases o;obtain⟨cs,ao,fr,au,k2,av,⟨ay,az⟩,_⟩:=aj;show(R.length-off)/i.size<=capC;rcases Nat.eq_zero_or_pos i.size with hz|hz
         ·rw[hz];simp
         ·have am:R.length-off<=capC*i.size:=by omega
          exact Nat.div_le_of_le_mul (by rw[Nat.mul_comm];exact am)
       |ro _=>exact cS _
       |map _ _=>exact cS _
       |loop _=>exact cS _
       |c4 _=>exact cS _
     generalize hc:ρ x=d at hx;cases hx with
     |sl _ _ _ _ L capC ha hn B=>
      simp only[iN]at B;have ae:=cap ha B.1;have ag:dN n capC (aZ e (lo.map cO)) (aZ e (hi.map cO)) (aZ e ((none:Option Operand).map cO))=some (l,A,capC):=by
       unfold dN at j⊢;have q:aZ e ((none:Option Operand).map cO)=none:=rfl;have an:∀d y,dw d y none=some d:=fun _ _=>rfl;simp only[q,an]at j⊢;revert j;cases aj:dw n N (aZ e (hi.map cO))with
       |none=>intro j;simp at j
       |some h'=>
        have ac:dw n capC (aZ e (hi.map cO))=some h':=uL aj ae;intro j;simp only[ac];simp only at j;revert j;cases dw 0 h' (aZ e (lo.map cO))with
        |none=>intro j;simp at j
        |some l'=>intro j;simp at j;simp[j]
      obtain⟨D,W,Y,Z,ab⟩:=jz (P:=P) (w:=w) M true hn ag (by intro A;cases A);refine⟨_,hc▸run hc D,?_⟩;by_cases hm:capC=l
      ·subst hm;simp only[if_true,iG];have:A-capC=0:=by omega
       rw[this];exact .de _ _ _ _ (.inr ⟨_,L,rfl,ha,by omega⟩)
      ·simp only[hm,if_false,sa];have:=VR.sl (U:=U) a (off+l*i.size) (A-l) (.un i.size) L (capC-l) ha (by omega) (xU B (by omega));simpa[gg]using this
     |de _ _ _ bV B=>
      rcases B with B|⟨s',L,o,aj,ap⟩
      ·cases B
      ·have O:N<=0:=cap aj (capC:=0) (by omega);have O:N=0:=by omega
       rw[O]at j;obtain⟨D,W,Y,Z,ab⟩:=jz (P:=P) (w:=w) (mx:=none) M true (aB 0) j (by intro A;cases A);refine⟨_,hc▸run hc D,?_⟩;have:m=0:=by omega
       subst this;have:A=0:=by omega
       subst this;have:l=0:=by omega
       subst this;exact .de _ _ _ _ (.inr ⟨_,L,rfl,aj,by omega⟩)
theorem DU {t el:TypeId} {i:TypeInfo} {x:Operand} {lo hi mx:Option Operand} (ho:I.op=.slice t x lo hi mx) (ht:P.underlying t=some (.slice el)) (j:P.info? el=some i)
 (D:mx.isSome=true->hi.isSome=true):
 c8 P I fun e h=>l9 h i.size ((cO x).ev e) (aZ e (lo.map cO)) (aZ e (hi.map cO)) (aZ e (mx.map cO))
  (dx i.size ((cO x).ev e) (aZ e (lo.map cO)) (aZ e (hi.map cO)) (aZ e (mx.map cO))):=by
 intro C U Λ h ls w e ρ v d B A hv;dsimp only at hv;have o:=DQ ho ht j D C U Λ h ls w e ρ v d B A;revert hv;cases F:dx i.size ((cO x).ev e) (aZ e (lo.map cO)) (aZ e (hi.map cO)) (aZ e (mx.map cO))with
 |some u=>
  intro hv;have:u=v:=by cases hq:aZ e (mx.map cO)<;>simpa[hq,l9]using hv
  subst this;exact o F
 |none=>
  intro hv;cases mx with
  |some m=>simp[aZ,l9]at hv
  |none=>exact DT ho ht j C U Λ h ls w e ρ v d B A (by simpa[aZ,l9]using hv)
end Go.Ev
namespace Go.Ev
variable{C:Cx} {U:AM} {Λ:Pa->Prop} {h:Hp} {ls:List LE} {w:World} {e:T V} {ρ:Operand->Value}
variable{P:Program} {I:Oper}
theorem DV {t:TypeId} {fs:Array Field} {x:Operand} {k n:Nat} {g:Field} (ho:I.op=.fieldAddr t x k) (ht:P.underlying t=some (.struct fs)) (j:fs[k]? =some g)
 (hn:fb P g.type=some (n+1)):
 c8 P I fun e _=>match(cO x).ev e with
  |.ptr a I=>some (.ptr a (I+g.offset))
  |_=>none:=by
 intro C U Λ h ls w e ρ v _ _ A hv;dsimp only at hv;have hx:=A x;revert hv;generalize (cO x).ev e=a at hx;intro hv;cases a<;>simp only at hv<;>(try(cases hv;done))
 rename_i a off;simp only[aL]at hv;subst hv;generalize hc:ρ x=d at hx;obtain⟨i,hi,B⟩:=lr hn;cases hx with
 |ptr _ _ L ha=>
  refine⟨.pointer (some ⟨L.aw,L.base+(off+g.offset),none⟩),?_,.ptr _ _ _ ha⟩;simp only[execOp,ho,hc];refine b5 ?_;have o:i.size≠0:=by omega
  simp[Instr.fieldAt,bk ht,j,Instr.sureAddr,fieldPlace,fv hi,o,lu,gg]
theorem xV {t:TypeId} {n:Option Nat} (hn:hV P t=some n) {l:List V} {cs:List Value} (hl:bd U l cs) {off:Nat} {v:V} (hv:part n l off=some v):
 ∃c,(Go.part t cs.toArray off).run P w=.ok c w/\VR U v c:=by
 cases n with
 |none=>
  simp only[part,lp]at hv;obtain⟨i,hi,d⟩:=xG hn;obtain⟨c,o,aj⟩:=hl.get hv;exact⟨c,r8 (d w) (by simpa using o),aj⟩
 |some n=>
  obtain⟨i,hi,j,d⟩:=xH hn;simp only[part,lq]at hv;cases h:takeN n (l.drop off)with
  |none=>simp[h]at hv
  |some r=>
   simp only[h,aL]at hv;subst hv;obtain⟨_,hr⟩:=od h;refine⟨.agg ((cs.drop off).take n).toArray,?_,?_⟩
   ·simp[Go.part,d w,fv hi,j,List.take_drop]
   ·rw[hr];exact .agg _ _ ((hl.drop off).take n)
theorem DW {t:TypeId} {fs:Array Field} {x:Operand} {k:Nat} {n:Option Nat} {g:Field} (ho:I.op=.field t x k) (ht:P.underlying t=some (.struct fs)) (j:fs[k]? =some g)
 (hn:hV P g.type=some n):
 c8 P I fun e _=>match(cO x).ev e with
  |.agg l=>part n l g.offset
  |_=>none:=by
 intro C U Λ h ls w e ρ v _ _ A hv;dsimp only at hv;have hx:=A x;revert hv;generalize (cO x).ev e=a at hx;intro hv;cases a<;>simp only at hv<;>(try(cases hv;done))
 generalize hc:ρ x=d at hx;cases hx with
 |agg l cs hl=>
  obtain⟨c,o,aj⟩:=xV (P:=P) (w:=w) hn hl hv;refine⟨c,?_,aj⟩;simp only[execOp,ho,hc];refine b5 ?_;simp only[Instr.field,Sem.run_bind,bk ht,Result.andThen_ok,j,asAgg,Sem.run_pure];exact o
theorem se {a:V} {c:Value} {k:IntKind} {j:Nat} (h:VR U a c) (ha:a=.int k (.ofNat j)):c=.int k (.ofNat j):=by
 subst ha;cases h;rfl
theorem DX {t el:TypeId} {i:TypeInfo} {x o:Operand} (ho:I.op=.indexAddr t x o) (ht:P.underlying t=some (.slice el)) (hi:P.info? el=some i):
 c8 P I fun e _=>match(cO o).ev e with
  |.int _ j=>match j with
   |.ofNat j=>match(cO x).ev e with
    |.sl a I n _=>bif Nat.blt j n then some (.ptr a (I+j*i.size))else none
    |_=>none
   |.negSucc _=>none
  |_=>none:=by
 intro C U Λ h ls w e ρ v _ _ D hv;dsimp only at hv;have hx:=D x;have hj:=D o;revert hv;generalize (cO x).ev e=a at hx;generalize (cO o).ev e=b at hj;intro hv;cases b<;>simp only at hv<;>(try(cases hv;done))
 rename_i k j;cases j<;>simp only at hv<;>(try(cases hv;done))
 rename_i j;cases a<;>simp only at hv<;>(try(cases hv;done))
 rename_i a off n c;cases A:Nat.blt j n with
 |false=>simp[A]at hv
 |true=>
  simp only[A,aE,aL]at hv;subst hv;have B:j<n:=by simpa using A
  generalize hc:ρ x=d at hx;have F:=se hj rfl;cases hx with
  |sl _ _ _ _ L capC ha hn G=>
   refine⟨.pointer (some ⟨L.aw,L.base+(off+j*i.size),none⟩),?_,.ptr _ _ _ ha⟩;simp only[execOp,ho,hc,F];refine b5 ?_;simp[Instr.indexAt,asIntOf,bk ht,B,fv hi,lu,gg]
  |de=>exact absurd B (qj _)
theorem DY {t el:TypeId} {i:TypeInfo} {x o:Operand} {n:Nat} (ho:I.op=.indexAddr t x o) (ht:P.underlying t=some (.array n el)) (hi:P.info? el=some i):
 c8 P I fun e _=>match(cO o).ev e with
  |.int _ j=>match j with
   |.ofNat j=>match(cO x).ev e with
    |.ptr a I=>bif Nat.blt j n then some (.ptr a (I+j*i.size))else none
    |_=>none
   |.negSucc _=>none
  |_=>none:=by
 intro C U Λ h ls w e ρ v _ _ B hv;dsimp only at hv;have hx:=B x;have hj:=B o;revert hv;generalize (cO x).ev e=a at hx;generalize (cO o).ev e=b at hj;intro hv;cases b<;>simp only at hv<;>(try(cases hv;done))
 rename_i k j;cases j<;>simp only at hv<;>(try(cases hv;done))
 rename_i j;cases a<;>simp only at hv<;>(try(cases hv;done))
 rename_i a off;cases A:Nat.blt j n with
 |false=>simp[A]at hv
 |true=>
  simp only[A,aE,aL]at hv;subst hv;have F:j<n:=by simpa using A
  generalize hc:ρ x=d at hx;have D:=se hj rfl;cases hx with
  |ptr _ _ L ha=>
   refine⟨.pointer (some ⟨L.aw,L.base+(off+j*i.size),none⟩),?_,.ptr _ _ _ ha⟩;simp only[execOp,ho,hc,D];refine b5 ?_;simp[Instr.indexAt,asIntOf,bk ht,F,Instr.sureAddr,fv hi,lu,gg]
theorem DZ {t:TypeId} {x A:Operand} (ho:I.op=.index t x A) (ht:P.underlying t=some .string):
 c8 P I fun e _=>match(cO A).ev e with
  |.int _ j=>match j with
   |.ofNat j=>match(cO x).ev e with
    |.str s=>match nth s j with|some b=>some (cz b)|none=>none
    |_=>none
   |.negSucc _=>none
  |_=>none:=by
 intro C U Λ h ls w e ρ v _ _ B hv;dsimp only at hv;have hx:=B x;have hj:=B A;revert hv;generalize (cO x).ev e=a at hx;generalize (cO A).ev e=b at hj;intro hv;cases b<;>simp only at hv<;>(try(cases hv;done))
 rename_i k j;cases j<;>simp only at hv<;>(try(cases hv;done))
 rename_i j;cases a<;>simp only at hv<;>(try(cases hv;done))
 generalize hc:ρ x=d at hx;have D:=se hj rfl;cases hx with
 |str s=>
  rw[lp]at hv;cases o:s.data.toList[j]? with
  |none=>simp[o]at hv
  |some b=>
   simp only[o,aL]at hv;subst hv;refine⟨.int .u8 b.toNat,?_,.int _ _⟩;simp only[execOp,ho,hc,D];refine b5 ?_;have:s[j]? =some b:=by
    have F:j<s.data.toList.length:=(dS.1 o).1;have G:j<s.size:=by rwa [mh]at F
    rw[ByteArray.getElem?_lt' s j G];have aj:=(dS.1 o).2;rw[<-aj];simp;rfl
   simp[Instr.index,asIntOf,bk ht,this]
theorem D0 {t el:TypeId} {i:TypeInfo} {x A:Operand} {len:Nat} {n:Option Nat} (ho:I.op=.index t x A) (ht:P.underlying t=some (.array len el)) (hi:P.info? el=some i)
 (hn:hV P el=some n):
 c8 P I fun e _=>match(cO A).ev e with
  |.int _ j=>match j with
   |.ofNat j=>match(cO x).ev e with
    |.agg l=>bif Nat.blt j len then part n l (j*i.size)else none
    |_=>none
   |.negSucc _=>none
  |_=>none:=by
 intro C U Λ h ls w e ρ v _ _ D hv;dsimp only at hv;have hx:=D x;have hj:=D A;revert hv;generalize (cO x).ev e=a at hx;generalize (cO A).ev e=b at hj;intro hv;cases b<;>simp only at hv<;>(try(cases hv;done))
 rename_i k j;cases j<;>simp only at hv<;>(try(cases hv;done))
 rename_i j;cases a<;>simp only at hv<;>(try(cases hv;done))
 cases B:Nat.blt j len with
 |false=>simp[B]at hv
 |true=>
  simp only[B,aE]at hv;have G:j<len:=by simpa using B
  generalize hc:ρ x=d at hx;have F:=se hj rfl;cases hx with
  |agg l cs hl=>
   obtain⟨c,o,aj⟩:=xV (P:=P) (w:=w) hn hl hv;refine⟨c,?_,aj⟩;simp only[execOp,ho,hc,F];refine b5 ?_;simp only[Instr.index,asIntOf,Sem.run_bind,Sem.run_pure,Result.andThen_ok,bk ht];have:(0:Int)<=Int.ofNat j/\Int.ofNat j<(len:Int):=⟨by simp,by simpa using G⟩
   rw[ae this];simp only[Sem.run_bind,fv hi,Result.andThen_ok];exact o
theorem D1 {x:Operand} {i:Nat} (ho:I.op=.extract x i):
 c8 P I fun e _=>match(cO x).ev e with
  |.aN l=>nth l i
  |_=>none:=by
 intro C U Λ h ls w e ρ v _ _ j hv;dsimp only at hv;have hx:=j x;revert hv;generalize (cO x).ev e=a at hx;intro hv;cases a<;>simp only[lp]at hv<;>(try(cases hv;done))
 generalize hc:ρ x=d at hx;cases hx with
 |aN l cs hl=>
  obtain⟨c,o,aj⟩:=hl.get hv;refine⟨c,?_,aj⟩;simp only[execOp,ho,hc];refine b5 ?_;have:(⟨cs⟩:Array Value)[i]? =some c:=by simpa using o
  simp[Instr.extract,this]
theorem uO {ok b:Bool} {v:V} {c:Value} (h:VR U v c):VR U (n2 ok v b) (if ok then .tuple #[c,.bool b]else c):=by
 cases ok with
 |true=>exact .aN _ _ (.cons _ _ _ _ h (.cons _ _ _ _ (.bool b) .nil))
 |false=>exact h
theorem D2 {t M:TypeId} {d:TypeDesc} {x:Operand} {ok:Bool} {z:V} (ho:I.op=.typeAssert x M t ok) (ht:P.underlying t=some d) (hd:∀m,d≠.interface m) (hz:hF P t=some z):
 c8 P I fun e _=>match(cO x).ev e with
  |.iface o v=>bif Nat.beq t o then some (n2 ok v true)else bif ok then some (.aN [z,.bool false])else none
  |.no k=>match k with
   |.iface=>bif ok then some (.aN [z,.bool false])else none
   |_=>none
  |_=>none:=by
 intro C U Λ h ls w e ρ v _ _ L hv;dsimp only at hv;obtain⟨i,A,hi,B,rfl⟩:=pw hz;have hx:=L x;revert hv;generalize (cO x).ev e=a at hx;intro hv;have D:VR U (.aN [dd A,.bool false]) (.tuple #[A,.bool false]):=.aN _ _ (.cons _ _ _ _ (qC U A) (.cons _ _ _ _ (.bool false) .nil));cases a<;>simp only at hv<;>(try(cases hv;done))
 ·rename_i k;cases k<;>simp only at hv<;>(try(cases hv;done))
  cases ok with
  |false=>simp at hv
  |true=>
   simp only[aE,aL]at hv;subst hv;generalize hc:ρ x=d' at hx;cases hx;refine⟨_,?_,D⟩;simp only[execOp,ho,hc];refine b5 ?_;simp only[Instr.typeAssert,Sem.run_bind,bk ht,Result.andThen_ok];cases d<;>first|(simp[iR hi B];done)|exact absurd rfl (hd _)
 ·rename_i o u;generalize hc:ρ x=d' at hx;cases hx with
  |iface _ _ c hu=>
   cases j:Nat.beq t o with
   |true=>
    have:=dG j;subst this;simp only[j,aE,aL]at hv;subst hv;refine⟨_,?_,uO hu⟩;simp only[execOp,ho,hc];refine b5 ?_;simp only[Instr.typeAssert,Sem.run_bind,bk ht,Result.andThen_ok];cases d<;>first|(simp;done)|exact absurd rfl (hd _)
   |false=>
    have G:¬o=t:=by intro F;subst F;simp at j
    simp only[j,bw]at hv;cases ok with
    |false=>simp at hv
    |true=>
     simp only[aE,aL]at hv;subst hv;refine⟨_,?_,D⟩;simp only[execOp,ho,hc];refine b5 ?_;simp only[Instr.typeAssert,Sem.run_bind,bk ht,Result.andThen_ok];cases d<;>first|(simp[G,iR hi B];done)|exact absurd rfl (hd _)
theorem ns {b:Builtin} {c:Call} {ty:TypeId} (hc:c.callee=.builtin b):
 ∃k,(do let d<-resolve ρ c ty;invoke d.target d.args:Sem Next).run P w=(builtin b c.argTypes ty k (c.args.map ρ)).run P w:=
 ⟨_,by simp only[resolve,hc,Sem.run_bind,Sem.run_pure,Result.andThen_ok,invoke];rfl⟩
theorem px {c:Call} {y:Operand} (ha:c.args.toList=[y]):c.args=#[y]:=by
 rw[<-nS (xs:=c.args),ha]
theorem D3 {c:Call} {y:Operand} {t el:TypeId} (ho:I.op=.call c) (hc:c.callee=.builtin .len) (ha:c.args.toList=[y]) (ht:c.argTypes[0]? =some t) (hu:P.underlying t=some (.slice el)):
 c8 P I fun e _=>mb ((cO y).ev e):=by
 intro C U Λ h ls w e ρ v _ _ j hv;dsimp only at hv;have hx:=j y;revert hv;generalize (cO y).ev e=a at hx;intro hv;suffices hs:∃r,(Builtin.len_ c.argTypes I.type #[ρ y]).run P w=.ok r w/\VR U v r by
  obtain⟨r,o,aj⟩:=hs;refine⟨r,?_,aj⟩;simp only[execOp,ho];obtain⟨k,hk⟩:=ns (P:=P) (w:=w) (ρ:=ρ) (ty:=I.type) hc;rw[hk,px ha];simp only[builtin,l4,eD,l6];exact b5 o
 cases a<;>simp only[mb]at hv<;>(try(cases hv;done))
 ·rename_i a off n cc;simp only[aL]at hv;subst hv;generalize ρ y=d at hx⊢;cases hx<;>exact⟨_,by simp[Builtin.len_,ht,bk hu];rfl,.int _ _⟩
 ·rename_i k;cases k<;>simp only at hv<;>(try(cases hv;done))
  simp only[aL]at hv;subst hv;generalize ρ y=d at hx⊢;cases hx;exact⟨_,by simp[Builtin.len_,ht,bk hu];rfl,.int _ _⟩
theorem D4 {c:Call} {y:Operand} {t:TypeId} (ho:I.op=.call c) (hc:c.callee=.builtin .len) (ha:c.args.toList=[y]) (ht:c.argTypes[0]? =some t) (hu:P.underlying t=some .string):
 c8 P I fun e _=>uj ((cO y).ev e):=by
 intro C U Λ h ls w e ρ v _ _ j hv;dsimp only at hv;have hx:=j y;revert hv;generalize (cO y).ev e=a at hx;intro hv;cases a<;>simp only[uj]at hv<;>(try(cases hv;done))
 simp only[aL]at hv;subst hv;generalize hd:ρ y=d at hx;cases hx with
 |str s=>
  rw[mh];refine⟨goInt s.size,?_,.int _ _⟩;simp only[execOp,ho];obtain⟨k,hk⟩:=ns (P:=P) (w:=w) (ρ:=ρ) (ty:=I.type) hc;rw[hk,px ha];simp only[builtin,l4,eD,l6,hd];exact b5 (by simp[Builtin.len_,ht,bk hu])
theorem D5 {c:Call} {y:Operand} {t el:TypeId} (ho:I.op=.call c) (hc:c.callee=.builtin .cap) (ha:c.args.toList=[y]) (ht:c.argTypes[0]? =some t) (hu:P.underlying t=some (.slice el)):
 c8 P I fun e _=>uk ((cO y).ev e):=by
 intro C U Λ h ls w e ρ v _ _ A hv;dsimp only at hv;have hx:=A y;revert hv;generalize (cO y).ev e=a at hx;intro hv;suffices hs:∃r,(Builtin.cap_ c.argTypes I.type #[ρ y]).run P w=.ok r w/\VR U v r by
  obtain⟨r,o,aj⟩:=hs;refine⟨r,?_,aj⟩;simp only[execOp,ho];obtain⟨k,hk⟩:=ns (P:=P) (w:=w) (ρ:=ρ) (ty:=I.type) hc;rw[hk,px ha];simp only[builtin,l4,eD,l6];exact b5 o
 cases a<;>simp only[uk]at hv<;>(try(cases hv;done))
 ·rename_i a off n cc;cases cc with
  |un s=>simp at hv
  |ex cc=>
   simp only[aL]at hv;subst hv;generalize ρ y=d at hx⊢;cases hx with
   |sl _ _ _ _ L capC o hn j=>
    simp only[iN]at j;subst j;exact⟨_,by simp[Builtin.cap_,ht,bk hu];rfl,.int _ _⟩
   |de _ _ _ bV j=>
    have:=r4 j;subst this;exact⟨_,by simp[Builtin.cap_,ht,bk hu];rfl,.int _ _⟩
 ·rename_i k;cases k<;>simp only at hv<;>(try(cases hv;done))
  simp only[aL]at hv;subst hv;generalize ρ y=d at hx⊢;cases hx;exact⟨_,by simp[Builtin.cap_,ht,bk hu];rfl,.int _ _⟩
theorem D6 {b:Bool} {x y v:V} {c d:Value} (hx:VR U x c) (o:VR U y d) (hv:mm b x y=some v):
 ∃r,(if b then Builtin.max2 c d else Builtin.min2 c d).run P w=.ok r w/\VR U v r:=by
 cases x<;>simp only[mm]at hv<;>(try(cases hv;done))
 cases y<;>simp only at hv<;>(try(cases hv;done))
 rename_i k i k' j;cases hk:cr k k' with
 |false=>simp[hk]at hv
 |true=>
  have:=qD hk;subst this;simp only[hk,aE,aL,mf]at hv;subst hv;cases hx;cases o;cases b with
  |true=>
   refine⟨.int k (if j>i then j else i),by simp[Builtin.max2],?_⟩;by_cases h:i<j
   ·simp[h];exact .int _ _
   ·simp[h];exact .int _ _
  |false=>
   refine⟨.int k (if j<i then j else i),by simp[Builtin.min2],?_⟩;by_cases h:j<i
   ·simp[h];exact .int _ _
   ·simp[h];exact .int _ _
theorem xW (b:Bool) (d:gn U e ρ):∀(l:List Operand) (x v:V) (c:Value),VR U x c->la b e (l.map cO) x=some v->
 ∃r,((l.map ρ).foldlM (fun p q=>if b then Builtin.max2 p q else Builtin.min2 p q) c).run P w=.ok r w/\VR U v r
 |[],x,v,c,hx,hv=>by simp[la]at hv;subst hv;exact⟨c,by simp,hx⟩
 |y::l,x,v,c,hx,hv=>by
  simp only[eD,la]at hv;cases hm:mm b x ((cO y).ev e)with
  |none=>simp[hm]at hv
  |some z=>
   simp only[hm]at hv;obtain⟨r,o,aj⟩:=D6 (P:=P) (w:=w) hx (d y) hm;obtain⟨A,h,j⟩:=xW b d l z v r aj hv;refine⟨A,?_,j⟩;simp only[eD,List.foldlM_cons,Sem.run_bind,o,Result.andThen_ok,h]
theorem xX {c:Call} {y:Operand} {l:List Operand} (b:Bool) (ho:I.op=.call c) (hc:c.callee=.builtin (if b then .max else .min)) (ha:c.args.toList=y::l):
 c8 P I fun e _=>la b e (l.map cO) ((cO y).ev e):=by
 intro C U Λ h ls w e ρ v _ _ d hv;dsimp only at hv;obtain⟨r,o,aj⟩:=xW (P:=P) (w:=w) b d l _ v (ρ y) (d y) hv;refine⟨r,?_,aj⟩;simp only[execOp,ho];obtain⟨A,j⟩:=ns (P:=P) (w:=w) (ρ:=ρ) (ty:=I.type) hc;rw[j];have:(c.args.map ρ).toList=ρ y::l.map ρ:=by simp[ha]
 cases b with
 |true=>
  simp only[if_true,builtin];exact b5 (by simp only[Builtin.max_,this];simpa using o)
 |false=>
  simp only[l1,if_false,builtin];exact b5 (by simp only[Builtin.min_,this];simpa using o)
end Go.Ev
namespace Go.Ev
variable{C:Cx} {U:AM} {Λ:Pa->Prop} {h:Hp} {ls:List LE} {w:World} {e:T V} {ρ:Operand->Value}
variable{P:Program} {I:Oper}
theorem D7:aY [V.no .bot]=false:=rfl
theorem uP {v:V} {c:Value} (h:VR U v c) (hs:aY v.cells=true):bd U v.cells c.cells.toList:=by
 refine h.cells ?_;intro e;subst e;simp[V.cells,D7]at hs
theorem xY (off:Nat):∀(vs:List Value) (k:Nat) (cells:Array Value),
 ((vs.zipIdx k).foldl (fun cs (p:Value×Nat)=>cs.setIfInBounds (off+p.2) p.1) cells).size=cells.size/\
 ∀j,j<cells.size->((vs.zipIdx k).foldl (fun cs (p:Value×Nat)=>cs.setIfInBounds (off+p.2) p.1) cells)[j]? =
  if off+k<=j/\j<off+k+vs.length then vs[j-off-k]? else cells[j]?
 |[],k,cells=>by
  refine⟨rfl,fun j hj=>?_⟩;have:¬(off+k<=j/\j<off+k+([]:List Value).length):=by simp
  rw[ab this];simp
 |v::vs,k,cells=>by
  obtain⟨o,aj⟩:=xY off vs (k+1) (cells.setIfInBounds (off+k) v);simp only[List.zipIdx_cons,gK];refine⟨by rw[o];simp,fun j hj=>?_⟩;rw[aj j (by simpa using hj)];by_cases hc:off+(k+1)<=j/\j<off+(k+1)+vs.length
  ·have d:off+k<=j/\j<off+k+(v::vs).length:=by simp;omega
   rw[ae hc,ae d];have:j-off-k=(j-off-(k+1))+1:=by omega
   rw[this];simp
  ·rw[ab hc];by_cases he:j=off+k
   ·subst he;have d:off+k<=off+k/\off+k<off+k+(v::vs).length:=by simp
    rw[ae d];have:off+k-off-k=0:=by omega
    rw[this];simp[hj]
   ·have d:¬(off+k<=j/\j<off+k+(v::vs).length):=by simp;omega
    rw[ab d,kZ (by omega)]
theorem D8 {I:Nat} {z xs z':List V} (h:cT I z xs=some z') {d xc:List Value} (hz:bd U z d) (hx:bd U xs xc):
 I+xc.length<=d.length/\∀r:Array Value,r.size=d.length->(∀j,j<d.length->r[j]? =if I<=j/\j<I+xc.length then xc[j-I]? else d[j]?)->bd U z' r.toList:=by
 obtain⟨o,aj⟩:=qB h;have D:=hz.length;have F:=hx.length;refine⟨by omega,fun r hr B=>?_⟩;refine bd.xC (by rw[aj];simp;omega) fun i v hv=>?_;have hi:i<z'.length:=(dS.1 hv).1;have hlen:z'.length=d.length:=by rw[aj];simp;omega
 have A:=B i (by omega);rw[show r.toList[i]? =r[i]? from by simp,A];rw[aj]at hv;by_cases eH:i<I
 ·rw[ab (by omega)];rw[bp,dt (by simp;omega),rM eH]at hv;exact hz.get hv
 ·by_cases Pf:i<I+xc.length
  ·rw[ae ⟨by omega,Pf⟩];rw[bp,db (by simp;omega),dt (by simp;omega)]at hv;have:i-(z.take I).length=i-I:=by simp;omega
   rw[this]at hv;exact hx.get hv
  ·rw[ab (by omega)];rw[db (by simp;omega),gJ]at hv;have:I+xs.length+(i-(List.take I z++xs).length)=i:=by simp;omega
   rw[this]at hv;exact hz.get hv
theorem sf {place:Nat->Option (Nat×Nat)} (G:gn U e ρ):∀(ps:List (Nat×Operand)) (l:List (Nat×Nat×Od)) (z z':List V) (d:List Value),
 hW place ps=some l->gN e l z=some z'->bd U z d->
 ∃o,Instr.fill place d.toArray (ps.map fun p=>(p.1,ρ p.2))=some o.toArray/\bd U z' o
 |[],l,z,z',d,hl,hz,hr=>by
  simp[hW]at hl;subst hl;simp[gN]at hz;subst hz;exact⟨d,rfl,hr⟩
 |(i,x)::ps,l,z,z',d,hl,hz,hr=>by
  simp only[hW]at hl;cases hp:place i with
  |none=>simp[hp]at hl
  |some p=>
   obtain⟨off,n⟩:=p;simp only[hp]at hl;cases B:hW place ps with
   |none=>simp[B]at hl
   |some l'=>
    simp only[B,aL]at hl;subst hl;simp only[gN]at hz;cases A:Nat.beq ((cO x).ev e).cells.length n with
    |false=>simp[A]at hz
    |true=>
     simp only[A,aE]at hz;cases hs:aY ((cO x).ev e).cells with
     |false=>simp[hs]at hz
     |true=>
      simp only[hs,aE]at hz;cases ch:cT off z ((cO x).ev e).cells with
      |none=>simp[ch]at hz
      |some S=>
       simp only[ch]at hz;have hn:=dG A;have F:=uP (G x) hs;have Y:=F.length;obtain⟨W,M⟩:=D8 ch hr F;obtain⟨I,L⟩:=xY off (ρ x).cells.toList 0 d.toArray;have Q:=M _ (by rw[I];simp) (fun j hj=>by rw[L j (by simpa using hj)];simp);obtain⟨o,R,k2⟩:=sf G ps l' S z' _ B hz Q;refine⟨o,?_,k2⟩;simp only[eD,Instr.fill,hp];have eH:¬((ρ x).cells.size≠n):=by
        have:(ρ x).cells.size=(ρ x).cells.toList.length:=by simp
        omega
       have Pf:¬(off+(ρ x).cells.size>d.toArray.size):=by
        have:(ρ x).cells.size=(ρ x).cells.toList.length:=by simp
        simp only[List.size_toArray];omega
       have O:(ρ x).cells.zipIdx.foldl (fun cs (p:Value×Nat)=>cs.setIfInBounds (off+p.2) p.1) d.toArray=
        ((ρ x).cells.toList.zipIdx 0).foldl (fun cs (p:Value×Nat)=>cs.setIfInBounds (off+p.2) p.1) d.toArray:=by
        rw[<-Array.foldl_toList,Array.toList_zipIdx]
       have Pm:((ρ x).cells.size !=n||decide (off+(ρ x).cells.size>d.toArray.size))=false:=by
        simp only[cg,bne_eq_false_iff_eq,bD];exact⟨by simpa using eH,Pf⟩
       have O9:¬((decide ((ρ x).cells.size≠n)||decide (off+(ρ x).cells.size>d.toArray.size))=true):=by
        simp only[cx,aR];exact fun h=>h.elim eH Pf
       rw[ab O9];have D:=R;simp only[nS]at D;rw[<-O]at D;exact D
theorem D9 {fs:Array Field} (d:fs.toList.all (fun f=>(fb P f.type).isSome)=true):
 (fs.mapM (fun f=>do pure (f.offset,<-sizeOf f.type)):Sem (Array (Nat×Nat))).run P w=.ok (fs.map fun f=>(f.offset,P.cellsOf f.type)) w:=by
 rw[Array.mapM_eq_mapM_toList];have:∀l:List Field,l.all (fun f=>(fb P f.type).isSome)=true->
  (l.mapM (fun f=>do pure (f.offset,<-sizeOf f.type)):Sem (List (Nat×Nat))).run P w=.ok (l.map fun f=>(f.offset,P.cellsOf f.type)) w:=by
  intro l
  induction l with
  |nil=>intro _;simp
  |cons f l h=>
   intro hl;simp only[k4,be]at hl;obtain⟨n,hn⟩:=eS.1 hl.1;obtain⟨i,hi,j⟩:=lr hn;have hc:P.cellsOf f.type=i.size:=by simp[Program.cellsOf,hi]
   simp only[List.mapM_cons,Sem.run_bind,fv hi,Result.andThen_ok,Sem.run_pure,h hl.2,eD,hc]
 rw[Sem.run_map,this fs.toList d,<-qg,Result.andThen_ok,nS]
theorem Ea (c:Value):(nf c).cells=[nf c]:=by
 unfold nf;split<;>rfl
theorem lz (c:Value):bd U (dd c).cells c.cells.toList:=by
 unfold dd;split
 ·rename_i cs;exact xD U cs.toList
 ·rename_i d;rw[Ea];have:c.cells=#[c]:=by cases c<;>first|rfl|exact absurd rfl (d _)
  rw[this];exact .cons _ _ _ _ (uz U _) .nil
theorem Eb {t:TypeId} {fs:Array Field} {ps:Array (Nat×Operand)} {z:V} {l:List (Nat×Nat×Od)} (ho:I.op=.build t ps) (ht:P.underlying t=some (.struct fs))
 (B:fs.toList.all (fun f=>(fb P f.type).isSome)=true) (hz:hF P t=some z)
 (hl:hW (fun i=>(fs[i]?).bind fun f=>(fb P f.type).map fun n=>(f.offset,n)) ps.toList=some l):
 c8 P I fun e _=>match gN e l z.cells with|some l=>some (.agg l)|none=>none:=by
 intro C U Λ h ls w e ρ v _ _ Q hv;dsimp only at hv;obtain⟨i,d,hi,M,rfl⟩:=pw hz;cases A:gN e l (dd d).cells with
 |none=>simp[A]at hv
 |some z'=>
  simp only[A,aL]at hv;subst hv;have O:bd U (dd d).cells d.cells.toList:=lz d;obtain⟨D,R,k2⟩:=sf Q ps.toList l _ z' _ hl A O;refine⟨.agg D.toArray,?_,.agg _ _ k2⟩;simp only[execOp,ho];refine b5 ?_;have L:(fun(i:Nat)=>(fs.map fun(f:Field)=>(f.offset,P.cellsOf f.type))[i]?)=(fun(i:Nat)=>(fs[i]?).bind fun(f:Field)=>(fb P f.type).map fun n=>(f.offset,n)):=by
   funext j;simp only[Array.getElem?_map];cases hj:fs[j]? with
   |none=>simp
   |some f=>
    have hm:f∈fs.toList:=by
     have:=gI.1 hj;obtain⟨o,aj⟩:=this;rw[<-aj];simp
    have:=(eU.1 B) f hm;obtain⟨n,hn⟩:=eS.1 this;obtain⟨W,F,G⟩:=lr hn;have hc:P.cellsOf f.type=n:=by simp[Program.cellsOf,F,G]
    simp[hn,hc]
  simp only[Instr.build,Sem.run_bind,iR hi M,Result.andThen_ok,bk ht,D9 B];have:(ps.map fun(p:Nat×Operand)=>(p.1,ρ p.2)).toList=ps.toList.map fun p=>(p.1,ρ p.2):=by simp
  have S:Instr.fill (fun(i:Nat)=>(fs.map fun(f:Field)=>(f.offset,P.cellsOf f.type))[i]?) d.cells (ps.map fun(p:Nat×Operand)=>(p.1,ρ p.2)).toList=some D.toArray:=by
   rw[this,L];simpa using R
  simp only[S];rfl
theorem Ec {t el:TypeId} {d:TypeInfo} {len:Nat} {ps:Array (Nat×Operand)} {z:V} {l:List (Nat×Nat×Od)} (ho:I.op=.build t ps) (ht:P.underlying t=some (.array len el))
 (B:P.info? el=some d) (hz:hF P t=some z)
 (hl:hW (fun i=>some (i*d.size,d.size)) ps.toList=some l):
 c8 P I fun e _=>match gN e l z.cells with|some l=>some (.agg l)|none=>none:=by
 intro C U Λ h ls w e ρ v _ _ G hv;dsimp only at hv;obtain⟨i,j,hi,D,rfl⟩:=pw hz;cases o:gN e l (dd j).cells with
 |none=>simp[o]at hv
 |some z'=>
  simp only[o,aL]at hv;subst hv;have F:bd U (dd j).cells j.cells.toList:=lz j;obtain⟨A,L,k2⟩:=sf G ps.toList l _ z' _ hl o F;refine⟨.agg A.toArray,?_,.agg _ _ k2⟩;simp only[execOp,ho];refine b5 ?_;simp only[Instr.build,Sem.run_bind,iR hi D,Result.andThen_ok,bk ht,fv B];have:(ps.map fun(p:Nat×Operand)=>(p.1,ρ p.2)).toList=ps.toList.map fun p=>(p.1,ρ p.2):=by simp
  have M:Instr.fill (fun i=>some (i*d.size,d.size)) j.cells (ps.map fun(p:Nat×Operand)=>(p.1,ρ p.2)).toList=some A.toArray:=by
   rw[this];simpa using L
  simp only[M];rfl
end Go.Ev
namespace Go.Ev
variable{C:Cx} {U:AM} {Λ:Pa->Prop} {h:Hp} {ls:List LE} {w:World} {e:T V} {ρ:Operand->Value}
variable{P:Program} {I:Oper}
def hJ (U:AM) (es:List (V×V×Nat)) (d:List MapEntry):Prop:=
 d.length=es.length/\∀(i:Nat) (t:V×V×Nat),es[i]? =some t->∃x,d[i]? =some x/\VR U t.1 x.key/\VR U t.2.1 x.val/\x.born=t.2.2
theorem hJ.cons {t:V×V×Nat} {es:List (V×V×Nat)} {d:List MapEntry} (h:hJ U (t::es) d):
 ∃x r,d=x::r/\VR U t.1 x.key/\VR U t.2.1 x.val/\x.born=t.2.2/\hJ U es r:=by
 obtain⟨o,aj⟩:=h;cases d with
 |nil=>simp at o
 |cons x r=>
  obtain⟨y,j,A,k2,B⟩:=aj 0 t (by simp);simp at j;subst j;exact⟨x,r,rfl,A,k2,B,by simpa using o,fun i u hu=>by simpa using aj (i+1) u (by simpa using hu)⟩
def uQ (U:AM):Option (Nat×V)->Option (Nat×Value)->Prop
 |none,none=>True
 |some (i,v),some (j,c)=>i=j/\VR U v c
 |_,_=>False
theorem xZ {t:TypeId} {k:V} {A:Value} (hk:VR U k A):∀(es:List (V×V×Nat)) (d:List MapEntry) (i:Nat) (r:Option (Nat×V)),
 hJ U es d->gw (a7 P t) k es i=some r->∃h,(Instr.findAsking t A d i).run P w=.ok h w/\uQ U r h
 |[],d,i,r,he,hr=>by
  have:d=[]:=e8 (by simpa using he.1);subst this;simp[gw]at hr;subst hr;exact⟨none,by simp[Instr.findAsking],trivial⟩
 |(k',v,n)::es,d,i,r,he,hr=>by
  obtain⟨x,rest,rfl,o,aj,G,F⟩:=he.cons;simp only[gw]at hr;cases hq:cF (a7 P t) k k' with
  |none=>simp[hq]at hr
  |some b=>
   obtain⟨j,_,_⟩:=xO (P:=P) (w:=w) hk o hq;simp only[hq]at hr;cases b with
   |true=>
    simp only[aE,aL]at hr;subst hr;exact⟨some (i,x.val),by simp[Instr.findAsking,j],rfl,aj⟩
   |false=>
    simp only[bw]at hr;obtain⟨h,B,D⟩:=xZ hk es rest (i+1) r F hr;exact⟨h,by simp[Instr.findAsking,j,B],D⟩
theorem Ed {t:TypeId} {k k':V} {o A:Value} {b b':Bool} {d:TypeDesc} (hk:VR U k o) (h:VR U k' A) (hq:cF (a7 P t) k k'=some b)
 (hs:Instr.sameNow d o A=some b'):b=b':=by
 rcases uJ hq with⟨q,i,F,j,rfl,rfl,rfl,rfl⟩|⟨i,j,rfl,rfl,rfl⟩|⟨n1,B,D⟩
 ·cases hk;cases h;cases d<;>simp[Instr.sameNow]at hs<;>exact hs
 ·cases hk with
  |str s=>cases h with
   |str s'=>
    cases d<;>simp[Instr.sameNow]at hs
    rw[<-hs];have:=beq_toListBytes s s';rw[ByteArray.toList_eq,ByteArray.toList_eq]at this;exact this.symm
 ·cases hk<;>first
   |exact absurd rfl (n1 _ _)
   |exact absurd rfl (B _)
   |exact absurd rfl D
   |(cases d<;>simp[Instr.sameNow]at hs;done)
   |skip
  cases h<;>first
   |(cases d<;>simp[Instr.sameNow]at hs;done)
   |skip
  ·rename_i x y;cases d<;>simp[Instr.sameNow]at hs
   subst hs;cases he:a7 P t with
   |flat q=>
    rw[he]at hq;cases q<;>simp[cF,en]at hq
    rw[<-hq,xL]
   |agg l=>rw[he]at hq;simp[cF]at hq
   |_=>rw[he]at hq;simp[cF,isNil]at hq
  all_goals
   cases he:a7 P t with
   |flat q=>rw[he]at hq;cases q<;>simp[cF,en]at hq
   |agg l=>rw[he]at hq;simp[cF]at hq
   |_=>rw[he]at hq;simp[cF,isNil]at hq
theorem x0 {t:TypeId} {k:V} {A:Value} {d:TypeDesc} (hk:VR U k A):∀(es:List (V×V×Nat)) (h:List MapEntry) (i:Nat) (r:Option (Nat×V)) (j:Option (Nat×Value)),
 hJ U es h->gw (a7 P t) k es i=some r->Instr.findNow d A h i=some j->uQ U r j
 |[],h,i,r,j,he,hr,hn=>by
  have:h=[]:=e8 (by simpa using he.1);subst this;simp[gw]at hr;subst hr;simp[Instr.findNow]at hn;subst hn;trivial
 |(k',v,n)::es,h,i,r,j,he,hr,hn=>by
  obtain⟨x,rest,rfl,o,aj,D,B⟩:=he.cons;simp only[gw]at hr;cases hq:cF (a7 P t) k k' with
  |none=>simp[hq]at hr
  |some b=>
   simp only[hq]at hr;simp only[Instr.findNow]at hn;cases hs:Instr.sameNow d A x.key with
   |none=>simp[hs]at hn
   |some b'=>
    have:=Ed hk o hq hs;subst this;cases b with
    |true=>
     simp only[aE,aL]at hr;subst hr;simp only[hs,aL]at hn;subst hn;exact⟨rfl,aj⟩
    |false=>
     simp only[bw]at hr;simp only[hs]at hn;exact x0 hk es rest (i+1) r j B hr hn
theorem Ee {t:TypeId} (h:c6 (a7 P t)=true):∃d,P.underlying t=some d:=by
 rcases mg (P:=P) t with⟨q,o,aj⟩|⟨_,fs,o,aj,_⟩|⟨o,_⟩|⟨o,_⟩|⟨o,_⟩|⟨o,_⟩|⟨o,_⟩|o<;>rw[o]at h<;>(try(cases h;done))
 ·rcases r7 aj with⟨_,hu⟩|⟨_,k,hu⟩|⟨_,hu⟩<;>exact⟨_,hu⟩
 ·exact⟨_,aj⟩
theorem uR {t:TypeId} {k:V} {o:Value} {es:List (V×V×Nat)} {j:List MapEntry} {r:Option (Nat×V)} (hk:VR U k o) (he:hJ U es j)
 (hr:gw (a7 P t) k es 0=some r) (hq:c6 (a7 P t)=true):∃h,(Instr.findKey t o j).run P w=.ok h w/\uQ U r h:=by
 obtain⟨d,hd⟩:=Ee hq;cases hn:Instr.findNow d o j 0 with
 |some h=>exact⟨h,by simp[Instr.findKey,bk hd,hn],x0 hk es j 0 r h he hr hn⟩
 |none=>
  obtain⟨h,A,B⟩:=xZ (P:=P) (w:=w) hk es j 0 r he hr;exact⟨h,by simp[Instr.findKey,bk hd,hn,A],B⟩
theorem x1 {t:TypeId} {q:hE} (ht:kv P t=some q) (b:Bool) (n:Nat) (c:Value):(Instr.checkKey b (n+1) t c).run P w=.ok () w:=by
 rcases r7 ht with⟨_,hu⟩|⟨_,k,hu⟩|⟨_,hu⟩<;>
  (simp only[Instr.checkKey,Sem.run_bind,bk hu,Result.andThen_ok];cases c<;>rfl)
theorem x2 {xs:List V} {cs:List Value} (hx:bd U xs cs) (b:Bool) (n:Nat):∀(fs:List Field) (l:List (Nat×hE)),jZ P fs=some l->rZ xs l=true->
 (forIn fs PUnit.unit (fun(f:Field) (_:PUnit)=>(do
   if f.name≠ "_" then do
    let x<-Go.part f.type cs.toArray f.offset
    Instr.checkKey b (n+1) f.type x
    pure (ForInStep.yield PUnit.unit)
   else pure (ForInStep.yield PUnit.unit):Sem (ForInStep PUnit)))).run P w=.ok PUnit.unit w
 |[],l,_,_=>by simp
 |f::fs,l,hl,d=>by
  simp only[jZ]at hl;cases h:jZ P fs with
  |none=>simp[h]at hl
  |some m=>
   simp only[h]at hl;have o:=x2 hx b n fs m h;by_cases hn:f.name≠ "_"
   ·rw[ae hn]at hl;cases hq:kv P f.type with
    |none=>simp[hq]at hl
    |some q=>
     simp[hq]at hl;subst hl;simp only[rZ,lp]at d;cases ha:xs[f.offset]? with
     |none=>simp[ha]at d
     |some a=>
      simp only[ha]at d;cases j:qs q a with
      |false=>simp[j]at d
      |true=>
       simp only[j,aE]at d;obtain⟨c,hc,_⟩:=hx.get ha;have A:∀w,(isAgg f.type).run P w=.ok false w:=fun w=>xN hq;have B:=r8 (P:=P) (w:=w) (cs:=cs.toArray) (I:=f.offset) (A w) (by simpa using hc);simp only[List.forIn_cons,Sem.run_bind,ae hn,B,Result.andThen_ok,x1 hq,Sem.run_pure];exact o d
   ·rw[ab hn]at hl;cases hl;simp only[List.forIn_cons,Sem.run_bind,ab hn,Sem.run_pure,Result.andThen_ok];exact o d
theorem uS {t:TypeId} {k:V} {c:Value} (hk:VR U k c) (d:fits (a7 P t) k=true) (b:Bool):(Instr.checkKey b 10000 t c).run P w=.ok () w:=by
 have:∃n,(10000:Nat)=n+1+1:=⟨9998,rfl⟩
 obtain⟨n,hn⟩:=this;rw[hn];clear hn;rcases mg (P:=P) t with⟨q,o,aj⟩|⟨l,fs,o,aj,j,_⟩|⟨o,_⟩|⟨o,_⟩|⟨o,_⟩|⟨o,_⟩|⟨o,_⟩|o<;>rw[o]at d<;>(try(cases d;done))
 ·exact x1 aj b (n+1) c
 ·cases k<;>simp only[fits]at d<;>(try(cases d;done))
  cases hk with
  |agg xs cs A=>
   have:=x2 (P:=P) (w:=w) A b n fs.toList l j d;unfold Instr.checkKey;simp only[Sem.run_bind,bk aj,Result.andThen_ok];rw[<-Array.forIn_toList];have h:∀{x:Sem PUnit},x.run P w=.ok PUnit.unit w->(x.run P w).andThen (fun _ w'=>(pure ():Sem Unit).run P w')=.ok () w:=by
    intro x hx;rw[hx];(try rfl)
   exact h this
theorem Ef {t F el:TypeId} {x D:Operand} {ok:Bool} {z:V} (ho:I.op=.lookup t x D ok) (ht:P.underlying t=some (.map F el)) (hz:hF P el=some z) (hq:c6 (a7 P F)=true):
 c8 P I fun e h=>ph h (a7 P F) z ((cO x).ev e) ((cO D).ev e) ok:=by
 intro C U Λ h ls w e ρ v an s Z hv;obtain⟨i,S,hi,Y,rfl⟩:=pw hz;dsimp only at hv;unfold ph at hv;have hx:=Z x;have hk:=Z D;generalize (cO x).ev e=a at hx hv;generalize (cO D).ev e=k at hk hv;cases hm:h.mapOf a with
 |none=>simp[hm]at hv
 |some es=>
  simp only[hm]at hv;cases R:fits (a7 P F) k with
  |false=>simp[R]at hv
  |true=>
   simp only[R,aE]at hv;cases hr:gw (a7 P F) k es 0 with
   |none=>simp[hr]at hv
   |some r=>
    simp only[hr]at hv;have A:∃A:Array MapEntry,hJ U es A.toList/\((ρ x=.map none/\A=#[])\/∃b clock,ρ x=.map (some b)/\w.heap[b]? =some (.map A clock)):=by
     cases a<;>simp only[bn.mapOf]at hm<;>(try(cases hm;done))
     ·rename_i al;cases al<;>simp only at hm<;>(try(cases hm;done))
      simp only[aL]at hm;subst hm;generalize ρ x=d at hx⊢;cases hx;exact⟨#[],⟨rfl,fun i t ht=>by simp at ht⟩,.inl ⟨rfl,rfl⟩⟩
     ·rename_i r;cases Q:h.get r with
      |none=>simp[Q]at hm
      |some b=>
       cases b<;>simp only[Q]at hm<;>(try(cases hm;done))
       simp only[aL]at hm;subst hm;generalize ρ x=d at hx⊢;cases hx with
       |map _ L ha=>
        have ai:Λ r:=by
         rcases s.live r L _ ha Q with o|⟨m,o⟩
         ·exact o
         ·cases o
        obtain⟨b',B,M⟩:=s.aw r L ha ai;rw[Q]at B;cases B;obtain⟨A,ab,ac,ae⟩:=M;refine⟨A,⟨by simpa using ac,fun i t ht=>by
         obtain⟨x,ak,k2⟩:=ae i t ht;exact⟨x,by simpa using ak,k2⟩⟩,.inr ⟨_,_,rfl,ab⟩⟩
    obtain⟨A,he,ah⟩:=A;obtain⟨G,B,M⟩:=uR (P:=P) (w:=w) hk he hr hq;have goal:∀c,(G=none->c=(if ok then .tuple #[S,.bool false]else S))->(∀j u,G=some (j,u)->c=(if ok then .tuple #[u,.bool true]else u))->
     (Instr.lookup t (ρ x) (ρ D) ok).run P w=.ok c w:=by
     intro c o aj;have bX:∀b,(Instr.checkKey b 10000 F (ρ D)).run P w=.ok () w:=fun b=>uS hk R b;rcases ah with⟨O,rfl⟩|⟨b,clock,O,ag⟩
     ·cases G with
      |none=>rw[o rfl];simp only[Instr.lookup,Sem.run_bind,bk ht,Result.andThen_ok,O,Sem.run_pure,bX,B,iR hi Y]
      |some p=>rw[aj p.1 p.2 rfl];simp only[Instr.lookup,Sem.run_bind,bk ht,Result.andThen_ok,O,Sem.run_pure,bX,B]
     ·have W:(getObj b).run P w=.ok (.map A clock) w:=by simp[getObj,Sem.run,ag]
      cases G with
      |none=>rw[o rfl];simp only[Instr.lookup,Sem.run_bind,bk ht,Result.andThen_ok,O,W,Sem.run_pure,bX,B,iR hi Y]
      |some p=>rw[aj p.1 p.2 rfl];simp only[Instr.lookup,Sem.run_bind,bk ht,Result.andThen_ok,O,W,Sem.run_pure,bX,B]
    cases r with
    |none=>
     simp only[aL]at hv;subst hv;cases G with
     |none=>exact⟨_,by simp only[execOp,ho];exact b5 (goal _ (fun _=>rfl) (fun _ _ e=>by cases e)),uO (qC U S)⟩
     |some p=>exact M.elim
    |some p=>
     obtain⟨j,u⟩:=p;simp only[aL]at hv;subst hv;cases G with
     |none=>exact M.elim
     |some am=>
      obtain⟨ao,ap⟩:=am;exact⟨_,by simp only[execOp,ho];exact b5 (goal _ (fun e=>by cases e) (fun _ _ e=>by cases e;rfl)),uO M.2⟩
end Go.Ev
namespace Go.Ev
variable{P:Program} {I:Oper}
theorem Eg {fs:Array Field} {t:TypeId} {z:V} (h:(bif fs.toList.all (fun f=>(fb P f.type).isSome)then hF P t else none)=some z):
 fs.toList.all (fun f=>(fb P f.type).isSome)=true/\hF P t=some z:=by
 cases d:fs.toList.all (fun f=>(fb P f.type).isSome)with
 |false=>rw[d]at h;cases h
 |true=>rw[d]at h;exact⟨rfl,h⟩
theorem kA {l:List Operand} {x:Od} (h:l.map cO=[x]):∃y,l=[y]/\x=cO y:=by
 cases l with
 |nil=>cases h
 |cons a l=>cases l with
  |nil=>cases h;exact⟨a,rfl,rfl⟩
  |cons b l=>cases h
theorem nu {l:List Operand} {x:Od} {r:List Od} (h:l.map cO=x::r):∃y m,l=y::m/\x=cO y/\r=m.map cO:=by
 cases l with
 |nil=>cases h
 |cons a l=>cases h;exact⟨a,l,rfl,rfl,rfl⟩
theorem Eh {b:Builtin} {c:Call} {f:T V->Hp->Option V} (ho:I.op=.call c) (h:c.callee=.builtin b) (hc:kx P b (c.args.toList.map cO) c.argTypes=.pu f):c8 P I f:=by
 cases b<;>simp only[kx]at hc<;>(try(cases hc;done))
 case append=>
  repeat' (first|(cases hc;done)|split at hc)
 case clear=>
  repeat' (first|(cases hc;done)|split at hc)
 case copy=>
  repeat' (first|(cases hc;done)|split at hc)
 case panic=>
  repeat' (first|(cases hc;done)|split at hc)
 case len=>
  split at hc
  ·rename_i x hx;obtain⟨y,d,rfl⟩:=kA hx;split at hc
   ·rename_i el hu;cases hc;rw[gf]at hu;obtain⟨t,ht,hu⟩:=hu;exact D3 ho h d ht hu
   ·rename_i hu;cases hc;rw[gf]at hu;obtain⟨t,ht,hu⟩:=hu;exact D4 ho h d ht hu
   ·cases hc
  ·cases hc
 case cap=>
  split at hc
  ·rename_i x hx;obtain⟨y,d,rfl⟩:=kA hx;split at hc
   ·rename_i el hu;cases hc;rw[gf]at hu;obtain⟨t,ht,hu⟩:=hu;exact D5 ho h d ht hu
   ·cases hc
  ·cases hc
 case max=>
  split at hc
  ·rename_i x r hx;obtain⟨y,m,d,rfl,rfl⟩:=nu hx;cases hc;exact xX true ho h d
  ·cases hc
 case min=>
  split at hc
  ·rename_i x r hx;obtain⟨y,m,d,rfl,rfl⟩:=nu hx;cases hc;exact xX false ho h d
  ·cases hc
theorem x3 {f:T V->Hp->Option V} (hc:cm P I.op=.pu f):c8 P I f:=by
 cases h:I.op<;>rw[h]at hc<;>simp only[cm]at hc<;>(try(cases hc;done))
 case move x=>cases hc;exact xP (.inl h)
 case assign x=>cases hc;exact xP (.inr h)
 case pick c a b=>cases hc;exact Dz h
 case alloc t=>split at hc<;>cases hc
 case build t ps=>
  split at hc
  ·rename_i fs hu;split at hc
   ·rename_i z hz;split at hc
    ·rename_i l hl;cases hc;obtain⟨o,aj⟩:=Eg hz;exact Eb h hu o aj hl
    ·cases hc
   ·cases hc
  ·rename_i len el hu;split at hc
   ·rename_i z hz;split at hc
    ·rename_i n hn;split at hc
     ·rename_i l hl;cases hc;obtain⟨i,hi,rfl⟩:=lr hn;exact Ec h hu hi hz hl
     ·cases hc
    ·cases hc
   ·cases hc
  ·cases hc
 case buildSlice t len ps=>repeat' (first|(cases hc;done)|split at hc)
 case load t a=>
  split at hc
  ·rename_i n hn;cases hc;exact DA h hn
  ·cases hc
 case store t a v=>split at hc<;>cases hc
 case nilCheck x=>cases hc;exact DC h
 case binOp op t x y Q=>
  split at hc
  ·rename_i hq;cases B:(eo x||eo y)with
   |false=>rw[B]at hc;cases hc
   |true=>
    rw[B]at hc;cases hc;rw[<-hq];exact xR h (fun _=>B)
  ·rename_i hq;cases hc;exact xR h (fun e=>absurd e hq)
 case unOp op t x=>cases hc;exact DI h
 case convert s d x=>
  unfold lh at hc;split at hc
  ·rename_i k hk;split at hc
   ·rename_i k' L;cases hc;exact DJ h L hk
   ·cases hc
  ·rename_i hd;split at hc
   ·rename_i hs;cases hc;exact DK h hs hd
   ·rename_i el hs;split at hc
    ·rename_i he;cases hc;exact DM h hs he hd
    ·cases hc
   ·cases hc
  ·repeat' (first|(cases hc;done)|split at hc)
   all_goals (cases A:Nat.beq s d<;>rw[A]at hc<;>cases hc)
  ·cases hc
 case makeInterface t x=>
  split at hc
  ·cases hc
  ·rename_i d hn hd;cases hc;exact DN h hd (fun m e=>hn m (by rw[<-e];first|done|exact hd))
  ·cases hc
 case makeFunc fn first a2=>
  cases fn<;>simp only at hc<;>(try(cases hc;done))
  split at hc
  ·rename_i G;cases hc;exact DO h G
  ·cases hc
 case makeMap t r=>cases r<;>cases hc
 case makeSlice t l c=>repeat' (first|(cases hc;done)|split at hc)
 case slice t x lo hi mx=>
  split at hc
  ·rename_i n el hu;cases mx with
   |none=>
    simp only at hc;split at hc
    ·rename_i s hs;obtain⟨i,D,rfl⟩:=lr hs;cases hc;exact DS h hu D
    ·cases hc
   |some m=>cases hc
  ·rename_i hu;cases mx with
   |none=>cases hc;exact DR h hu
   |some m=>cases hc
  ·rename_i el hu;split at hc
   ·rename_i s hs;obtain⟨i,D,rfl⟩:=lr hs;cases hm:(mx.isSome&&hi.isNone)with
    |true=>rw[hm]at hc;cases hc
    |false=>
     rw[hm]at hc;cases hc;refine DU h hu D (fun o=>?_);rw[o]at hm;cases hi with
     |none=>simp at hm
     |some _=>rfl
   ·cases hc
  ·cases hc
 case fieldAddr t x k=>
  split at hc
  ·rename_i fs hu;split at hc
   ·rename_i g j;split at hc
    ·rename_i n hn;cases hc;exact DV h hu j hn
    ·cases hc
   ·cases hc
  ·cases hc
 case field t x k=>
  split at hc
  ·rename_i fs hu;split at hc
   ·rename_i g j;split at hc
    ·rename_i n hn;cases hc;exact DW h hu j hn
    ·cases hc
   ·cases hc
  ·cases hc
 case indexAddr t x i=>
  split at hc
  ·rename_i n el hu;split at hc
   ·rename_i s hs;obtain⟨i,hi,rfl⟩:=lr hs;cases hc;exact DY h hu hi
   ·cases hc
  ·rename_i el hu;split at hc
   ·rename_i s hs;obtain⟨i,hi,rfl⟩:=lr hs;cases hc;exact DX h hu hi
   ·cases hc
  ·cases hc
 case index t x i=>
  split at hc
  ·rename_i hu;cases hc;exact DZ h hu
  ·rename_i len el hu;split at hc
   ·rename_i s hs;obtain⟨i,hi,rfl⟩:=lr hs;split at hc
    ·rename_i sh M;cases hc;exact D0 h hu hi M
    ·cases hc
   ·cases hc
  ·cases hc
 case lookup t x i ok=>
  split at hc
  ·rename_i k el hu;split at hc
   ·rename_i z hz;cases hq:c6 (a7 P k)with
    |false=>rw[hq]at hc;cases hc
    |true=>rw[hq]at hc;cases hc;exact Ef h hu hz hq
   ·cases hc
  ·cases hc
 case mapUpdate t m k v=>
  split at hc
  ·rename_i F el hu;cases hq:c6 (a7 P F)<;>rw[hq]at hc<;>cases hc
  ·cases hc
 case mapEntry t m k=>
  split at hc
  ·rename_i F el hu;split at hc
   ·cases hq:c6 (a7 P F)<;>rw[hq]at hc<;>cases hc
   ·cases hc
  ·cases hc
 case typeAssert x O t ok=>
  split at hc
  ·cases hc
  ·rename_i d hn hd;split at hc
   ·rename_i z hz;cases hc;exact D2 h hd (fun m e=>hn m (by rw[<-e];first|done|exact hd)) hz
   ·cases hc
  ·cases hc
 case extract x i=>cases hc;exact D1 h
 case call c=>
  split at hc
  ·rename_i b A;exact Eh h A hc
  ·rename_i g j;cases g<;>cases hc
  ·cases hc
 case defer c=>repeat' (first|(cases hc;done)|split at hc)
end Go.Ev
namespace Go.Ev
variable{U:AM} {w:World} {e:T V} {ρ:Operand->Value} {P:Program} {I:Oper}
def og (P:Program) (I:Oper) (f:T V->Option (ak×(Pa->V))):Prop:=
 ∀(U:AM) (w:World) (e:T V) (ρ:Operand->Value) (b:ak) (mk:Pa->V),gn U e ρ->f e=some (b,mk)->
  ∃c w' top md,(execOp ρ I).run P w=.ok (.value c) w'/\iQ w w'/\b.live=true/\b.r5=false/\
   ∀(ac:AM) (ls:List LE) (a:Pa),U.le ac->ac a=some ⟨w.heap.size,0,top,md⟩->BR P ac ls a b ⟨w.heap.size,0,top,md⟩ w'/\VR ac (mk a) c
theorem ky.Ei {l:List V} {cs:Array Value} (h:bd U l cs.toList):ky U l cs 0:=by
 refine⟨by have:=h.length;simp at this;omega,fun i v hv=>?_⟩;obtain⟨c,o,aj⟩:=h.get hv;exact⟨c,by simpa using o,aj⟩
theorem iQ.push (w:World) (ob:Obj):iQ w {w with heap:=w.heap.push ob}:=by
 refine⟨by simp,fun i hi=>?_,rfl,rfl,rfl,aB _⟩;simp only[Array.getElem?_push];rw[ab (by omega)]
theorem oh {t:TypeId} {cs:Array Value}:(newRow t cs).run P w=.ok ⟨w.heap.size,0,none⟩ {w with heap:=w.heap.push (.cells cs t)}:=by
 simp[newRow]
theorem sg {l:List V} {cs:Array Value} {t:TypeId} {ls:List LE} {a:Pa} (h:bd U l cs.toList):
 BR P U ls a (.cells l false) ⟨w.heap.size,0,cs.size,false⟩ {w with heap:=w.heap.push (.cells cs t)}:=
 ⟨cs,t,(0,0),by simp,rfl,.inl rfl,ky.Ei h,fun _=>aB 0⟩
theorem Ej {t:TypeId} {z:V} (ho:I.op=.alloc t) (hz:hF P t=some z):og P I fun _=>some (.cells z.cells false,fun a=>.ptr a 0):=by
 intro U w e ρ b mk o hv;cases hv;obtain⟨i,d,hi,h,rfl⟩:=pw hz;refine⟨_,_,d.cells.size,false,?_,iQ.push w _,rfl,rfl,fun ac ls a j ha=>⟨sg (t:=t) (lz d),.ptr a 0 _ ha⟩⟩;simp only[execOp,ho];exact b5 (by simp[Instr.alloc,iR hi h,newVar,oh])
theorem Ek {t:TypeId} {x:Operand} (ho:I.op=.box t x):og P I fun e=>bif aY ((cO x).ev e).cells then some (.cells ((cO x).ev e).cells false,fun a=>.ptr a 0)else none:=by
 intro U w e ρ b mk h hv;dsimp only at hv;cases hs:aY ((cO x).ev e).cells with
 |false=>rw[hs]at hv;cases hv
 |true=>
  rw[hs]at hv;cases hv;have hc:=uP (h x) hs;refine⟨_,_,(ρ x).cells.size,false,?_,iQ.push w _,rfl,rfl,fun ac ls a d ha=>⟨sg (t:=t) (hc.mono d),.ptr a 0 _ ha⟩⟩;simp only[execOp,ho];exact b5 (by simp[Instr.box,newVar,oh])
theorem El (z:List V) (n i:Nat) (h:i<n*z.length):(c5 z n)[i]? =z[i%z.length]? :=by
 induction n generalizing i with
 |zero=>simp at h
 |succ n d=>
  simp only[c5];by_cases hi:i<z.length
  ·rw[dt hi,qd hi]
  ·rw[db (by omega),d _ (by rw[iH]at h;omega)];rw[Nat.mod_eq_sub_mod (by omega:z.length<=i)]
theorem x4 (z:List V) (n:Nat):(c5 z n).length=n*z.length:=by
 induction n with
 |zero=>simp[c5]
 |succ n d=>simp[c5,d,iH,qn]
theorem si {z:List V} {d:Array Value} (hz:bd U z d.toList) (n:Nat):
 bd U (c5 z n) ((Array.range (n*z.length)).map (fun i=>d[i%d.size]!)).toList:=by
 have hl:=hz.length;simp at hl;refine bd.xC (by simp[x4]) fun i v hv=>?_;have hi:i<n*z.length:=by
  have:=(dS.1 hv).1
  rwa [x4]at this
 rw[El z n i hi]at hv;obtain⟨c,o,aj⟩:=hz.get hv;refine⟨c,?_,aj⟩;have h:d[i%d.size]? =some c:=by rw[<-hl];simpa using o
 have:d[i%d.size]! =c:=by rw[getElem!_def,h]
 simp[hi,this]
theorem Em {t:TypeId} {i:TypeInfo} {d:Value} {el:TypeId} {len:Nat} {ps:Array (Nat×Operand)} {l:List (Nat×Nat×Od)} (ho:I.op=.buildSlice t len ps)
 (ht:P.underlying t=some (.slice el)) (hi:P.info? el=some i) (hz:i.zero=some d) (hlen:len*i.size<=16777216) (O:(dd d).cells.length=i.size)
 (hl:hW (fun j=>some (j*i.size,i.size)) ps.toList=some l):
 og P I fun e=>match gN e l (c5 (dd d).cells len)with
  |some l=>bif aY l then some (.cells l false,fun a=>.sl a 0 len (.ex len))else none
  |none=>none:=by
 intro U w e ρ b mk R hv;dsimp only at hv;cases h:gN e l (c5 (dd d).cells len)with
 |none=>rw[h]at hv;cases hv
 |some l'=>
  rw[h]at hv;dsimp only at hv;cases hs:aY l' with
  |false=>rw[hs]at hv;cases hv
  |true=>
   rw[hs]at hv;cases hv;have Q:bd U (dd d).cells d.cells.toList:=lz d;have B:=si Q len;rw[O]at B;obtain⟨o,D,k2⟩:=sf R ps.toList l _ l' _ hl h B;refine⟨_,_,o.toArray.size,false,?_,iQ.push w (.cells o.toArray el),rfl,rfl,fun ac ls a L ha=>⟨sg (t:=el) (by simpa using k2.mono L),.sl a 0 len _ _ len ha (aB _) rfl⟩⟩;simp only[execOp,ho];refine b5 ?_;have G:¬(len*i.size>2^24):=by omega
   have A:∀z0:Array Value,((Array.range (len*i.size)).map (fun i=>z0[i%z0.size]!))=((Array.range (len*i.size)).map (fun i=>d.cells[i%d.cells.size]!))->
    Instr.fill (fun j=>some (j*i.size,i.size)) ((Array.range (len*i.size)).map (fun i=>z0[i%z0.size]!)) (ps.map fun(p:Nat×Operand)=>(p.1,ρ p.2)).toList=some o.toArray:=by
    intro z0 M;have F:(ps.map fun(p:Nat×Operand)=>(p.1,ρ p.2)).toList=ps.toList.map fun p=>(p.1,ρ p.2):=by simp
    rw[nS]at D;rw[M,F];exact D
   simp only[Instr.buildSlice,Sem.run_bind,bk ht,Result.andThen_ok,fv hi,ab G];by_cases h0:len*i.size=0
   ·simp only[h0,if_true];have:=A #[] (by rw[h0];simp);rw[h0]at this;simp only[this,Sem.run_bind,oh,Result.andThen_ok,Sem.run_pure]
   ·simp only[h0,if_false,Sem.run_bind,iR hi hz,Result.andThen_ok,Sem.run_pure];simp only[A d.cells rfl,Sem.run_bind,oh,Result.andThen_ok,Sem.run_pure]
theorem En {t:TypeId} (ho:I.op=.makeMap t none):og P I fun _=>some (.map [] 0,fun a=>.map a):=by
 intro U w e ρ b mk h hv;cases hv;refine⟨.map (some w.heap.size),_,0,false,?_,iQ.push w (.map #[] 0),rfl,rfl,fun ac ls a d ha=>⟨⟨#[],by simp,rfl,fun i t ht=>by simp at ht⟩,.map a _ ha⟩⟩;simp only[execOp,ho];exact b5 (by simp[Instr.makeMap])
theorem Eo {t el:TypeId} {i:TypeInfo} {d:Value} {x y:Operand} (ho:I.op=.makeSlice t x y) (ht:P.underlying t=some (.slice el)) (hi:P.info? el=some i) (hz:i.zero=some d)
 (Y:(dd d).cells.length=i.size):
 og P I fun e=>match gj ((cO x).ev e)with
  |some l=>match gj ((cO y).ev e)with
   |some c=>bif Nat.ble l c&&(Nat.ble c 281474976710656&&Nat.ble (i.bytes*c) 281474976710656)then some (.cells (c5 (dd d).cells c) false,fun a=>.sl a 0 l (.ex c))else none
   |none=>none
  |none=>none:=by
 intro U w e ρ b mk G hv;dsimp only at hv;have nat:∀{a:V} {c:Value} {n:Nat},VR U a c->gj a=some n->∃k,c=.int k (.ofNat n):=by
  intro a c n Q hn;cases a with
  |int k j=>
   cases j with
   |ofNat j=>simp[gj]at hn;subst hn;cases Q;exact⟨k,rfl⟩
   |negSucc j=>simp[gj]at hn
  |_=>simp[gj]at hn
 cases hx:gj ((cO x).ev e)with
 |none=>rw[hx]at hv;cases hv
 |some l=>
  rw[hx]at hv;dsimp only at hv;cases B:gj ((cO y).ev e)with
  |none=>rw[B]at hv;cases hv
  |some c=>
   rw[B]at hv;dsimp only at hv;cases h:(Nat.ble l c&&(Nat.ble c 281474976710656&&Nat.ble (i.bytes*c) 281474976710656))with
   |false=>rw[h]at hv;cases hv
   |true=>
    rw[h]at hv;cases hv;simp only[be]at h;obtain⟨o,aj,D⟩:=h;have o:=eT o;have aj:=eT aj;have D:=eT D;obtain⟨ah,S⟩:=nat (G x) hx;obtain⟨ai,W⟩:=nat (G y) B;have F:=si (lz (U:=U) d) c;rw[Y]at F;refine⟨.slice (some ⟨w.heap.size,0,none⟩) l c,_,((Array.range (c*i.size)).map (fun j=>d.cells[j%d.cells.size]!)).size,false,?_,iQ.push w (.cells ((Array.range (c*i.size)).map (fun j=>d.cells[j%d.cells.size]!)) el),rfl,rfl,
     fun ac ls a R ha=>⟨sg (t:=el) (F.mono R),.sl a 0 l _ _ c ha o rfl⟩⟩
    simp only[execOp,ho];refine b5 ?_;have wl:IntKind.i64.wrap (Int.ofNat l)=Int.ofNat l:=r6 .i64 l (show l<=9223372036854775807 by omega);have ag:IntKind.i64.wrap (Int.ofNat c)=Int.ofNat c:=r6 .i64 c (show c<=9223372036854775807 by omega);have L:decide (Int.ofNat c<0)=false:=decide_eq_false (by simp);have M:decide ((i.bytes:Int)*Int.ofNat c>2^48)=false:=decide_eq_false (by
     have A:(i.bytes:Int)*Int.ofNat c=((i.bytes*c:Nat):Int):=(Int.natCast_mul _ _).symm;rw[A];omega)
    have a3:decide (Int.ofNat l<0)=false:=decide_eq_false (by simp);have a4:decide (Int.ofNat l>Int.ofNat c)=false:=decide_eq_false (by simpa using o);have Z:¬((decide (Int.ofNat c<0)||decide ((i.bytes:Int)*Int.ofNat c>2^48))||decide (Int.ofNat l<0)||decide (Int.ofNat l>Int.ofNat c))=true:=by
     rw[L,M,a3,a4];decide
    simp only[Instr.makeSlice,Sem.run_bind,bk ht,Result.andThen_ok,asInt,asIntOf,S,W,Sem.run_pure,nq hi,wl,ag,ab Z,run_askRoom,fv hi];have A:(Int.ofNat c).toNat=c:=rfl;have O:(Int.ofNat l).toNat=l:=rfl;rw[A,O];by_cases h0:c*i.size=0
    ·have z0:Array.range 0=#[]:=rfl;rw[ae h0,h0,z0];simp[newRow]
    ·rw[ab h0];simp[newRow,iR hi hz]
theorem uT (q:Question) (h:q.forced=false):(choose q).run P w=.ok (q.cut (w.tape w.drawn q)) {w with drawn:=w.drawn+1}:=by
 simp[h]
theorem Ep {b off:Nat} {cs:Array Value} {el:TypeId} (d:w.heap[b]? =some (.cells cs el (0,0))):
 (w.freeze ⟨b,off,none⟩ 1).heap[b]? =some (.cells cs el (off,off+1)):=by
 unfold World.freeze;rw[ab (by decide)];simp only[mX,d,if_true];simp
theorem x5 {b off i:Nat} (h:i≠b):(w.freeze ⟨b,off,none⟩ 1).heap[i]? =w.heap[i]? :=by
 unfold World.freeze;rw[ab (by decide)];simp only[mX];rw[ab (fun e=>h e.symm)]
theorem x6 {b off:Nat}:(w.freeze ⟨b,off,none⟩ 1).heap.size=w.heap.size:=by
 unfold World.freeze;rw[ab (by decide)];simp
theorem qF (w:World) (a:Addr) (n:Nat):jy w (w.freeze a n):=by
 unfold World.freeze;split<;>exact⟨rfl,rfl,rfl,aB _⟩
theorem Er {S O el:TypeId} {x:Operand} (ho:I.op=.convert S O x) (hs:P.underlying S=some .string) (hd:P.underlying O=some (.slice el)) (he:P.underlying el=some (.int .u8)):
 og P I fun e=>match(cO x).ev e with
  |.str s=>some (.cells (s.map cz) false,fun a=>.sl a 0 s.length (.un 1))
  |_=>none:=by
 intro U w e ρ b mk ai hv;dsimp only at hv;have hx:=ai x;generalize (cO x).ev e=a at hx hv;cases a<;>simp only at hv<;>(try(cases hv;done))
 cases hv;generalize hc:ρ x=d at hx;cases hx with
 |str s=>
  obtain⟨cap,R⟩:∃cap,cap=(Question.appendCap s.size 0 el).cut (w.tape w.drawn (.appendCap s.size 0 el)):=⟨_,rfl⟩
  have Y:s.size<=cap:=by rw[R];exact qe _ _
  obtain⟨cs,M⟩:∃cs:Array Value,cs=(s.data.map fun b=>.int .u8 b.toNat)++Array.replicate (cap-s.size) (.int .u8 0):=⟨_,rfl⟩
  have L:cs.size=cap:=by
   have:s.data.size=s.size:=rfl;rw[M];simp only[rT,Array.size_map,Array.size_replicate,this];omega
  obtain⟨D,B⟩:∃D:World,D={w with drawn:=w.drawn+1}:=⟨_,rfl⟩
  obtain⟨A,j⟩:∃A:World,A={D with heap:=D.heap.push (.cells cs el)}:=⟨_,rfl⟩
  have F:D.heap=w.heap:=by rw[B]
  have ag:A.heap.size=w.heap.size+1:=by rw[j,F];simp
  have Q:A.heap[w.heap.size]? =some (.cells cs el (0,0)):=by rw[j,F];simp
  have ah:(A.freeze ⟨w.heap.size,cap,none⟩ 1).heap[w.heap.size]? =some (.cells cs el (cap,cap+1)):=Ep Q;have Z:iQ w (A.freeze ⟨w.heap.size,cap,none⟩ 1):=by
   refine⟨by rw[x6,ag],fun i hi=>?_,?_⟩
   case refine_2=>exact⟨by rw[(qF _ _ _).1,j,B],by rw[(qF _ _ _).2.1,j,B],by rw[(qF _ _ _).2.2.1,j,B],fL (by rw[j,B];exact ks _) (qF _ _ _).2.2.2⟩
   rw[x5 (by omega),j,F,Array.getElem?_push,ab (by omega)]
  refine⟨.slice (some ⟨w.heap.size,0,none⟩) s.size cap,_,cap,true,?_,Z,rfl,rfl,fun ac ls a aj ha=>⟨⟨cs,el,(cap,cap+1),ah,L,.inr (by rw[L];exact aB _),?_,fun h=>by cases h⟩,?_⟩⟩
  ·simp only[execOp,ho,hc];refine b5 ?_;have hm:A.shape? w.heap.size=some (el,cap):=by
    simp[World.shape?,Q,L]
   simp only[convert,Sem.run_bind,bk hs,bk hd,Result.andThen_ok,bk he,Conv.stringToBytes];rw[uT _ rfl,<-R,<-B,Result.andThen_ok,<-M,oh,Result.andThen_ok,<-j,F];simp only[markStringish,Sem.run_bind,run_shape,Result.andThen_ok,hm,run_freeze,Sem.run_pure]
  ·refine⟨by rw[hS,mh,L];show 0+s.size<=cap;omega,fun i v hv=>?_⟩;rw[k1]at hv;cases G:s.data.toList[i]? with
   |none=>rw[G]at hv;cases hv
   |some b=>
    rw[G]at hv;cases hv;have hi:i<s.data.toList.length:=(dS.1 G).1;have ae:i<s.data.size:=by simpa using hi
    refine⟨.int .u8 b.toNat,?_,.int _ _⟩;have W:s.data[i]? =some b:=by simpa using G
    rw[M,eV,p7 (by simpa using ae),Array.getElem?_map,W];(try rfl)
  ·have o:=VR.sl (U:=ac) a 0 s.size (.un 1) _ cap ha Y (by simp[iN])
   rwa [<-mh s]at o
theorem x7 {f:T V->Option (ak×(Pa->V))} (hc:cm P I.op=.cY f):og P I f:=by
 cases h:I.op<;>rw[h]at hc<;>simp only[cm]at hc<;>(try(cases hc;done))
 case alloc t=>
  split at hc
  ·rename_i z hz;cases hc;exact Ej h hz
  ·cases hc
 case box t x=>cases hc;exact Ek h
 case build t ps=>repeat' (first|(cases hc;done)|split at hc)
 case buildSlice t len ps=>
  split at hc
  ·rename_i i hi;unfold elemOf? at hi;split at hi
   ·rename_i el hu;split at hc
    ·rename_i z hz;split at hc
     ·rename_i hlen;split at hc
      ·rename_i l hl;cases hc;exact Em h hu hi hz hlen.1 hlen.2 hl
      ·cases hc
     ·cases hc
    ·cases hc
   ·cases hi
  ·cases hc
 case load t a=>split at hc<;>cases hc
 case store t a v=>split at hc<;>cases hc
 case binOp op t x y G=>
  split at hc
  ·cases A:(eo x||eo y)<;>rw[A]at hc<;>cases hc
  ·cases hc
 case convert s d x=>
  unfold lh at hc;split at hc
  ·repeat' (first|(cases hc;done)|split at hc)
  ·repeat' (first|(cases hc;done)|split at hc)
  ·rename_i el hd;split at hc
   ·rename_i hs;split at hc
    ·rename_i he;cases hc;exact Er h hs hd he
    ·cases hc
   ·cases j:Nat.beq s d with
    |false=>rw[j]at hc;cases hc
    |true=>
     rw[j]at hc;simp only[aE]at hc;split at hc<;>cases hc
   ·cases hc
  ·cases hc
 case makeInterface t x=>repeat' (first|(cases hc;done)|split at hc)
 case makeFunc fn first a2=>
  cases fn<;>simp only at hc<;>(try(cases hc;done))
  repeat' (first|(cases hc;done)|split at hc)
 case makeMap t r=>
  cases r with
  |none=>cases hc;exact En h
  |some r=>cases hc
 case makeSlice t l c=>
  split at hc
  ·rename_i i hi;unfold elemOf? at hi;split at hi
   ·rename_i el hu;split at hc
    ·rename_i z hz;split at hc
     ·rename_i B;cases hc;exact Eo h hu hi hz B
     ·cases hc
    ·cases hc
   ·cases hi
  ·cases hc
 case slice t x lo hi mx=>
  split at hc
  ·cases mx with
   |none=>simp only at hc;split at hc<;>cases hc
   |some m=>cases hc
  ·cases mx<;>cases hc
  ·split at hc
   ·cases hm:(mx.isSome&&hi.isNone)<;>rw[hm]at hc<;>cases hc
   ·cases hc
  ·cases hc
 case fieldAddr t x k=>repeat' (first|(cases hc;done)|split at hc)
 case field t x k=>repeat' (first|(cases hc;done)|split at hc)
 case indexAddr t x i=>repeat' (first|(cases hc;done)|split at hc)
 case index t x i=>repeat' (first|(cases hc;done)|split at hc)
 case lookup t x i ok=>
  split at hc
  ·rename_i k el hu;split at hc
   ·cases hq:c6 (a7 P k)<;>rw[hq]at hc<;>cases hc
   ·cases hc
  ·cases hc
 case mapUpdate t m k v=>
  split at hc
  ·rename_i o el hu;cases hq:c6 (a7 P o)<;>rw[hq]at hc<;>cases hc
  ·cases hc
 case mapEntry t m k=>
  split at hc
  ·rename_i o el hu;split at hc
   ·cases hq:c6 (a7 P o)<;>rw[hq]at hc<;>cases hc
   ·cases hc
  ·cases hc
 case typeAssert x F t ok=>repeat' (first|(cases hc;done)|split at hc)
 case call c=>
  split at hc
  ·rename_i b j;cases b<;>simp only[kx]at hc<;>(try(cases hc;done))<;>repeat' (first|(cases hc;done)|split at hc)
  ·rename_i g D;cases g<;>cases hc
  ·cases hc
 case defer c=>repeat' (first|(cases hc;done)|split at hc)
end Go.Ev
namespace Go.Ev
variable{C:Cx} {U:AM} {Λ:Pa->Prop} {h:Hp} {ls:List LE} {w:World} {e:T V} {ρ:Operand->Value}
variable{P:Program} {I:Oper}
def x8 (n:Next) (c:Value):Prop:=n=.value c\/(n=.skip/\c=undef)
def lA (P:Program) (I:Oper) (f:T V->Hp->Option (V×Hp)):Prop:=
 ∀(C:Cx) (U:AM) (Λ:Pa->Prop) (h:Hp) (ls:List LE) (w:World) (e:T V) (ρ:Operand->Value) (v:V) (h':Hp),C.P=P->aS C U Λ h ls w->gn U e ρ->f e h=some (v,h')->
  ∃n c w' ac d,(execOp ρ I).run P w=.ok n w'/\x8 n c/\U.le ac/\aS C ac d h' ls w'/\VR ac v c/\
   (∀a,U a=none->ac a≠none->h.next.toNat<=a.toNat)/\h.next.toNat<=h'.next.toNat
theorem Es {v:V} {c:Value} (h:VR U v c) (hs:isScalar v=true):c.oneCell'=true:=by
 cases h<;>first|rfl|(simp[isScalar]at hs;done)
theorem Et (w:World) (b off:Nat) (v:Value) {cs:Array Value} {el:TypeId} {fr:Nat×Nat} (d:w.heap[b]? =some (.cells cs el fr)):
 (w.setCell ⟨b,off,none⟩ v).heap[b]? =some (.cells (cs.setIfInBounds off v) el fr)/\gx w (w.setCell ⟨b,off,none⟩ v) b:=by
 unfold World.setCell;refine⟨by simp only[mX,d,if_true];simp,by simp,fun i hi=>?_,rfl,rfl,rfl,aB _⟩;simp only[mX];rw[ab (fun e=>hi e.symm)]
theorem x9 {w:World} {b off:Nat} {cs:Array Value} {el:TypeId} {fr:Nat×Nat} (d:w.heap[b]? =some (.cells cs el fr)) (hq:quietAt cs.size fr) (ho:off<cs.size):
 w.frozen? ⟨b,off,none⟩=false:=by
 obtain⟨lo,hi⟩:=fr;simp only[World.frozen?,d];rcases hq with o|o
 ·simp only at o;rw[iF];by_cases aj:lo<=off
  ·exact .inr (decide_eq_false (by omega))
  ·exact .inl (decide_eq_false aj)
 ·simp only at o;rw[iF];exact .inl (decide_eq_false (by omega))
theorem uU (b base:Nat) (el:TypeId) (fr:Nat×Nat):∀(xs:List V) (xc:List Value) (i:Nat) (w:World) (cs:Array Value),bd U xs xc->aY xs=true->
 w.heap[b]? =some (.cells cs el fr)->quietAt cs.size fr->base+i+xc.length<=cs.size->
 ∃w' cs',(storeCells ⟨b,base,none⟩ xc i).run P w=.ok () w'/\w'.heap[b]? =some (.cells cs' el fr)/\gx w w' b/\cs'.size=cs.size/\
  ∀j:Nat,cs'[j]? =if base+i<=j/\j<base+i+xc.length then xc[j-(base+i)]? else cs[j]?
 |[],xc,i,w,cs,hx,hs,d,hq,hl=>by
  cases hx;refine⟨w,cs,rfl,d,.refl _ _,rfl,fun j=>?_⟩;rw[ab (by simp)]
 |v::xs,_,i,w,cs,.cons _ c _ xc hv D,hs,d,hq,hl=>by
  simp only[aY]at hs;cases A:isScalar v with
  |false=>simp[A]at hs
  |true=>
   simp only[A,aE]at hs;simp only[b7]at hl;have h:base+i<cs.size:=by omega
   obtain⟨O,Q⟩:=Et w b (base+i) c d;have B:∃u,w.cell? ⟨b,base+i,none⟩=some u:=⟨cs[base+i],uC d (by simp[h])⟩
   obtain⟨u,hu⟩:=B;obtain⟨w',cs',F,G,I,L,M⟩:=uU b base el fr xs xc (i+1) _ _ D hs O (by simpa using hq) (by simp;omega);refine⟨w',cs',?_,G,Q.trans I,by simpa using L,fun j=>?_⟩
   ·simp only[storeCells,Sem.run_bind,lu,run_store P w _ c _ (Es hv A),hu,x9 d hq h,l1,if_false,Result.andThen_ok,F]
   ·rw[M j];by_cases o:base+(i+1)<=j/\j<base+(i+1)+xc.length
    ·rw[ae o,ae (by simp;omega)];have:j-(base+i)=(j-(base+(i+1)))+1:=by omega
     rw[this];simp
    ·rw[ab o];by_cases aj:j=base+i
     ·subst aj;rw[ae (by simp),mU h];simp
     ·rw[ab (by simp;omega),kZ (by omega)]
theorem aS.cG (s:aS C U Λ h ls w) {a:Pa} {L:Loc} (ha:U a=some L) {off:Nat} {xs:List V} {xc:List Value} {h':Hp} (hx:bd U xs xc) (j:h.cG a off xs=some h'):
 ∃w',(storeCells ⟨L.aw,L.base+off,none⟩ xc).run P w=.ok () w'/\aS C U Λ h' ls w'/\h'.next=h.next:=by
 unfold bn.cG at j;cases A:h.get a with
 |none=>simp[A]at j
 |some b=>
  cases b with
  |cells l d=>
   simp only[A]at j;cases d with
   |true=>simp at j
   |false=>
    simp only[bw]at j;cases hs:aY xs with
    |false=>simp[hs]at j
    |true=>
     simp only[hs,aE]at j;cases ch:cT off l xs with
     |none=>simp[ch]at j
     |some l'=>
      simp only[ch,aL]at j;subst j;have F:Λ a:=by
       rcases s.live a L _ ha A with o|⟨m,o⟩
       ·exact o
       ·cases o
      obtain⟨b',o,aj⟩:=s.aw a L ha F;rw[A]at o;cases o;obtain⟨cs,el,fr,Q,k2,G,⟨ah,I⟩,R⟩:=aj;obtain⟨ag,D⟩:=qB ch;have hlen:=hx.length;obtain⟨w',cs',S,W,Y,Z,ac⟩:=uU (P:=P) L.aw (L.base+off) el fr xs xc 0 w cs hx hs Q G (by omega);refine⟨w',S,s.oe ha F A rfl rfl Y ⟨cs',el,fr,W,by omega,by rw[Z];exact G,?_,R⟩,rfl⟩;have O:l'.length=l.length:=by rw[D];simp;omega
      refine⟨by omega,fun i v hv=>?_⟩;rw[ac];rw[D]at hv;have hi:i<l.length:=by
       have:=(dS.1 hv).1;rw[<-D,O]at this;exact this
      by_cases eH:i<off
      ·rw[ab (by omega)];rw[bp,dt (by simp;omega),rM eH]at hv;exact I i v hv
      ·by_cases Pf:i<off+xs.length
       ·rw[ae (by omega)];rw[bp,db (by simp;omega),dt (by simp;omega)]at hv;have B:i-(l.take off).length=i-off:=by simp;omega
        rw[B]at hv;have M:L.base+i-(L.base+off+0)=i-off:=by omega
        rw[M];exact hx.get hv
       ·rw[ab (by omega)];rw[db (by simp;omega),gJ]at hv;have B:off+xs.length+(i-(List.take off l++xs).length)=i:=by simp;omega
        rw[B]at hv;exact I i v hv
  |ro l=>simp[A]at j
  |map es c=>simp[A]at j
  |loop r=>simp[A]at j
  |c4 l=>simp[A]at j
theorem ya {a:Pa} {off:Nat} {h':Hp} (j:h.cG a off []=some h'):∃l,h.get a=some (.cells l false)/\h'=h.put a (.cells l false):=by
 unfold bn.cG at j;cases o:h.get a with
 |none=>simp[o]at j
 |some b=>
  cases b<;>simp only[o]at j<;>(try(cases j;done))
  rename_i l d;cases d<;>simp[aY]at j
  cases ch:cT off l []with
  |none=>simp[ch]at j
  |some l'=>
   simp only[ch,aL]at j;obtain⟨_,A⟩:=qB ch;refine⟨l,rfl,?_⟩;rw[<-j,A];simp
theorem yb {a:Pa} {off:Nat} {h':Hp} (d:h.cG a off []=some h'):h'.next=h.next:=by
 obtain⟨l,_,rfl⟩:=ya d;rfl
theorem aS.again (s:aS C U Λ h ls w) {a:Pa} {l:List V} {d:Bool} (B:h.get a=some (.cells l false)):aS C U Λ (h.put a (.cells l d)) ls w:=by
 have D:∀x,(h.put a (.cells l d)).get x=if a=x then some (.cells l d)else h.get x:=fun x=>by simp[bn.put,bn.get,T.ft]
 refine⟨s.fQ,fun x M hx F=>?_,s.inj,fun x M c hx A=>?_,fun x M c hx F A hr=>?_,s.low,s.size,s.still,fun x hx=>?_,s.gS⟩
 ·obtain⟨c,o,aj⟩:=s.aw x M hx F;by_cases j:a=x
  ·subst j;rw[B]at o;cases o;exact⟨.cells l d,by rw[D];simp,aj⟩
  ·exact⟨c,by rw[D];simp[j,o],aj⟩
 ·by_cases j:a=x
  ·subst j;rcases s.live a M _ hx B with o|⟨m,o⟩
   ·exact .inl o
   ·cases o
  ·rw[D]at A;simp only[j,if_false]at A;exact s.live x M c hx A
 ·by_cases j:a=x
  ·subst j;exact s.wr a M _ hx F B rfl
  ·rw[D]at A;simp only[j,if_false]at A;exact s.wr x M c hx F A hr
 ·rw[D];by_cases j:a=x
  ·subst j;rw[s.fresh a hx]at B;cases B
  ·simp only[j,if_false];exact s.fresh x hx
theorem aS.yc (s:aS C U Λ h ls w) {a:Pa} {off:Nat} {h':Hp} (j:h.cG a off []=some h'):aS C U Λ h' ls w:=by
 obtain⟨l,d,rfl⟩:=ya j;exact s.again d
theorem Eu {a:Pa} {off:Nat} {xs:List V} {h':Hp} (j:h.cG a off xs=some h'):aY xs=true:=by
 unfold bn.cG at j;cases o:h.get a with
 |none=>simp[o]at j
 |some b=>
  cases b<;>simp only[o]at j<;>(try(cases j;done))
  rename_i l d;cases d<;>simp at j
  cases hs:aY xs with
  |false=>simp[hs]at j
  |true=>rfl
theorem om (U:AM):VR U cV undef:=.aN [] [] .nil
theorem Ew {t:TypeId} {a x:Operand} {n:Nat} (ho:I.op=.store t a x) (hn:fb P t=some n):
 lA P I fun e h=>match(cO a).ev e with
  |.ptr b off=>bif Nat.beq ((cO x).ev e).cells.length n then oH cV (h.cG b off ((cO x).ev e).cells)else none
  |_=>none:=by
 intro C U Λ h ls w e ρ v h' Q s D hv;dsimp only at hv;obtain⟨i,hi,R⟩:=lr hn;have hx:=D a;generalize (cO a).ev e=p at hx hv;cases p<;>simp only at hv<;>(try(cases hv;done))
 rename_i b off;cases A:Nat.beq ((cO x).ev e).cells.length n with
 |false=>simp[A]at hv
 |true=>
  simp only[A,aE]at hv;cases j:h.cG b off ((cO x).ev e).cells with
  |none=>simp[j,oH]at hv
  |some o=>
   simp only[j,oH,aL,dH]at hv;obtain⟨rfl,rfl⟩:=hv;have B:=uP (D x) (Eu j);have S:=dG A;generalize hc:ρ a=d at hx;cases hx with
   |ptr _ _ L ha=>
    obtain⟨w',G,M,O⟩:=s.cG (P:=P) ha B j;refine⟨.skip,undef,w',U,Λ,?_,.inr ⟨rfl,rfl⟩,AM.le_refl U,M,om U,fun a o aj=>absurd o aj,by rw[O];exact aB _⟩;simp only[execOp,ho,hc];refine uI ?_;have F:¬((ρ x).cells.size≠i.size):=by
     have o:=B.length;have aj:(ρ x).cells.size=(ρ x).cells.toList.length:=by simp
     omega
    simp only[Instr.storeAt,Instr.sureAddr,Sem.run_bind,Sem.run_pure,Result.andThen_ok,storeVar,fv hi,ab F,G]
theorem yd {x:V} {c:Value} (hx:VR U x c) {n:Nat} (hn:hU x=some n):(Builtin.lenOf c).run P w=.ok n w:=by
 cases x<;>simp only[hU]at hn<;>(try(cases hn;done))
 ·rename_i s;cases hn;cases hx with
  |str s=>rw[mh];(try rfl)
 ·cases hn;cases hx<;>rfl
 ·rename_i k;cases k<;>simp only at hn<;>(try(cases hn;done))
  cases hn;cases hx;rfl
theorem ye (s:aS C U Λ h ls w) {x:V} {c:Value} (hx:VR U x c) {am n:Nat} {xs:List V} (hs:iK h am n x=some xs) (hn:∀a I m A,x=.sl a I m A->n<=m):
 ∃xc:List Value,bd U xs xc/\xc.length=n*am/\∀j:World,j.heap=w.heap->(Builtin.firstCells am n c).run P j=.ok xc.toArray j:=by
 cases x<;>simp only[iK]at hs<;>(try(cases hs;done))
 ·rename_i l;cases d:Nat.beq am 1 with
  |false=>simp[d]at hs
  |true=>
   have:=dG d;subst this;simp only[d,aE]at hs;cases hx with
   |str s=>
    cases ht:takeN n s.data.toList with
    |none=>simp[ht]at hs
    |some r=>
     simp only[ht,aL]at hs;subst hs;obtain⟨o,aj⟩:=od ht;refine⟨((s.extract 0 n).data.map fun b=>.int .u8 b.toNat).toList,?_,?_,fun j _=>?_⟩
     ·have:(s.extract 0 n).data.toList=r:=by rw[sb,aj];simp
      rw[qg,this];clear aj this ht o
      induction r with
      |nil=>exact .nil
      |cons b r F=>exact .cons _ _ _ _ (.int _ _) F
     ·have:(s.extract 0 n).data.toList=r:=by rw[sb,aj];simp
      rw[qg,this,aj];simp;rw[mh]at o;omega
     ·rw[nS];(try rfl)
 ·rename_i a I m A;cases hx with
  |sl _ _ _ _ L capC ha o aj=>
   obtain⟨cs,G,k2,M⟩:=s.uD (P:=P) ha hs;exact⟨cs,k2,G,M⟩
  |de _ _ _ bV hc=>
   have:n=0:=Nat.le_zero.1 (hn a I 0 A rfl);subst this;have D:xs=[]:=by
    unfold bn.b1 at hs;cases B:h.cells a with
    |none=>simp[B]at hs
    |some m=>simp[B,takeN]at hs;exact hs
   subst D;exact⟨[],.nil,by simp,fun j _=>by simp[Builtin.firstCells,loadCells,loadCellsFrom]⟩
 ·rename_i k;cases k<;>simp only at hs<;>(try(cases hs;done))
  cases d:Nat.beq n 0 with
  |false=>simp[d]at hs
  |true=>
   have:=dG d;subst this;simp only[d,aE,aL]at hs;subst hs;cases hx;exact⟨[],.nil,by simp,fun j _=>by simp[Builtin.firstCells]⟩
theorem Ex (s:aS C U Λ h ls w) {x:V} {c:Value} (hx:VR U x c) {am n:Nat} {xs:List V} (hs:iK h am n x=some xs) (hn:∀a I m d,x=.sl a I m d->n<=m):
 ∃xc:List Value,bd U xs xc/\xc.length=n*am/\(Builtin.firstCells am n c).run P w=.ok xc.toArray w:=
 let⟨xc,o,aj,j⟩:=ye (P:=P) s hx hs hn
 ⟨xc,o,aj,j w rfl⟩
theorem Ey {x:V} {c:Value} {am k:Nat} (hx:VR U x c) (hk:hU x=some k):(Builtin.firstCells am 0 c).run P w=.ok #[] w:=by
 cases x<;>simp only[hU]at hk<;>(try(cases hk;done))
 ·cases hx with
  |str s=>
   have:(s.extract 0 0).data.toList=[]:=by rw[sb];simp
   have aj:(s.extract 0 0).data=#[]:=by rw[<-nS (xs:=(s.extract 0 0).data),this]
   simp only[Builtin.firstCells,aj];simp
 ·cases hx<;>simp[Builtin.firstCells,loadCells,loadCellsFrom]
 ·rename_i q;cases q<;>simp only at hk<;>(try(cases hk;done))
  cases hx;simp[Builtin.firstCells]
theorem uV {c:Call} {y z:Operand} (ha:c.args.toList=[y,z]):c.args=#[y,z]:=by
 rw[<-nS (xs:=c.args),ha]
theorem sj {t:TypeId} {i:TypeInfo} (h:elemOf? P t=some i):∃el,P.underlying t=some (.slice el)/\P.info? el=some i:=by
 unfold elemOf? at h;split at h
 ·exact⟨_,by assumption,h⟩
 ·cases h
theorem Ez {c:Call} {y z:Operand} {t:TypeId} {i:TypeInfo} (ho:I.op=.call c) (hc:c.callee=.builtin .copy) (ha:c.args.toList=[y,z]) (ht:c.argTypes[0]? =some t)
 (hi:elemOf? P t=some i):lA P I fun e h=>qw h i.size ((cO y).ev e) ((cO z).ev e):=by
 intro C U Λ h ls w e ρ v h' al s R hv;dsimp only at hv;obtain⟨el,hu,D⟩:=sj hi;have hx:=R y;have hz:=R z;generalize (cO y).ev e=d at hx hv;generalize (cO z).ev e=W at hz hv;unfold qw at hv;cases hk:hU W with
 |none=>simp[hk]at hv
 |some k=>
  simp only[hk]at hv;have hlen:=yd (P:=P) (w:=w) hz hk;suffices hs:∃n j w',(Builtin.copy_ c.argTypes I.type #[ρ y,ρ z]).run P w=.ok j w'/\n=Next.value j/\aS C U Λ h' ls w'/\VR U v j/\h'.next=h.next by
   obtain⟨n,j,w',M,B,O,ag,ah⟩:=hs;refine⟨n,j,w',U,Λ,?_,.inl B,AM.le_refl U,O,ag,fun a o aj=>absurd o aj,by rw[ah];exact aB _⟩;simp only[execOp,ho];obtain⟨an,ab⟩:=ns (P:=P) (w:=w) (ρ:=ρ) (ty:=I.type) hc;rw[ab,uV ha,B];simp only[builtin,l4,eD,l6];exact b5 M
  cases d<;>simp only at hv<;>(try(cases hv;done))
  ·rename_i a off m ai;cases F:iK h i.size (Nat.min k m) W with
   |none=>simp[F]at hv
   |some xs=>
    simp only[F]at hv;cases A:h.cG a off xs with
    |none=>simp[A,oH]at hv
    |some o=>
     simp only[A,oH,aL,dH]at hv;obtain⟨rfl,rfl⟩:=hv;obtain⟨xc,G,ae,S⟩:=Ex (P:=P) s hz F (fun a' ao m' ak Y=>by
      subst Y;simp[hU]at hk;subst hk;exact Nat.min_le_left _ _)
     generalize hd:ρ y=mi at hx;cases hx with
     |sl _ _ _ _ L capC ha o aj=>
      obtain⟨w',M,B,O⟩:=s.cG (P:=P) ha G A;refine⟨_,goInt (Nat.min k m),w',?_,rfl,B,.int _ _,O⟩;simp only[Builtin.copy_,ht,mW,gd,dF,Sem.run_bind,bk hu,Result.andThen_ok,hlen,fv D,S,M,Sem.run_pure]
     |de _ _ _ bV am=>
      have:xs=[]:=by
       have:=G.length;rw[ae]at this;simp at this;exact this
      subst this;have Q:h.cG a off []=some o:=A;have ac:xc=[]:=by cases G;rfl
      subst ac;refine⟨_,goInt (Nat.min k 0),w,?_,rfl,?_,.int _ _,?_⟩
      ·simp only[Builtin.copy_,ht,mW,gd,dF,Sem.run_bind,bk hu,Result.andThen_ok,hlen,fv D,S,storeCells,Sem.run_pure]
      ·exact s.yc Q
      ·exact yb Q
  ·rename_i q;cases q<;>simp only at hv<;>(try(cases hv;done))
   simp only[aL,dH]at hv;obtain⟨rfl,rfl⟩:=hv;generalize hd:ρ y=mi at hx;cases hx;have Z:(Builtin.firstCells i.size (Nat.min k 0) (ρ z)).run P w=.ok #[] w:=by
    have:Nat.min k 0=0:=Nat.min_zero k;rw[this];exact Ey hz hk
   refine⟨_,goInt (Nat.min k 0),w,?_,rfl,s,?_,rfl⟩
   ·simp only[Builtin.copy_,ht,mW,gd,dF,Sem.run_bind,bk hu,Result.andThen_ok,hlen,fv D,Z,Sem.run_pure]
   ·have:Nat.min k 0=0:=Nat.min_zero k;rw[this];exact .int _ _
theorem EA {c:Call} {y:Operand} {t:TypeId} {i:TypeInfo} {j:Value} (ho:I.op=.call c) (hc:c.callee=.builtin .clear) (ha:c.args.toList=[y]) (ht:c.argTypes[0]? =some t)
 (hi:elemOf? P t=some i) (hz:i.zero=some j):lA P I fun e h=>match(cO y).ev e with
   |.sl a I n _=>oH cV (h.cG a I (c5 (dd j).cells n))
   |.no k=>match k with|.sl=>some (cV,h)|_=>none
   |_=>none:=by
 intro C U Λ h ls w e ρ v h' Y s R hv;dsimp only at hv;obtain⟨el,hu,M⟩:=sj hi;have hx:=R y;generalize (cO y).ev e=d at hx hv;suffices hs:∃w',(Builtin.clear_ c.argTypes I.type #[ρ y]).run P w=.ok (.tuple #[]) w'/\aS C U Λ h' ls w'/\v=cV/\h'.next=h.next by
  obtain⟨w',B,D,F,S⟩:=hs;subst F;refine⟨.value (.tuple #[]),.tuple #[],w',U,Λ,?_,.inl rfl,AM.le_refl U,D,om U,fun a o aj=>absurd o aj,by rw[S];exact aB _⟩;simp only[execOp,ho];obtain⟨ab,O⟩:=ns (P:=P) (w:=w) (ρ:=ρ) (ty:=I.type) hc;rw[O,px ha];simp only[builtin,l4,eD,l6];exact b5 B
 cases d<;>simp only at hv<;>(try(cases hv;done))
 ·rename_i a off n W;cases A:h.cG a off (c5 (dd j).cells n)with
  |none=>simp[A,oH]at hv
  |some o=>
   simp only[A,oH,aL,dH]at hv;obtain⟨rfl,rfl⟩:=hv;have G:=si (lz (U:=U) j) n;have Q:(dd j).cells.length=j.cells.size:=by have:=(lz (U:=U) j).length;simpa using this
   rw[Q]at G;generalize hd:ρ y=mi at hx;cases hx with
   |sl _ _ _ _ L capC ha o aj=>
    obtain⟨w',B,D,F⟩:=s.cG (P:=P) ha G A;refine⟨w',?_,D,rfl,F⟩;cases n with
    |zero=>
     have:(storeCells ⟨L.aw,L.base+off,none⟩ ((Array.range (0*j.cells.size)).map (fun i=>j.cells[i%j.cells.size]!)).toList).run P w=.ok () w:=by
      simp[storeCells]
     rw[this]at B;cases B;simp[Builtin.clear_,ht,bk hu]
    |succ n=>
     simp only[Builtin.clear_,ht,mW,gd,Sem.run_bind,bk hu,Result.andThen_ok,iR M hz,Builtin.zeroCells,B,Sem.run_pure]
   |de _ _ _ bV Z=>
    refine⟨w,?_,?_,rfl,?_⟩
    ·simp[Builtin.clear_,ht,bk hu]
    ·exact s.yc (off:=off) (by simpa[c5]using A)
    ·exact yb (off:=off) (by simpa[c5]using A)
 ·rename_i q;cases q<;>simp only at hv<;>(try(cases hv;done))
  simp only[aL,dH]at hv;obtain⟨rfl,rfl⟩:=hv;generalize hd:ρ y=mi at hx;cases hx;exact⟨w,by simp[Builtin.clear_,ht,bk hu],s,rfl,rfl⟩
end Go.Ev
