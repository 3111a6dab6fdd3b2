/- A part of the proof of glacislaw13.LiveAll (made short by a program). -/
import Derived.Test.YtmglhbclhfgmaaaGreatDoorVA
import Derived.Laws.BytesString
import Derived.Laws.Slices
namespace Go.Ev
variable{C:Cx} {U:AM} {Λ:Pa→Prop} {h:Hp} {ls:List LE} {w:World} {e:T V} {ρ:Operand→Value}
def dK (P:Program) (o:Oper) (f:T V→Hp→Option V):Prop:=
 ∀(C:Cx) (U:AM) (Λ:Pa→Prop) (h:Hp) (ls:List LE) (w:World) (e:T V) (ρ:Operand→Value) (v:V),C.P=P→aP C U Λ h ls w→iC U e ρ→f e h=some v→
  ∃c,(execOp ρ o).run P w=.ok (.value c) w∧VR U v c
theorem cr {P:Program} {s:Sem Value} {c:Value} {w w':World} (hs:s.run P w=.ok c w'):
 (do pure (Next.value (←s)):Sem Next).run P w=.ok (.value c) w':=by simp[hs]
theorem Lh {P:Program} {s:Sem Unit} {w w':World} (hs:s.run P w=.ok () w'):
 (do s;pure Next.skip:Sem Next).run P w=.ok .skip w':=by simp[hs]
variable{P:Program} {o:Oper}
theorem RR {x:Operand} (ho:o.op=.move x∨o.op=.assign x):dK P o fun e _=>some ((cO x).ev e):=by
 intro C U Λ h ls w e ρ v _ _ aB hv;dsimp only at hv;simp only[E8]at hv;subst hv;refine⟨ρ x,?_,aB x⟩;rcases ho with ho|ho<;>simp only[execOp,ho]<;>rfl
theorem acG {c a b:Operand} (ho:o.op=.pick c a b):dK P o fun e _=>match(cO c).ev e with
 |.bool t=>some (bif t then(cO a).ev e else(cO b).ev e)
 |_=>none:=by
 intro C U Λ h ls w e ρ v _ _ aB hv;dsimp only at hv;have hc:=aB c;revert hv;generalize (cO c).ev e=x at hc;intro hv;cases x<;>simp only at hv<;>(try(cases hv;done))
 rename_i t;simp only[E8]at hv;subst hv;generalize hd:ρ c=d at hc;cases hc;cases t with
 |true=>exact⟨ρ a,by simp[execOp,ho,hd,asBool],aB a⟩
 |false=>exact⟨ρ b,by simp[execOp,ho,hd,asBool],aB b⟩
theorem acH {t:TypeId} {a:Operand} {n:Option Nat} (ho:o.op=.load t a) (hn:kb P t=some n):
 dK P o fun e h=>fH h n ((cO a).ev e):=by
 intro C U Λ h ls w e ρ v jX s aB hv;dsimp only at hv;obtain⟨b6,d,I,J,h3⟩:=RK (P:=P) s hn (aB a) hv;refine⟨d,?_,h3⟩;simp only[execOp,ho];exact cr (by simp only[Instr.loadAt,I,Instr.sureAddr,Sem.run_bind,Sem.run_pure,Result.andThen_ok,J])
theorem acI {x:Operand} (ho:o.op=.nilCheck x):dK P o fun e _=>match(cO x).ev e with
 |.ptr a o=>some (.ptr a o)
 |_=>none:=by
 intro C U Λ h ls w e ρ v _ _ aB hv;dsimp only at hv;have hc:=aB x;revert hv;generalize (cO x).ev e=y at hc;intro hv;cases y<;>simp only at hv<;>(try(cases hv;done))
 simp only[E8]at hv;subst hv;refine⟨ρ x,?_,hc⟩;generalize hd:ρ x=d at hc;cases hc;simp only[execOp,ho,hd];rfl
theorem acJ {op:BinOp} {k:IntKind} {a b:Int} {v:V} (hv:KN op k a b=some v) (t:TypeId):
 ∃c,(Go.binOp op t (.int k a) (.int k b)).run P w=.ok c w∧VR U v c:=by
 have hdiv:∀{r:V} {x:Option V},(bif iw b 0 then none else x)=some r→b≠0∧x=some r:=by
  intro r x hx;rw[ki]at hx;by_cases hb:b=0
  ·subst hb;simp at hx
  ·have:(b==0)=false:=by simpa using hb
   rw[this]at hx;exact⟨hb,hx⟩
 cases op<;>simp only[KN]at hv<;>(try(cases hv;done))
 case quo=>
  obtain⟨hb,hv⟩:=hdiv hv;simp only[E8]at hv;subst hv;exact⟨.int k (k.wrap (a.tdiv b)),by simp[Go.binOp,Op.intDiv,hb],by rw[uL];exact .int _ _⟩
 case rem=>
  obtain⟨hb,hv⟩:=hdiv hv;simp only[E8]at hv;subst hv;exact⟨.int k (a.tmod b),by simp[Go.binOp,Op.intDiv,hb],.int _ _⟩
 all_goals
  simp only[E8]at hv;subst hv;refine⟨_,?_,by first|exact .int _ _|exact .bool _⟩;simp[Go.binOp,Op.intArith,Op.intBits,Op.intCmp,Lc,Ld,RL,uL,ki,sH,bne]
  try(rw[aqC];simp)
theorem RU {op:BinOp} {left:Bool} (aS:op=if left then .shl else .shr) {k k':IntKind} {a b:Int} {v:V} (hv:uA left k a b=some v) (t:TypeId):
 ∃c,(Go.binOp op t (.int k a) (.int k' b)).run P w=.ok c w∧VR U v c:=by
 unfold uA at hv;rw[sH]at hv;by_cases hb:b<0
 ·simp[hb]at hv
 ·simp only[hb,decide_false,KL]at hv;cases left with
  |true=>
   simp at aS hv;subst aS;subst hv;exact⟨_,by simp[Go.binOp,Op.shift,hb],.int _ _⟩
  |false=>
   simp at aS hv;subst aS;subst hv;exact⟨_,by simp[Go.binOp,Op.shift,hb],.int _ _⟩
theorem sJ (s:ByteArray):s.data.toList.length=s.size:=Array.length_toList
theorem acK {op:BinOp} {a b:ByteArray} {v:V} (hv:KO op a.data.toList b.data.toList=some v) (t:TypeId):
 ∃c,(Go.binOp op t (.string a) (.string b)).run P w=.ok c w∧VR U v c:=by
 cases op<;>simp only[KO]at hv<;>(try(cases hv;done))
 case add=>
  cases hb:Nat.ble (a.data.toList.length+b.data.toList.length) 9223372036854775807 with
  |false=>rw[hb]at hv;cases hv
  |true=>
   simp only[hb,E7,E8]at hv;subst hv;have ac:=ap5 hb;refine⟨.string (a++b),?_,?_⟩
   ·have I:a.size=a.data.toList.length:=(sJ a).symm;have J:b.size=b.data.toList.length:=(sJ b).symm;have h3:¬(((a.size+b.size:Nat):Int)>IntKind.i64.max):=by
     have:IntKind.i64.max=9223372036854775807:=by decide
     rw[this];omega
    simp only[Go.binOp,Op.stringOp];rw[pg h3];(try rfl)
   ·have:=VR.str (U:=U) (a++b)
    rwa [ByteArray.toList_data_append]at this
 all_goals
  simp only[E8]at hv;subst hv;refine⟨_,?_,.bool _⟩;simp[Go.binOp,Op.stringOp,qL,acx,ByteArray.toList_eq]
def Fl:Value→Bool
 |.int _ _=>false
 |.float _ _=>false
 |.complex _ _ _=>false
 |.string _=>false
 |_=>true
theorem acL {t:TypeId} {c d:Value} {r:Bool} (hc:Fl c=true) (hr:(Op.equal t c d).run P w=.ok r w):(Go.binOp .eql t c d).run P w=.ok (.bool r) w:=by
 have:(Go.binOp .eql t c d)=(do pure (.bool (←Op.equal t c d)):Sem Value):=by
  cases c<;>simp[Fl]at hc<;>cases d<;>rfl
 rw[this];simp[hr]
theorem acM {t:TypeId} {c d:Value} {r:Bool} (hc:Fl c=true) (hr:(Op.equal t c d).run P w=.ok r w):(Go.binOp .neq t c d).run P w=.ok (.bool (!r)) w:=by
 have:(Go.binOp .neq t c d)=(do pure (.bool (!(←Op.equal t c d))):Sem Value):=by
  cases c<;>simp[Fl]at hc<;>cases d<;>rfl
 rw[this];simp[hr]
theorem Li {t:TypeId} {a b:V} {r:Bool} (h:da (a7 P t) a b=some r):
 (∃k i k' j,a=.int k i∧b=.int k' j∧k=k'∧r=(i==j))∨(∃i j,a=.str i∧b=.str j∧r=(i==j))∨
   ((∀k i,a≠.int k i)∧(∀i,a≠.str i)∧a≠.no .bot):=by
 cases a with
 |int k i=>
  cases hq:a7 P t with
  |flat q=>
   rw[hq]at h;cases q<;>simp only[da,fq]at h<;>(try(cases h;done))
   cases b<;>simp only at h<;>(try(cases h;done))
   rename_i k' j;cases hk:cW k k' with
   |false=>simp[hk]at h
   |true=>
    simp only[hk,E7,E8]at h;exact .inl ⟨k,i,k',j,rfl,rfl,Ck hk,by rw[←h,ki]⟩
  |agg l=>rw[hq]at h;simp[da]at h
  |_=>rw[hq]at h;simp[da,isNil]at h
 |str i=>
  cases hq:a7 P t with
  |flat q=>
   rw[hq]at h;cases q<;>simp only[da,fq]at h<;>(try(cases h;done))
   cases b<;>simp only at h<;>(try(cases h;done))
   rename_i j;simp only[E8]at h;exact .inr (.inl ⟨i,j,rfl,rfl,by rw[←h,qL]⟩)
  |agg l=>rw[hq]at h;simp[da]at h
  |_=>rw[hq]at h;simp[da,isNil]at h
 |no k=>
  refine .inr (.inr ⟨by simp,by simp,?_⟩);intro e;cases e;cases hq:a7 P t with
  |flat q=>rw[hq]at h;cases q<;>simp[da,fq]at h
  |agg l=>rw[hq]at h;simp[da]at h
  |_=>rw[hq]at h;simp[da,isNil]at h
 |_=>exact .inr (.inr ⟨by simp,by simp,by simp⟩)
theorem acN {op:BinOp} {t:TypeId} {x y:Operand} {a b:V} {c d:Value} {v:V} (hx:VR U a c) (hy:VR U b d)
 (hi:a7 P t=.iface→(ft x||ft y)=true) (hv:cg op (a7 P t) a b=some v):
 ∃r,(do eqGuard op t x y c d;Go.binOp op t c d:Sem Value).run P w=.ok r w∧VR U v r:=by
 have guard:∀{c d:Value} {k:IntKind} {i:Int},c=.int k i→(eqGuard op t x y c d).run P w=.ok () w:=by
  intro c d k i hc;subst hc;exact Lg op t x y _ d (fun e=>by cases e) (fun _ _ e=>by cases e)
 have guards:∀{c d:Value} {i:ByteArray},c=.string i→(eqGuard op t x y c d).run P w=.ok () w:=by
  intro c d i hc;subst hc;exact Lg op t x y _ d (fun e=>by cases e) (fun _ _ e=>by cases e)
 have Nm:∀{r:Bool},da (a7 P t) a b=some r→(eqGuard op t x y c d).run P w=.ok () w∧(Op.equal t c d).run P w=.ok r w:=by
  intro r hr;obtain⟨I,J,h3⟩:=RQ (P:=P) (w:=w) hx hy hr;exact⟨Lg op t x y c d (fun e _=>hi (h3 e)) (fun u u' e e'=>J u u' e e'),I⟩
 have UV:∀{v:V},KP op a b=some v→∃r,(do eqGuard op t x y c d;Go.binOp op t c d:Sem Value).run P w=.ok r w∧VR U v r:=by
  intro v hv;unfold KP at hv;cases a with
  |int k i=>cases b with
   |int k' j=>
    simp only at hv;cases hk:cW k k' with
    |false=>simp[hk]at hv
    |true=>
     have:=Ck hk;subst this;simp only[hk,E7]at hv;cases hx;cases hy;obtain⟨r,I,J⟩:=acJ (P:=P) (w:=w) (U:=U) hv t;exact⟨r,by simp only[Sem.run_bind,guard rfl,Result.andThen_ok,I],J⟩
   |_=>simp at hv
  |str i=>cases b with
   |str j=>
    simp only at hv;cases hx;cases hy;obtain⟨r,I,J⟩:=acK (P:=P) (w:=w) (U:=U) hv t;exact⟨r,by simp only[Sem.run_bind,guards rfl,Result.andThen_ok,I],J⟩
   |_=>simp at hv
  |_=>simp at hv
 cases op
 case shl=>
  simp only[cg]at hv;cases a<;>simp only at hv<;>(try(cases hv;done))
  cases b<;>simp only at hv<;>(try(cases hv;done))
  cases hx;cases hy;obtain⟨r,I,J⟩:=RU (P:=P) (w:=w) (U:=U) (op:=.shl) (left:=true) rfl hv t;exact⟨r,by simp only[Sem.run_bind,guard rfl,Result.andThen_ok];exact I,J⟩
 case shr=>
  simp only[cg]at hv;cases a<;>simp only at hv<;>(try(cases hv;done))
  cases b<;>simp only at hv<;>(try(cases hv;done))
  cases hx;cases hy;obtain⟨r,I,J⟩:=RU (P:=P) (w:=w) (U:=U) (op:=.shr) (left:=false) rfl hv t;exact⟨r,by simp only[Sem.run_bind,guard rfl,Result.andThen_ok];exact I,J⟩
 case eql=>
  simp only[cg]at hv;cases hr:da (a7 P t) a b with
  |none=>simp[hr]at hv
  |some r=>
   simp[hr]at hv;subst hv;obtain⟨I,J⟩:=Nm hr;refine⟨.bool r,?_,.bool r⟩;simp only[Sem.run_bind,I,Result.andThen_ok];rcases Li hr with⟨k,i,k',j,rfl,rfl,rfl,rfl⟩|⟨i,j,rfl,rfl,rfl⟩|⟨n1,n2,n3⟩
   ·cases hx;cases hy;simp[Go.binOp,Op.intCmp]
   ·cases hx;cases hy;simp[Go.binOp,Op.stringOp,ByteArray.toList_eq]
   ·refine acL ?_ J;cases hx<;>first|rfl|exact absurd rfl (n1 _ _)|exact absurd rfl (n2 _)|exact absurd rfl n3
 case neq=>
  simp only[cg]at hv;cases hr:da (a7 P t) a b with
  |none=>simp[hr]at hv
  |some r=>
   simp[hr]at hv;subst hv;obtain⟨I,J⟩:=Nm hr;refine⟨.bool (!r),?_,.bool (!r)⟩;simp only[Sem.run_bind,I,Result.andThen_ok];rcases Li hr with⟨k,i,k',j,rfl,rfl,rfl,rfl⟩|⟨i,j,rfl,rfl,rfl⟩|⟨n1,n2,n3⟩
   ·cases hx;cases hy;simp[Go.binOp,Op.intCmp,bne]
   ·cases hx;cases hy;simp[Go.binOp,Op.stringOp,ByteArray.toList_eq]
   ·refine acM ?_ J;cases hx<;>first|rfl|exact absurd rfl (n1 _ _)|exact absurd rfl (n2 _)|exact absurd rfl n3
 all_goals exact UV hv
theorem RV {op:BinOp} {t yt:TypeId} {x y:Operand} (ho:o.op=.binOp op t x y yt) (hi:a7 P t=.iface→(ft x||ft y)=true):
 dK P o fun e _=>cg op (a7 P t) ((cO x).ev e) ((cO y).ev e):=by
 intro C U Λ h ls w e ρ v _ _ aB hv;dsimp only at hv;obtain⟨r,I,J⟩:=acN (P:=P) (w:=w) (aB x) (aB y) hi hv;exact⟨r,by simp only[execOp,ho];exact cr I,J⟩
theorem acO {op:UnOp} {t:TypeId} {x:Operand} (ho:o.op=.unOp op t x):dK P o fun e _=>yX op ((cO x).ev e):=by
 intro C U Λ h ls w e ρ v _ _ aB hv;dsimp only at hv;have hx:=aB x;revert hv;generalize (cO x).ev e=a at hx;intro hv;have:∃c,(Op.unary op (ρ x)).run P w=.ok c w∧VR U v c:=by
  cases op<;>simp only[yX]at hv<;>(try(cases hv;done))
  all_goals
   cases a<;>simp only at hv<;>(try(cases hv;done))
   simp only[E8]at hv;subst hv;generalize ρ x=c at hx⊢;cases hx;refine⟨_,?_,by first|exact .int _ _|exact .bool _⟩;simp[Op.unary,Op.intArith,Op.intBits,uL,Ld]
 obtain⟨c,I,J⟩:=this;exact⟨c,by simp only[execOp,ho];exact cr I,J⟩
theorem acP {sT iH:TypeId} {x:Operand} {k k':IntKind} (ho:o.op=.convert sT iH x) (hs:P.underlying sT=some (.int k')) (hd:P.underlying iH=some (.int k)):
 dK P o fun e _=>match(cO x).ev e with
  |.int _ n=>some (.int k (e6 k n))
  |_=>none:=by
 intro C U Λ h ls w e ρ v _ _ aB hv;dsimp only at hv;have hx:=aB x;revert hv;generalize (cO x).ev e=a at hx;intro hv;cases a<;>simp only at hv<;>(try(cases hv;done))
 simp only[E8]at hv;subst hv;generalize hc:ρ x=c at hx;cases hx;exact⟨_,by simp only[execOp,ho,hc];exact cr (by simp[convert,bj hs,bj hd,Conv.intToInt,uL]),.int _ _⟩
theorem acQ {sT iH:TypeId} {x:Operand} (ho:o.op=.convert sT iH x) (hs:P.underlying sT=some .string) (hd:P.underlying iH=some .string):
 dK P o fun e _=>match(cO x).ev e with
  |.str s=>some (.str s)
  |_=>none:=by
 intro C U Λ h ls w e ρ v _ _ aB hv;dsimp only at hv;have hx:=aB x;revert hv;generalize (cO x).ev e=a at hx;intro hv;cases a<;>simp only at hv<;>(try(cases hv;done))
 simp only[E8]at hv;subst hv;generalize hc:ρ x=c at hx;cases hx with
 |str s=>exact⟨.string s,by simp only[execOp,ho,hc];exact cr (by simp[convert,bj hs,bj hd]),.str s⟩
theorem RW:∀{l:List V} {cs:List Value} {zR:List UInt8},bd U l cs→bytesOf l=some zR→
 ∃ns:List Int,cs=ns.map (Value.int .u8)∧zR=ns.map fun n=>UInt8.ofNat n.toNat
 |[],_,zR,hl,hb=>by
  cases hl;simp[bytesOf]at hb;subst hb;exact⟨[],rfl,rfl⟩
 |v::l,_,zR,.cons _ c _ cs hc hs,hb=>by
  cases v<;>simp only[bytesOf]at hb<;>(try(cases hb;done))
  rename_i k n;cases k<;>simp only at hb<;>(try(cases hb;done))
  cases hr:bytesOf l with
  |none=>simp[hr]at hb
  |some r=>
   simp only[hr,E8]at hb;subst hb;obtain⟨ns,I,J⟩:=RW hs hr;cases hc;exact⟨n::ns,by simp[I],by simp[J]⟩
theorem acR (ns:List Int):∀s:ByteArray,(ns.foldl (fun r n=>r.push (UInt8.ofNat n.toNat)) s).data.toList=s.data.toList++ns.map fun n=>UInt8.ofNat n.toNat:=by
 induction ns with
 |nil=>intro s;simp
 |cons n ns ih=>intro s;rw[aqk,ih];simp[ByteArray.push]
theorem acS {sT iH el:TypeId} {x:Operand} (ho:o.op=.convert sT iH x) (hs:P.underlying sT=some (.slice el)) (he:P.underlying el=some (.int .u8)) (hd:P.underlying iH=some .string):
 dK P o fun e h=>match(cO x).ev e with
  |.sl a o n _=>match h.cl a o n with
   |some l=>match bytesOf l with|some s=>some (.str s)|none=>none
   |none=>none
  |.no k=>match k with|.sl=>some (.str [])|_=>none
  |_=>none:=by
 intro C U Λ h ls w e ρ v _ s aB hv;dsimp only at hv;have hx:=aB x;revert hv;generalize (cO x).ev e=a at hx;intro hv;have Cl:∀(b:ByteArray) (l:List UInt8),b.data.toList=l→VR U (.str l) (.string b):=fun b l hb=>by subst hb;exact .str b
 cases a<;>simp only at hv<;>(try(cases hv;done))
 ·rename_i a off n c;cases hl:h.cl a off n with
  |none=>simp[hl]at hv
  |some l=>
   simp only[hl]at hv;cases hb:bytesOf l with
   |none=>simp[hb]at hv
   |some zR=>
    simp only[hb,E8]at hv;subst hv;generalize hc:ρ x=d at hx;cases hx with
    |sl _ _ _ _ L capC ha hn bK=>
     obtain⟨cs,k1,k2,k3⟩:=s.cl (P:=P) ha hl;obtain⟨ns,I,J⟩:=RW k2 hb;subst I;refine⟨.string (ns.foldl (fun r n=>r.push (UInt8.ofNat n.toNat)) ByteArray.empty),?_,Cl _ _ ?_⟩
     ·simp only[execOp,ho,hc];exact cr (by rw[run_convert_bytes_string w sT iH el _ _ _ hs he hd];exact run_bytesToString w _ n capC ns (by simpa using k3))
     ·rw[acR,J];(try rfl)
    |dV _ _ _ b6 bK=>
     have gM:l=[]:=by
      unfold bm.cl at hl;cases jp:h.cells a with
      |none=>simp[jp]at hl
      |some m=>simp[jp,takeN]at hl;exact hl
     subst gM;simp[bytesOf]at hb;subst hb;refine⟨.string .empty,?_,Cl _ _ ?_⟩
     ·simp only[execOp,ho,hc];exact cr (by rw[run_convert_bytes_string w sT iH el _ _ _ hs he hd];exact run_bytesToString w b6 0 0 [] (by simp[loadCells,loadCellsFrom]))
     ·rfl
 ·rename_i k;cases k<;>simp only at hv<;>(try(cases hv;done))
  simp only[E8]at hv;subst hv;generalize hc:ρ x=d at hx;cases hx;refine⟨.string .empty,?_,Cl _ _ rfl⟩;simp only[execOp,ho,hc];exact cr (by rw[run_convert_bytes_string w sT iH el _ _ _ hs he hd];simp[Conv.bytesToString])
theorem acT {t:TypeId} {d:TypeDesc} {x:Operand} (ho:o.op=.makeInterface t x) (hd:P.underlying t=some d) (hn:∀m,d≠.interface m):
 dK P o fun e _=>some (.iface t ((cO x).ev e)):=by
 intro C U Λ h ls w e ρ v _ _ aB hv;dsimp only at hv;simp only[E8]at hv;subst hv;refine⟨.iface t (ρ x),?_,.iface _ _ _ (aB x)⟩;simp only[execOp,ho];refine cr ?_;simp only[Instr.makeInterface,Sem.run_bind,bj hd,Result.andThen_ok];cases d<;>first|rfl|exact absurd rfl (hn _)
theorem acU {f:FuncId} {first bf:Array Operand} (ho:o.op=.makeFunc (.func f) first bf) (hf:first.size=0):
 dK P o fun e _=>some (.fn f (ea e (bf.toList.map cO))):=by
 intro C U Λ h ls w e ρ v _ _ aB hv;dsimp only at hv;simp only[E8]at hv;subst hv;have:first=#[]:=Array.eq_empty_of_size_eq_zero hf
 subst this;refine⟨.func (.func f) #[] (bf.map ρ),?_,?_⟩
 ·simp only[execOp,ho];exact cr (by simp[Instr.makeFunc])
 ·have:=aB.list bf.toList;have J:=VR.fn f _ _ this;have e:bf.map ρ=⟨bf.toList.map ρ⟩:=by rw[←lb9]
  rw[e];exact J
end Go.Ev
namespace Go.Ev
variable{C:Cx} {U:AM} {Λ:Pa→Prop} {h:Hp} {ls:List LE} {w:World} {e:T V} {ρ:Operand→Value}
variable{P:Program} {o:Oper}
theorem Lj {d y:Nat} {x:Option V} {c:Option Value} {n:Nat} (hx:∀v,x=some v→∃u,c=some u∧VR U v u) (hn:x=none→c=none)
 (hs:ee d y x=some n) (code:BoundsCode):
 (match c with|some v=>Instr.sliceBound v y code|none=>(pure d:Sem Nat)).run P w=.ok n w∧(x≠none→n≤y)∧(x=none→n=d):=by
 cases x with
 |none=>
  simp[ee]at hs;subst hs;rw[hn rfl];exact⟨rfl,fun e=>absurd rfl e,fun _=>rfl⟩
 |some v=>
  obtain⟨u,hu,WP⟩:=hx v rfl;cases v<;>simp only[ee]at hs<;>(try(cases hs;done))
  rename_i k i;cases i<;>simp only at hs<;>(try(cases hs;done))
  rename_i i;cases hb:Nat.ble i y with
  |false=>simp[hb]at hs
  |true=>
   simp only[hb,E7,E8]at hs;subst hs;cases WP;rw[hu];have:=ap5 hb;refine⟨?_,fun _=>this,fun e=>by cases e⟩;have:=run_sliceBound (P:=P) w k (Int.ofNat i) y code (by simp) (by simpa using this);simpa using this
theorem acV (n:Nat):Nat.blt n n=false:=by
 unfold Nat.blt;cases h:Nat.ble n.succ n with
 |false=>rfl
 |true=>exact absurd (ap5 h) (Nat.not_succ_le_self n)
theorem RX {d d' y y':Nat} {v:V} {n:Nat} (h:ee d y (some v)=some n) (hy:y≤y'):ee d' y' (some v)=some n:=by
 cases v with
 |int k i=>
  cases i with
  |ofNat i=>
   simp only[ee]at h⊢;cases hb:Nat.ble i y with
   |false=>simp[hb]at h
   |true=>
    have:Nat.ble i y'=true:=aqm (aqb (ap5 hb) hy);simp only[hb,E7]at h;simp only[this,E7,h]
  |negSucc i=>simp[ee]at h
 |_=>simp[ee]at h
theorem Lk {d y y':Nat} {x:Option V} {n:Nat} (h:ee d y x=some n) (hy:y≤y'):ee d y' x=some n:=by
 cases x with
 |none=>exact h
 |some v=>exact RX h hy
theorem Lm (aB:iC U e ρ) {x:Option Operand} {v:V} (h:aZ e (x.map cO)=some v):∃u,x.map ρ=some u∧VR U v u:=by
 cases x with
 |none=>simp[aZ]at h
 |some x=>simp[aZ]at h;subst h;exact⟨ρ x,rfl,aB x⟩
theorem Ln {x:Option Operand} (h:aZ e (x.map cO)=none):x.map ρ=none:=by
 cases x with
 |none=>rfl
 |some x=>simp[aZ]at h
theorem mL (aB:iC U e ρ) {n c:Nat} {lo hi mx:Option Operand} {l hh m:Nat} (av:Bool) (hn:n≤c)
 (hs:eD n c (aZ e (lo.map cO)) (aZ e (hi.map cO)) (aZ e (mx.map cO))=some (l,hh,m)) (ou:mx.isSome=true→hi.isSome=true):
 (Instr.sliceBounds av n c (lo.map ρ) (hi.map ρ) (mx.map ρ)).run P w=.ok (l,hh,m) w∧l≤hh∧hh≤m∧m≤c∧(mx=none→m=c):=by
 unfold eD at hs;cases I:ee c c (aZ e (mx.map cO))with
 |none=>simp[I]at hs
 |some m'=>
  simp only[I]at hs;cases J:ee n m' (aZ e (hi.map cO))with
  |none=>simp[J]at hs
  |some h'=>
   simp only[J]at hs;cases h3:ee 0 h' (aZ e (lo.map cO))with
   |none=>simp[h3]at hs
   |some l'=>
    simp only[h3,E8,apW]at hs;obtain⟨rfl,rfl,rfl⟩:=hs;have s1:=fun code=>Lj (P:=P) (w:=w) (c:=mx.map ρ) (fun v hv=>Lm aB hv) (fun hv=>Ln hv) I code;have s2:=fun code=>Lj (P:=P) (w:=w) (c:=hi.map ρ) (fun v hv=>Lm aB hv) (fun hv=>Ln hv) J code;have s3:=fun code=>Lj (P:=P) (w:=w) (c:=lo.map ρ) (fun v hv=>Lm aB hv) (fun hv=>Ln hv) h3 code;have ci:m'≤c:=by
     by_cases hm:aZ e (mx.map cO)=none
     ·rw[(s1 .index).2.2 hm];exact B5 _
     ·exact(s1 .index).2.1 hm
    have eq:h'≤m':=by
     by_cases hm:aZ e (hi.map cO)=none
     ·rw[(s2 .index).2.2 hm];have:mx=none:=by
       cases mx with
       |none=>rfl
       |some y=>
        have:=ou rfl;cases hi with
        |none=>cases this
        |some z=>simp[aZ]at hm
      subst this;rw[(s1 .index).2.2 rfl];exact hn
     ·exact(s2 .index).2.1 hm
    have f7:l'≤h':=by
     by_cases hm:aZ e (lo.map cO)=none
     ·rw[(s3 .index).2.2 hm];exact amu _
     ·exact(s3 .index).2.1 hm
    refine⟨?_,f7,eq,ci,fun hm=>by subst hm;exact(s1 .index).2.2 rfl⟩;unfold Instr.sliceBounds;cases mx with
    |none=>
     have e1:=(s1 .index).1;cases hi with
     |none=>
      cases lo with
      |none=>
       have f1:=(s1 .index).1;have f8:=(s2 .index).1;have f3:=(s3 .index).1;simp at f1 f8 f3;subst f1;subst f8;subst f3;rfl
      |some lo=>
       have f1:=(s1 .index).1;have f8:=(s2 .index).1;simp at f1 f8;subst f1;subst f8;have f3:=(s3 .sliceB).1;simp only[ap0]at f3;simp[f3]
     |some hi=>
      have f1:=(s1 .index).1;simp at f1;subst f1;have f8:=(s2 (if av then .sliceAcap else .sliceAlen)).1;simp only[ap0]at f8;cases lo with
      |none=>
       have f3:=(s3 .index).1;simp at f3;subst f3;simp[f8]
      |some lo=>
       have f3:=(s3 .sliceB).1;simp only[ap0]at f3;simp[f8,f3]
    |some mx=>
     have f1:=(s1 (if av then .slice3Acap else .slice3Alen)).1;simp only[ap0]at f1;cases hi with
     |none=>exact absurd (ou rfl) (by simp)
     |some hi=>
      have f8:=(s2 .slice3B).1;simp only[ap0]at f8;cases lo with
      |none=>
       have f3:=(s3 .index).1;simp at f3;subst f3;simp[f1,f8]
      |some lo=>
       have f3:=(s3 .slice3C).1;simp only[ap0]at f3;simp[f1,f8,f3]
theorem Fm (b o n:Nat):(some (Addr.mk b o none)).map (·.add n)=some ⟨b,o+n,none⟩:=by simp[qK]
theorem RY {L:Loc} {o cc s n d:Nat} (h:L.base+o+cc*s=L.top∧(s=1∨L.eb=false)) (hd:n+d=cc):L.base+(o+n*s)+d*s=L.top∧(s=1∨L.eb=false):=by
 subst hd;refine⟨?_,h.2⟩
 replace h:=h.1
 rw[aqr]at h;omega
theorem acW {t el:TypeId} {i:TypeInfo} {x:Operand} {lo hi mx:Option Operand} (ho:o.op=.slice t x lo hi mx) (ht:P.underlying t=some (.slice el)) (b8:P.info? el=some i)
 (ou:mx.isSome=true→hi.isSome=true):
 dK P o fun e _=>ef i.size ((cO x).ev e) (aZ e (lo.map cO)) (aZ e (hi.map cO)) (aZ e (mx.map cO)):=by
 intro C U Λ h ls w e ρ v _ _ aB hv;dsimp only at hv;have hx:=aB x;revert hv;generalize (cO x).ev e=a at hx;intro hv;suffices hs:∃c,(Instr.slice t (ρ x) (lo.map ρ) (hi.map ρ) (mx.map ρ)).run P w=.ok c w∧VR U v c by
  obtain⟨c,I,J⟩:=hs;refine⟨c,?_,J⟩;simp only[execOp,ho];refine cr ?_;simp only[Instr.sliceAt,Sem.run_bind,bj ht,Result.andThen_ok,I]
 have run:∀{b6:Option Addr} {n c l hh m:Nat},ρ x=.slice b6 n c→(Instr.sliceBounds true n c (lo.map ρ) (hi.map ρ) (mx.map ρ)).run P w=.ok (l,hh,m) w→
  (Instr.slice t (ρ x) (lo.map ρ) (hi.map ρ) (mx.map ρ)).run P w=.ok (.slice (if m=l then b6 else b6.map (·.add (l*i.size))) (hh-l) (m-l)) w:=by
  intro b6 n c l hh m Hb hb;simp only[Instr.slice,Hb,Sem.run_bind,bj ht,Result.andThen_ok,hb,gZ b8,Sem.run_pure]
 cases a<;>simp only[ef]at hv<;>(try(cases hv;done))
 ·rename_i a off n c;cases c with
  |ex c=>
   simp only at hv;cases hb:eD n c (aZ e (lo.map cO)) (aZ e (hi.map cO)) (aZ e (mx.map cO))with
   |none=>simp[hb]at hv
   |some p=>
    obtain⟨l,hh,m⟩:=p;simp only[hb,E8]at hv;subst hv;generalize hc:ρ x=d at hx;cases hx with
    |sl _ _ _ _ L capC ha hn bK=>
     simp only[lz]at bK;subst bK;obtain⟨ci,eq,f7,g0,f9⟩:=mL (P:=P) (w:=w) aB true hn hb ou;refine⟨_,hc▸run hc ci,?_⟩;by_cases hm:m=l
     ·subst hm;simp only[if_true,aqq,arz,E7];have:hh-m=0:=by omega
      rw[this];exact .dV _ _ _ _ (.inl rfl)
     ·have hf:Nat.beq m l=false:=by rw[aqO];intro e1;exact hm (apY e1)
      simp only[hm,if_false,hf,KL,Fm];have:=VR.sl (U:=U) a (off+l*i.size) (hh-l) (.ex (m-l)) L (m-l) ha (by omega) rfl;simpa[aqf]using this
    |dV _ _ _ b6 bK=>
     have Hc:c=0:=Fg bK;subst Hc;obtain⟨ci,eq,f7,g0,f9⟩:=mL (P:=P) (w:=w) aB true (B5 0) hb ou;refine⟨_,hc▸run hc ci,?_⟩;have:m=0:=by omega
     subst this;have:hh=0:=by omega
     subst this;have:l=0:=by omega
     subst this;exact .dV _ _ _ _ (.inl rfl)
  |un s=>
   simp only at hv;cases pp:Nat.beq s i.size with
   |false=>simp[pp]at hv
   |true=>
    have Hd:=apY pp;subst Hd;simp only[pp,E7]at hv;cases hb:eD n n (aZ e (lo.map cO)) (aZ e (hi.map cO)) (aZ e (mx.map cO))with
    |none=>simp[hb]at hv
    |some p=>
     obtain⟨l,hh,m⟩:=p;simp only[hb]at hv;generalize hc:ρ x=d at hx;cases mx with
     |none=>
      simp only[aZ,aru,E8]at hv;subst hv;cases hx with
      |sl _ _ _ _ L capC ha hn bK=>
       simp only[lz]at bK;have jY:eD n capC (aZ e (lo.map cO)) (aZ e (hi.map cO)) (aZ e ((none:Option Operand).map cO))=some (l,hh,capC):=by
        unfold eD at hb⊢;have q:aZ e ((none:Option Operand).map cO)=none:=rfl;have q1:∀d y,ee d y none=some d:=fun _ _=>rfl;simp only[q,q1]at hb⊢;revert hb;cases J:ee n n (aZ e (hi.map cO))with
        |none=>intro hb;simp at hb
        |some h'=>
         have kR:ee n capC (aZ e (hi.map cO))=some h':=Lk J hn;intro hb;simp only[kR];simp only at hb;revert hb;cases ee 0 h' (aZ e (lo.map cO))with
         |none=>intro hb;simp at hb
         |some l'=>intro hb;simp at hb;simp[hb]
       obtain⟨ci,eq,f7,g0,f9⟩:=mL (P:=P) (w:=w) aB true hn jY (by intro hh;cases hh);have hhn:hh≤n:=by
        obtain⟨_,_,pT,fj,_⟩:=mL (P:=P) (w:=w) aB true (B5 n) hb (by intro hh;cases hh);omega
       refine⟨_,hc▸run hc ci,?_⟩;by_cases hm:capC=l
       ·subst hm;simp only[if_true,aqq];have:hh-capC=0:=by omega
        rw[this];exact .dV _ _ _ _ (.inr ⟨_,L,rfl,ha,by omega⟩)
       ·simp only[hm,if_false,Fm];have:=VR.sl (U:=U) a (off+l*i.size) (hh-l) (.un i.size) L (capC-l) ha (by omega) (RY bK (by omega));simpa[aqf]using this
      |dV _ _ _ b6 bK=>
       obtain⟨ci,eq,f7,g0,f9⟩:=mL (P:=P) (w:=w) aB true (B5 0) hb (by intro hh;cases hh);refine⟨_,hc▸run hc ci,?_⟩;have:m=0:=by omega
       subst this;have:hh=0:=by omega
       subst this;have:l=0:=by omega
       subst this;rcases bK with bK|⟨s',L,I,J,h3⟩
       ·cases bK
       ·exact .dV _ _ _ _ (.inr ⟨_,L,rfl,J,by omega⟩)
     |some mx=>
      simp only[aZ,ap0]at hv;cases hx with
      |sl _ _ _ _ L capC ha hn bK=>
       simp only[lz]at bK;have jY:eD n capC (aZ e (lo.map cO)) (aZ e (hi.map cO)) (aZ e ((some mx).map cO))=some (l,hh,m):=by
        unfold eD at hb⊢;revert hb;cases I:ee n n (aZ e ((some mx).map cO))with
        |none=>intro hb;simp at hb
        |some m'=>
         have lm:ee capC capC (aZ e ((some mx).map cO))=some m':=RX I hn;intro hb;simp only[lm];exact hb
       obtain⟨ci,eq,f7,g0,f9⟩:=mL (P:=P) (w:=w) aB true hn jY ou;have tp:m≤n:=(mL (P:=P) (w:=w) aB true (B5 n) hb ou).2.2.2.1;refine⟨_,hc▸run hc ci,?_⟩;by_cases hm:m=l
       ·subst hm;have hf:Nat.blt m m=false:=acV m;simp only[hf,KL,E8]at hv;subst hv;simp only[if_true,aqq];have:hh-m=0:=by omega
        rw[this];exact .dV _ _ _ _ (.inl rfl)
       ·have ap:Nat.blt l m=true:=by simpa using(by omega:l<m)
        simp only[ap,E7,E8]at hv;subst hv;simp only[hm,if_false,Fm];have:=VR.sl (U:=U) a (off+l*i.size) (hh-l) (.ex (m-l)) L (m-l) ha (by omega) rfl;simpa[aqf]using this
      |dV _ _ _ b6 bK=>
       obtain⟨ci,eq,f7,g0,f9⟩:=mL (P:=P) (w:=w) aB true (B5 0) hb ou;refine⟨_,hc▸run hc ci,?_⟩;have:m=0:=by omega
       subst this;have:hh=0:=by omega
       subst this;have:l=0:=by omega
       subst this;have hf:Nat.blt 0 0=false:=rfl;simp only[hf,KL,E8]at hv;subst hv;exact .dV _ _ _ _ (.inl rfl)
 ·rename_i k;cases k<;>simp only at hv<;>(try(cases hv;done))
  cases hb:eD 0 0 (aZ e (lo.map cO)) (aZ e (hi.map cO)) (aZ e (mx.map cO))with
  |none=>simp[hb]at hv
  |some p=>
   obtain⟨l,hh,m⟩:=p;simp only[hb,E8]at hv;subst hv;generalize hc:ρ x=d at hx;cases hx;obtain⟨ci,eq,f7,g0,f9⟩:=mL (P:=P) (w:=w) aB true (B5 0) hb ou;refine⟨_,hc▸run hc ci,?_⟩;have:m=0:=by omega
   subst this;have:hh=0:=by omega
   subst this;have:l=0:=by omega
   subst this;exact .y8
theorem Cl {b:ByteArray} {l:List UInt8} (hb:b.data.toList=l):VR U (.str l) (.string b):=by subst hb;exact .str b
theorem Fo (s:ByteArray) (l h:Nat):(s.extract l h).data.toList=(s.data.toList.drop l).take (h-l):=by
 obtain⟨⟨s⟩⟩:=s;have:=ByteArray.extract_mk s l h;exact congrArg (fun b:ByteArray=>b.data.toList) this
theorem acX {t:TypeId} {x:Operand} {lo hi:Option Operand} (ho:o.op=.slice t x lo hi none) (ht:P.underlying t=some .string):
 dK P o fun e _=>je ((cO x).ev e) (aZ e (lo.map cO)) (aZ e (hi.map cO)):=by
 intro C U Λ h ls w e ρ v _ _ aB hv;dsimp only at hv;have hx:=aB x;revert hv;generalize (cO x).ev e=a at hx;intro hv;cases a<;>simp only[je]at hv<;>(try(cases hv;done))
 rename_i s;generalize hc:ρ x=d at hx;cases hx with
 |str s=>
  cases hb:eD s.data.toList.length s.data.toList.length (aZ e (lo.map cO)) (aZ e (hi.map cO)) none with
  |none=>rw[hb]at hv;cases hv
  |some p=>
   obtain⟨l,hh,m⟩:=p;simp only[hb,qI]at hv;cases eX:takeN (hh-l) (s.data.toList.drop l)with
   |none=>simp[eX]at hv
   |some r=>
    simp only[eX,E8]at hv;subst hv;obtain⟨_,hr⟩:=w3 eX;rw[sJ]at hb;obtain⟨ci,_⟩:=mL (P:=P) (w:=w) aB (mx:=none) false (B5 s.size) hb (by intro hh;cases hh);refine⟨.string (s.extract l hh),?_,Cl (by rw[Fo,hr])⟩;simp only[execOp,ho,hc];refine cr ?_;simp only[aru]at ci;simp only[Instr.sliceAt,Sem.run_bind,bj ht,Result.andThen_ok,Instr.slice,aru,Option.isSome_none,aqN,if_false,ci,Sem.run_pure]
theorem acY {t el:TypeId} {i:TypeInfo} {x:Operand} {lo hi:Option Operand} {n:Nat} (ho:o.op=.slice t x lo hi none) (ht:P.underlying t=some (.array n el)) (b8:P.info? el=some i):
 dK P o fun e _=>KQ n i.size ((cO x).ev e) (aZ e (lo.map cO)) (aZ e (hi.map cO)):=by
 intro C U Λ h ls w e ρ v _ _ aB hv;dsimp only at hv;have hx:=aB x;revert hv;generalize (cO x).ev e=a at hx;intro hv;cases a<;>simp only[KQ]at hv<;>(try(cases hv;done))
 rename_i a off;generalize hc:ρ x=d at hx;cases hx with
 |ptr _ _ L ha=>
  cases hb:eD n n (aZ e (lo.map cO)) (aZ e (hi.map cO)) none with
  |none=>simp[hb]at hv
  |some p=>
   obtain⟨l,hh,m⟩:=p;simp only[hb,E8]at hv;subst hv;obtain⟨ci,eq,f7,g0,f9⟩:=mL (P:=P) (w:=w) aB (mx:=none) false (B5 n) hb (by intro hh;cases hh);simp only[aru]at ci;refine⟨.slice (some (if m=l then⟨L.aw,L.base+off,none⟩else(Addr.mk L.aw (L.base+off) none).add (l*i.size))) (hh-l) (m-l),?_,?_⟩
   ·simp only[execOp,ho,hc];refine cr ?_;simp only[Instr.sliceAt,Sem.run_bind,bj ht,Result.andThen_ok,Instr.sureAddr,aru,ci,gZ b8,Sem.run_pure]
   ·by_cases hm:m=l
    ·subst hm;simp only[if_true,aqq,arz,E7];have:hh-m=0:=by omega
     rw[this];exact .dV _ _ _ _ (.inl rfl)
    ·have hf:Nat.beq m l=false:=by rw[aqO];intro e1;exact hm (apY e1)
     simp only[hm,if_false,hf,KL,qK];have:=VR.sl (U:=U) a (off+l*i.size) (hh-l) (.ex (m-l)) L (m-l) ha (by omega) rfl;simpa[aqf]using this
theorem acZ {t el:TypeId} {i:TypeInfo} {x:Operand} {lo hi:Option Operand} (ho:o.op=.slice t x lo hi none) (ht:P.underlying t=some (.slice el)) (b8:P.info? el=some i):
 dK P o fun e h=>uB h i.size ((cO x).ev e) (aZ e (lo.map cO)) (aZ e (hi.map cO)):=by
 intro C U Λ h ls w e ρ v _ zS aB hv;dsimp only at hv;have hx:=aB x;revert hv;generalize (cO x).ev e=a at hx;intro hv;suffices hs:∃c,(Instr.slice t (ρ x) (lo.map ρ) (hi.map ρ) ((none:Option Operand).map ρ)).run P w=.ok c w∧VR U v c by
  obtain⟨c,I,J⟩:=hs;refine⟨c,?_,J⟩;simp only[execOp,ho];refine cr ?_;simp only[Instr.sliceAt,Sem.run_bind,bj ht,Result.andThen_ok,I]
 have run:∀{b6:Option Addr} {n c l hh m:Nat},ρ x=.slice b6 n c→(Instr.sliceBounds true n c (lo.map ρ) (hi.map ρ) ((none:Option Operand).map ρ)).run P w=.ok (l,hh,m) w→
  (Instr.slice t (ρ x) (lo.map ρ) (hi.map ρ) ((none:Option Operand).map ρ)).run P w=.ok (.slice (if m=l then b6 else b6.map (·.add (l*i.size))) (hh-l) (m-l)) w:=by
  intro b6 n c l hh m Hb hb;simp only[Instr.slice,Hb,Sem.run_bind,bj ht,Result.andThen_ok,hb,gZ b8,Sem.run_pure]
 cases a<;>simp only[uB]at hv<;>(try(cases hv;done))
 rename_i a off n c;cases c with
 |ex c=>simp at hv
 |un s=>
  simp only at hv;cases pp:Nat.beq s i.size with
  |false=>simp[pp]at hv
  |true=>
   have Hd:=apY pp;subst Hd;simp only[pp,E7]at hv;generalize hN:qy h i.size a off=N at hv;cases ac:Nat.ble n N with
   |false=>simp[ac]at hv
   |true=>
    simp only[ac,E7]at hv;have W2:=ap5 ac;cases hb:eD n N (aZ e (lo.map cO)) (aZ e (hi.map cO)) none with
    |none=>simp[hb]at hv
    |some p=>
     obtain⟨l,hh,m⟩:=p;simp only[hb,E8]at hv;subst hv;have cap:∀{L:Loc} {capC:Nat},U a=some L→L.base+off+capC*i.size=L.top→N≤capC:=by
      intro L capC ha bK;rw[←hN];unfold qy;cases hg:h.get a with
      |none=>exact amu _
      |some b=>
       cases b with
       |cells lc d=>
        cases d with
        |true=>exact amu _
        |false=>
         have bn:Λ a:=by
          rcases zS.live a L _ ha hg with I|⟨m,I⟩
          ·exact I
          ·cases I
         obtain⟨b',I,J⟩:=zS.aw a L ha bn;rw[hg]at I;cases I;obtain⟨cs,el',fr,k1,k2,k3,⟨k4,k5⟩,_⟩:=J;show(lc.length-off)/i.size≤capC;rcases Nat.eq_zero_or_pos i.size with hz|hz
         ·rw[hz];simp
         ·have k6:lc.length-off≤capC*i.size:=by omega
          exact Nat.div_le_of_le_mul (by rw[Nat.mul_comm];exact k6)
       |ro _=>exact amu _
       |map _ _=>exact amu _
       |loop _=>exact amu _
       |dH _=>exact amu _
     generalize hc:ρ x=d at hx;cases hx with
     |sl _ _ _ _ L capC ha hn bK=>
      simp only[lz]at bK;have W4:=cap ha bK.1;have jY:eD n capC (aZ e (lo.map cO)) (aZ e (hi.map cO)) (aZ e ((none:Option Operand).map cO))=some (l,hh,capC):=by
       unfold eD at hb⊢;have q:aZ e ((none:Option Operand).map cO)=none:=rfl;have q1:∀d y,ee d y none=some d:=fun _ _=>rfl;simp only[q,q1]at hb⊢;revert hb;cases J:ee n N (aZ e (hi.map cO))with
       |none=>intro hb;simp at hb
       |some h'=>
        have kR:ee n capC (aZ e (hi.map cO))=some h':=Lk J W4;intro hb;simp only[kR];simp only at hb;revert hb;cases ee 0 h' (aZ e (lo.map cO))with
        |none=>intro hb;simp at hb
        |some l'=>intro hb;simp at hb;simp[hb]
      obtain⟨ci,eq,f7,g0,f9⟩:=mL (P:=P) (w:=w) aB true hn jY (by intro hh;cases hh);refine⟨_,hc▸run hc ci,?_⟩;by_cases hm:capC=l
      ·subst hm;simp only[if_true,aqq];have:hh-capC=0:=by omega
       rw[this];exact .dV _ _ _ _ (.inr ⟨_,L,rfl,ha,by omega⟩)
      ·simp only[hm,if_false,Fm];have:=VR.sl (U:=U) a (off+l*i.size) (hh-l) (.un i.size) L (capC-l) ha (by omega) (RY bK (by omega));simpa[aqf]using this
     |dV _ _ _ b6 bK=>
      rcases bK with bK|⟨s',L,I,J,h3⟩
      ·cases bK
      ·have NE:N≤0:=cap J (capC:=0) (by omega);have NE:N=0:=by omega
       rw[NE]at hb;obtain⟨ci,eq,f7,g0,f9⟩:=mL (P:=P) (w:=w) (mx:=none) aB true (B5 0) hb (by intro hh;cases hh);refine⟨_,hc▸run hc ci,?_⟩;have:m=0:=by omega
       subst this;have:hh=0:=by omega
       subst this;have:l=0:=by omega
       subst this;exact .dV _ _ _ _ (.inr ⟨_,L,rfl,J,by omega⟩)
theorem ac0 {t el:TypeId} {i:TypeInfo} {x:Operand} {lo hi mx:Option Operand} (ho:o.op=.slice t x lo hi mx) (ht:P.underlying t=some (.slice el)) (b8:P.info? el=some i)
 (ou:mx.isSome=true→hi.isSome=true):
 dK P o fun e h=>sC h i.size ((cO x).ev e) (aZ e (lo.map cO)) (aZ e (hi.map cO)) (aZ e (mx.map cO))
  (ef i.size ((cO x).ev e) (aZ e (lo.map cO)) (aZ e (hi.map cO)) (aZ e (mx.map cO))):=by
 intro C U Λ h ls w e ρ v jX zS aB hv;dsimp only at hv;have I:=acW ho ht b8 ou C U Λ h ls w e ρ v jX zS aB;revert hv;cases zT:ef i.size ((cO x).ev e) (aZ e (lo.map cO)) (aZ e (hi.map cO)) (aZ e (mx.map cO))with
 |some u=>
  intro hv;have:u=v:=by cases hq:aZ e (mx.map cO)<;>simpa[hq,sC]using hv
  subst this;exact I zT
 |none=>
  intro hv;cases mx with
  |some m=>simp[aZ,sC]at hv
  |none=>exact acZ ho ht b8 C U Λ h ls w e ρ v jX zS aB (by simpa[aZ,sC]using hv)
end Go.Ev
namespace Go.Ev
variable{C:Cx} {U:AM} {Λ:Pa→Prop} {h:Hp} {ls:List LE} {w:World} {e:T V} {ρ:Operand→Value}
variable{P:Program} {o:Oper}
theorem ac1 {t:TypeId} {fs:Array Field} {x:Operand} {k n:Nat} {g:Field} (ho:o.op=.fieldAddr t x k) (ht:P.underlying t=some (.struct fs)) (hg:fs[k]? =some g)
 (hn:gz P g.type=some (n+1)):
 dK P o fun e _=>match(cO x).ev e with
  |.ptr a o=>some (.ptr a (o+g.offset))
  |_=>none:=by
 intro C U Λ h ls w e ρ v _ _ aB hv;dsimp only at hv;have hx:=aB x;revert hv;generalize (cO x).ev e=a at hx;intro hv;cases a<;>simp only at hv<;>(try(cases hv;done))
 rename_i a off;simp only[E8]at hv;subst hv;generalize hc:ρ x=d at hx;obtain⟨i,hi,gc⟩:=qJ hn;cases hx with
 |ptr _ _ L ha=>
  refine⟨.pointer (some ⟨L.aw,L.base+(off+g.offset),none⟩),?_,.ptr _ _ _ ha⟩;simp only[execOp,ho,hc];refine cr ?_;have bx:i.size≠0:=by omega
  simp[Instr.fieldAt,bj ht,hg,Instr.sureAddr,fieldPlace,gZ hi,bx,qK,aqf]
theorem RZ {t:TypeId} {n:Option Nat} (hn:kb P t=some n) {l:List V} {cs:List Value} (hl:bd U l cs) {off:Nat} {v:V} (hv:part n l off=some v):
 ∃c,(Go.part t cs.toArray off).run P w=.ok c w∧VR U v c:=by
 cases n with
 |none=>
  simp only[part,qH]at hv;obtain⟨i,hi,m3⟩:=RG hn;obtain⟨c,I,J⟩:=hl.get hv;exact⟨c,Fk (m3 w) (by simpa using I),J⟩
 |some n=>
  obtain⟨i,hi,bJ,m3⟩:=RH hn;simp only[part,qI]at hv;cases eX:takeN n (l.drop off)with
  |none=>simp[eX]at hv
  |some r=>
   simp only[eX,E8]at hv;subst hv;obtain⟨_,hr⟩:=w3 eX;refine⟨.agg ((cs.drop off).take n).toArray,?_,?_⟩
   ·simp[Go.part,m3 w,gZ hi,bJ,List.take_drop]
   ·rw[hr];exact .agg _ _ ((hl.drop off).take n)
theorem ac2 {t:TypeId} {fs:Array Field} {x:Operand} {k:Nat} {n:Option Nat} {g:Field} (ho:o.op=.field t x k) (ht:P.underlying t=some (.struct fs)) (hg:fs[k]? =some g)
 (hn:kb P g.type=some n):
 dK P o fun e _=>match(cO x).ev e with
  |.agg l=>part n l g.offset
  |_=>none:=by
 intro C U Λ h ls w e ρ v _ _ aB hv;dsimp only at hv;have hx:=aB x;revert hv;generalize (cO x).ev e=a at hx;intro hv;cases a<;>simp only at hv<;>(try(cases hv;done))
 generalize hc:ρ x=d at hx;cases hx with
 |agg l cs hl=>
  obtain⟨c,I,J⟩:=RZ (P:=P) (w:=w) hn hl hv;refine⟨c,?_,J⟩;simp only[execOp,ho,hc];refine cr ?_;simp only[Instr.field,Sem.run_bind,bj ht,Result.andThen_ok,hg,asAgg,Sem.run_pure];exact I
theorem Fp {a:V} {c:Value} {k:IntKind} {j:Nat} (h:VR U a c) (ha:a=.int k (.ofNat j)):c=.int k (.ofNat j):=by
 subst ha;cases h;rfl
theorem ac3 {t el:TypeId} {i:TypeInfo} {x ix:Operand} (ho:o.op=.indexAddr t x ix) (ht:P.underlying t=some (.slice el)) (hi:P.info? el=some i):
 dK P o fun e _=>match(cO ix).ev e with
  |.int _ j=>match j with
   |.ofNat j=>match(cO x).ev e with
    |.sl a o n _=>bif Nat.blt j n then some (.ptr a (o+j*i.size))else none
    |_=>none
   |.negSucc _=>none
  |_=>none:=by
 intro C U Λ h ls w e ρ v _ _ aB hv;dsimp only at hv;have hx:=aB x;have hj:=aB ix;revert hv;generalize (cO x).ev e=a at hx;generalize (cO ix).ev e=b at hj;intro hv;cases b<;>simp only at hv<;>(try(cases hv;done))
 rename_i k j;cases j<;>simp only at hv<;>(try(cases hv;done))
 rename_i j;cases a<;>simp only at hv<;>(try(cases hv;done))
 rename_i a off n c;cases hb:Nat.blt j n with
 |false=>simp[hb]at hv
 |true=>
  simp only[hb,E7,E8]at hv;subst hv;have ox:j<n:=by simpa using hb
  generalize hc:ρ x=d at hx;have d7:=Fp hj rfl;cases hx with
  |sl _ _ _ _ L capC ha hn bK=>
   refine⟨.pointer (some ⟨L.aw,L.base+(off+j*i.size),none⟩),?_,.ptr _ _ _ ha⟩;simp only[execOp,ho,hc,d7];refine cr ?_;simp[Instr.indexAt,asIntOf,bj ht,ox,gZ hi,qK,aqf]
  |dV=>exact absurd ox (arv _)
theorem ac4 {t el:TypeId} {i:TypeInfo} {x ix:Operand} {n:Nat} (ho:o.op=.indexAddr t x ix) (ht:P.underlying t=some (.array n el)) (hi:P.info? el=some i):
 dK P o fun e _=>match(cO ix).ev e with
  |.int _ j=>match j with
   |.ofNat j=>match(cO x).ev e with
    |.ptr a o=>bif Nat.blt j n then some (.ptr a (o+j*i.size))else none
    |_=>none
   |.negSucc _=>none
  |_=>none:=by
 intro C U Λ h ls w e ρ v _ _ aB hv;dsimp only at hv;have hx:=aB x;have hj:=aB ix;revert hv;generalize (cO x).ev e=a at hx;generalize (cO ix).ev e=b at hj;intro hv;cases b<;>simp only at hv<;>(try(cases hv;done))
 rename_i k j;cases j<;>simp only at hv<;>(try(cases hv;done))
 rename_i j;cases a<;>simp only at hv<;>(try(cases hv;done))
 rename_i a off;cases hb:Nat.blt j n with
 |false=>simp[hb]at hv
 |true=>
  simp only[hb,E7,E8]at hv;subst hv;have ox:j<n:=by simpa using hb
  generalize hc:ρ x=d at hx;have d7:=Fp hj rfl;cases hx with
  |ptr _ _ L ha=>
   refine⟨.pointer (some ⟨L.aw,L.base+(off+j*i.size),none⟩),?_,.ptr _ _ _ ha⟩;simp only[execOp,ho,hc,d7];refine cr ?_;simp[Instr.indexAt,asIntOf,bj ht,ox,Instr.sureAddr,gZ hi,qK,aqf]
theorem ac5 {t:TypeId} {x ix:Operand} (ho:o.op=.index t x ix) (ht:P.underlying t=some .string):
 dK P o fun e _=>match(cO ix).ev e with
  |.int _ j=>match j with
   |.ofNat j=>match(cO x).ev e with
    |.str s=>match nth s j with|some b=>some (c5 b)|none=>none
    |_=>none
   |.negSucc _=>none
  |_=>none:=by
 intro C U Λ h ls w e ρ v _ _ aB hv;dsimp only at hv;have hx:=aB x;have hj:=aB ix;revert hv;generalize (cO x).ev e=a at hx;generalize (cO ix).ev e=b at hj;intro hv;cases b<;>simp only at hv<;>(try(cases hv;done))
 rename_i k j;cases j<;>simp only at hv<;>(try(cases hv;done))
 rename_i j;cases a<;>simp only at hv<;>(try(cases hv;done))
 generalize hc:ρ x=d at hx;have d7:=Fp hj rfl;cases hx with
 |str s=>
  rw[qH]at hv;cases hb:s.data.toList[j]? with
  |none=>simp[hb]at hv
  |some b=>
   simp only[hb,E8]at hv;subst hv;refine⟨.int .u8 b.toNat,?_,.int _ _⟩;simp only[execOp,ho,hc,d7];refine cr ?_;have:s[j]? =some b:=by
    have ap:j<s.data.toList.length:=(ap1.1 hb).1;have W5:j<s.size:=by rwa [sJ]at ap
    rw[ByteArray.getElem?_lt' s j W5];have J:=(ap1.1 hb).2;rw[←J];simp;rfl
   simp[Instr.index,asIntOf,bj ht,this]
theorem ac6 {t el:TypeId} {i:TypeInfo} {x ix:Operand} {len:Nat} {n:Option Nat} (ho:o.op=.index t x ix) (ht:P.underlying t=some (.array len el)) (hi:P.info? el=some i)
 (hn:kb P el=some n):
 dK P o fun e _=>match(cO ix).ev e with
  |.int _ j=>match j with
   |.ofNat j=>match(cO x).ev e with
    |.agg l=>bif Nat.blt j len then part n l (j*i.size)else none
    |_=>none
   |.negSucc _=>none
  |_=>none:=by
 intro C U Λ h ls w e ρ v _ _ aB hv;dsimp only at hv;have hx:=aB x;have hj:=aB ix;revert hv;generalize (cO x).ev e=a at hx;generalize (cO ix).ev e=b at hj;intro hv;cases b<;>simp only at hv<;>(try(cases hv;done))
 rename_i k j;cases j<;>simp only at hv<;>(try(cases hv;done))
 rename_i j;cases a<;>simp only at hv<;>(try(cases hv;done))
 cases hb:Nat.blt j len with
 |false=>simp[hb]at hv
 |true=>
  simp only[hb,E7]at hv;have ox:j<len:=by simpa using hb
  generalize hc:ρ x=d at hx;have d7:=Fp hj rfl;cases hx with
  |agg l cs hl=>
   obtain⟨c,I,J⟩:=RZ (P:=P) (w:=w) hn hl hv;refine⟨c,?_,J⟩;simp only[execOp,ho,hc,d7];refine cr ?_;simp only[Instr.index,asIntOf,Sem.run_bind,Sem.run_pure,Result.andThen_ok,bj ht];have:(0:Int)≤Int.ofNat j∧Int.ofNat j<(len:Int):=⟨by simp,by simpa using ox⟩
   rw[B4 this];simp only[Sem.run_bind,gZ hi,Result.andThen_ok];exact I
theorem ac7 {x:Operand} {i:Nat} (ho:o.op=.extract x i):
 dK P o fun e _=>match(cO x).ev e with
  |.aM l=>nth l i
  |_=>none:=by
 intro C U Λ h ls w e ρ v _ _ aB hv;dsimp only at hv;have hx:=aB x;revert hv;generalize (cO x).ev e=a at hx;intro hv;cases a<;>simp only[qH]at hv<;>(try(cases hv;done))
 generalize hc:ρ x=d at hx;cases hx with
 |aM l cs hl=>
  obtain⟨c,I,J⟩:=hl.get hv;refine⟨c,?_,J⟩;simp only[execOp,ho,hc];refine cr ?_;have:(⟨cs⟩:Array Value)[i]? =some c:=by simpa using I
  simp[Instr.extract,this]
theorem Lo {ok b:Bool} {v:V} {c:Value} (h:VR U v c):VR U (wV ok v b) (if ok then .tuple #[c,.bool b]else c):=by
 cases ok with
 |true=>exact .aM _ _ (.cons _ _ _ _ h (.cons _ _ _ _ (.bool b) .nil))
 |false=>exact h
theorem ac8 {t xt:TypeId} {d:TypeDesc} {x:Operand} {ok:Bool} {z:V} (ho:o.op=.typeAssert x xt t ok) (ht:P.underlying t=some d) (hd:∀m,d≠.interface m) (hz:jM P t=some z):
 dK P o fun e _=>match(cO x).ev e with
  |.iface t' v=>bif Nat.beq t t' then some (wV ok v true)else bif ok then some (.aM [z,.bool false])else none
  |.no k=>match k with
   |.iface=>bif ok then some (.aM [z,.bool false])else none
   |_=>none
  |_=>none:=by
 intro C U Λ h ls w e ρ v _ _ aB hv;dsimp only at hv;obtain⟨i,zv,hi,lw,rfl⟩:=y9 hz;have hx:=aB x;revert hv;generalize (cO x).ev e=a at hx;intro hv;have NM:VR U (.aM [dU zv,.bool false]) (.tuple #[zv,.bool false]):=.aM _ _ (.cons _ _ _ _ (Cj U zv) (.cons _ _ _ _ (.bool false) .nil));cases a<;>simp only at hv<;>(try(cases hv;done))
 ·rename_i k;cases k<;>simp only at hv<;>(try(cases hv;done))
  cases ok with
  |false=>simp at hv
  |true=>
   simp only[E7,E8]at hv;subst hv;generalize hc:ρ x=d' at hx;cases hx;refine⟨_,?_,NM⟩;simp only[execOp,ho,hc];refine cr ?_;simp only[Instr.typeAssert,Sem.run_bind,bj ht,Result.andThen_ok];cases d<;>first|(simp[lD hi lw];done)|exact absurd rfl (hd _)
 ·rename_i t' u;generalize hc:ρ x=d' at hx;cases hx with
  |iface _ _ c hu=>
   cases hb:Nat.beq t t' with
   |true=>
    have:=apY hb;subst this;simp only[hb,E7,E8]at hv;subst hv;refine⟨_,?_,Lo hu⟩;simp only[execOp,ho,hc];refine cr ?_;simp only[Instr.typeAssert,Sem.run_bind,bj ht,Result.andThen_ok];cases d<;>first|(simp;done)|exact absurd rfl (hd _)
   |false=>
    have bx:¬t'=t:=by intro e1;subst e1;simp at hb
    simp only[hb,KL]at hv;cases ok with
    |false=>simp at hv
    |true=>
     simp only[E7,E8]at hv;subst hv;refine⟨_,?_,NM⟩;simp only[execOp,ho,hc];refine cr ?_;simp only[Instr.typeAssert,Sem.run_bind,bj ht,Result.andThen_ok];cases d<;>first|(simp[bx,lD hi lw];done)|exact absurd rfl (hd _)
theorem uM {b:Builtin} {c:Call} {ty:TypeId} (hc:c.callee=.builtin b):
 ∃k,(do let d←resolve ρ c ty;invoke d.target d.args:Sem Next).run P w=(builtin b c.argTypes ty k (c.args.map ρ)).run P w:=
 ⟨_,by simp only[resolve,hc,Sem.run_bind,Sem.run_pure,Result.andThen_ok,invoke];rfl⟩
theorem za {c:Call} {y:Operand} (ha:c.args.toList=[y]):c.args=#[y]:=by
 rw[←lb7 (xs:=c.args),ha]
theorem ac9 {c:Call} {y:Operand} {t el:TypeId} (ho:o.op=.call c) (hc:c.callee=.builtin .len) (ha:c.args.toList=[y]) (ht:c.argTypes[0]? =some t) (hu:P.underlying t=some (.slice el)):
 dK P o fun e _=>sE ((cO y).ev e):=by
 intro C U Λ h ls w e ρ v _ _ aB hv;dsimp only at hv;have hx:=aB y;revert hv;generalize (cO y).ev e=a at hx;intro hv;suffices hs:∃r,(Builtin.len_ c.argTypes o.type #[ρ y]).run P w=.ok r w∧VR U v r by
  obtain⟨r,I,J⟩:=hs;refine⟨r,?_,J⟩;simp only[execOp,ho];obtain⟨k,hk⟩:=uM (P:=P) (w:=w) (ρ:=ρ) (ty:=o.type) hc;rw[hk,za ha];simp only[builtin,aqQ,ap3,aqS];exact cr I
 cases a<;>simp only[sE]at hv<;>(try(cases hv;done))
 ·rename_i a off n cc;simp only[E8]at hv;subst hv;generalize ρ y=d at hx⊢;cases hx<;>exact⟨_,by simp[Builtin.len_,ht,bj hu];rfl,.int _ _⟩
 ·rename_i k;cases k<;>simp only at hv<;>(try(cases hv;done))
  simp only[E8]at hv;subst hv;generalize ρ y=d at hx⊢;cases hx;exact⟨_,by simp[Builtin.len_,ht,bj hu];rfl,.int _ _⟩
theorem ada {c:Call} {y:Operand} {t:TypeId} (ho:o.op=.call c) (hc:c.callee=.builtin .len) (ha:c.args.toList=[y]) (ht:c.argTypes[0]? =some t) (hu:P.underlying t=some .string):
 dK P o fun e _=>KV ((cO y).ev e):=by
 intro C U Λ h ls w e ρ v _ _ aB hv;dsimp only at hv;have hx:=aB y;revert hv;generalize (cO y).ev e=a at hx;intro hv;cases a<;>simp only[KV]at hv<;>(try(cases hv;done))
 simp only[E8]at hv;subst hv;generalize hd:ρ y=d at hx;cases hx with
 |str s=>
  rw[sJ];refine⟨goInt s.size,?_,.int _ _⟩;simp only[execOp,ho];obtain⟨k,hk⟩:=uM (P:=P) (w:=w) (ρ:=ρ) (ty:=o.type) hc;rw[hk,za ha];simp only[builtin,aqQ,ap3,aqS,hd];exact cr (by simp[Builtin.len_,ht,bj hu])
theorem adb {c:Call} {y:Operand} {t el:TypeId} (ho:o.op=.call c) (hc:c.callee=.builtin .cap) (ha:c.args.toList=[y]) (ht:c.argTypes[0]? =some t) (hu:P.underlying t=some (.slice el)):
 dK P o fun e _=>KW ((cO y).ev e):=by
 intro C U Λ h ls w e ρ v _ _ aB hv;dsimp only at hv;have hx:=aB y;revert hv;generalize (cO y).ev e=a at hx;intro hv;suffices hs:∃r,(Builtin.cap_ c.argTypes o.type #[ρ y]).run P w=.ok r w∧VR U v r by
  obtain⟨r,I,J⟩:=hs;refine⟨r,?_,J⟩;simp only[execOp,ho];obtain⟨k,hk⟩:=uM (P:=P) (w:=w) (ρ:=ρ) (ty:=o.type) hc;rw[hk,za ha];simp only[builtin,aqQ,ap3,aqS];exact cr I
 cases a<;>simp only[KW]at hv<;>(try(cases hv;done))
 ·rename_i a off n cc;cases cc with
  |un s=>simp at hv
  |ex cc=>
   simp only[E8]at hv;subst hv;generalize ρ y=d at hx⊢;cases hx with
   |sl _ _ _ _ L capC I hn bK=>
    simp only[lz]at bK;subst bK;exact⟨_,by simp[Builtin.cap_,ht,bj hu];rfl,.int _ _⟩
   |dV _ _ _ b6 bK=>
    have:=Fg bK;subst this;exact⟨_,by simp[Builtin.cap_,ht,bj hu];rfl,.int _ _⟩
 ·rename_i k;cases k<;>simp only at hv<;>(try(cases hv;done))
  simp only[E8]at hv;subst hv;generalize ρ y=d at hx⊢;cases hx;exact⟨_,by simp[Builtin.cap_,ht,bj hu];rfl,.int _ _⟩
theorem ade {b:Bool} {x y v:V} {c d:Value} (hx:VR U x c) (hy:VR U y d) (hv:mm b x y=some v):
 ∃r,(if b then Builtin.max2 c d else Builtin.min2 c d).run P w=.ok r w∧VR U v r:=by
 cases x<;>simp only[mm]at hv<;>(try(cases hv;done))
 cases y<;>simp only at hv<;>(try(cases hv;done))
 rename_i k i k' j;cases hk:cW k k' with
 |false=>simp[hk]at hv
 |true=>
  have:=Ck hk;subst this;simp only[hk,E7,E8,sH]at hv;subst hv;cases hx;cases hy;cases b with
  |true=>
   refine⟨.int k (if j>i then j else i),by simp[Builtin.max2],?_⟩;by_cases ap:i<j
   ·simp[ap];exact .int _ _
   ·simp[ap];exact .int _ _
  |false=>
   refine⟨.int k (if j<i then j else i),by simp[Builtin.min2],?_⟩;by_cases ap:j<i
   ·simp[ap];exact .int _ _
   ·simp[ap];exact .int _ _
theorem R0 (b:Bool) (aB:iC U e ρ):∀(l:List Operand) (x v:V) (c:Value),VR U x c→qz b e (l.map cO) x=some v→
 ∃r,((l.map ρ).foldlM (fun p q=>if b then Builtin.max2 p q else Builtin.min2 p q) c).run P w=.ok r w∧VR U v r
 |[],x,v,c,hx,hv=>by simp[qz]at hv;subst hv;exact⟨c,by simp,hx⟩
 |y::l,x,v,c,hx,hv=>by
  simp only[ap3,qz]at hv;cases hm:mm b x ((cO y).ev e)with
  |none=>simp[hm]at hv
  |some z=>
   simp only[hm]at hv;obtain⟨r,I,J⟩:=ade (P:=P) (w:=w) hx (aB y) hm;obtain⟨r',h3,h4⟩:=R0 b aB l z v r J hv;refine⟨r',?_,h4⟩;simp only[ap3,List.foldlM_cons,Sem.run_bind,I,Result.andThen_ok,h3]
theorem R3 {c:Call} {y:Operand} {l:List Operand} (b:Bool) (ho:o.op=.call c) (hc:c.callee=.builtin (if b then .max else .min)) (ha:c.args.toList=y::l):
 dK P o fun e _=>qz b e (l.map cO) ((cO y).ev e):=by
 intro C U Λ h ls w e ρ v _ _ aB hv;dsimp only at hv;obtain⟨r,I,J⟩:=R0 (P:=P) (w:=w) b aB l _ v (ρ y) (aB y) hv;refine⟨r,?_,J⟩;simp only[execOp,ho];obtain⟨Do,ru⟩:=uM (P:=P) (w:=w) (ρ:=ρ) (ty:=o.type) hc;rw[ru];have:(c.args.map ρ).toList=ρ y::l.map ρ:=by simp[ha]
 cases b with
 |true=>
  simp only[if_true,builtin];exact cr (by simp only[Builtin.max_,this];simpa using I)
 |false=>
  simp only[aqN,if_false,builtin];exact cr (by simp only[Builtin.min_,this];simpa using I)
end Go.Ev
namespace Go.Ev
variable{C:Cx} {U:AM} {Λ:Pa→Prop} {h:Hp} {ls:List LE} {w:World} {e:T V} {ρ:Operand→Value}
variable{P:Program} {o:Oper}
theorem adf:aY [V.no .bot]=false:=rfl
theorem Lp {v:V} {c:Value} (h:VR U v c) (hs:aY v.cells=true):bd U v.cells c.cells.toList:=by
 refine h.cells ?_;intro e;subst e;simp[V.cells,adf]at hs
theorem R4 (off:Nat):∀(vs:List Value) (k:Nat) (cells:Array Value),
 ((vs.zipIdx k).foldl (fun cs (p:Value×Nat)=>cs.setIfInBounds (off+p.2) p.1) cells).size=cells.size∧
 ∀j,j<cells.size→((vs.zipIdx k).foldl (fun cs (p:Value×Nat)=>cs.setIfInBounds (off+p.2) p.1) cells)[j]? =
  if off+k≤j∧j<off+k+vs.length then vs[j-off-k]? else cells[j]?
 |[],k,cells=>by
  refine⟨rfl,fun j hj=>?_⟩;have:¬(off+k≤j∧j<off+k+([]:List Value).length):=by simp
  rw[pg this];simp
 |v::vs,k,cells=>by
  obtain⟨I,J⟩:=R4 off vs (k+1) (cells.setIfInBounds (off+k) v);simp only[List.zipIdx_cons,aqk];refine⟨by rw[I];simp,fun j hj=>?_⟩;rw[J j (by simpa using hj)];by_cases hc:off+(k+1)≤j∧j<off+(k+1)+vs.length
  ·have fT:off+k≤j∧j<off+k+(v::vs).length:=by simp;omega
   rw[B4 hc,B4 fT];have:j-off-k=(j-off-(k+1))+1:=by omega
   rw[this];simp
  ·rw[pg hc];by_cases he:j=off+k
   ·subst he;have fT:off+k≤off+k∧off+k<off+k+(v::vs).length:=by simp
    rw[B4 fT];have:off+k-off-k=0:=by omega
    rw[this];simp[hj]
   ·have fT:¬(off+k≤j∧j<off+k+(v::vs).length):=by simp;omega
    rw[pg fT,lb3 (by omega)]
theorem adg {o:Nat} {z xs z':List V} (h:dk o z xs=some z') {zc xc:List Value} (hz:bd U z zc) (hx:bd U xs xc):
 o+xc.length≤zc.length∧∀r:Array Value,r.size=zc.length→(∀j,j<zc.length→r[j]? =if o≤j∧j<o+xc.length then xc[j-o]? else zc[j]?)→bd U z' r.toList:=by
 obtain⟨I,J⟩:=Ci h;have l1:=hz.length;have l2:=hx.length;refine⟨by omega,fun r hr bE=>?_⟩;refine bd.RC (by rw[J];simp;omega) fun i v hv=>?_;have hi:i<z'.length:=(ap1.1 hv).1;have hlen:z'.length=zc.length:=by rw[J];simp;omega
 have hg:=bE i (by omega);rw[show r.toList[i]? =r[i]? from by simp,hg];rw[J]at hv;by_cases fK:i<o
 ·rw[pg (by omega)];rw[KK,apQ (by simp;omega),arH fK]at hv;exact hz.get hv
 ·by_cases jw:i<o+xc.length
  ·rw[B4 ⟨by omega,jw⟩];rw[KK,apG (by simp;omega),apQ (by simp;omega)]at hv;have:i-(z.take o).length=i-o:=by simp;omega
   rw[this]at hv;exact hx.get hv
  ·rw[pg (by omega)];rw[apG (by simp;omega),aqi]at hv;have:o+xs.length+(i-(List.take o z++xs).length)=i:=by simp;omega
   rw[this]at hv;exact hz.get hv
theorem Fq {place:Nat→Option (Nat×Nat)} (aB:iC U e ρ):∀(ps:List (Nat×Operand)) (l:List (Nat×Nat×Od)) (z z':List V) (zc:List Value),
 kd place ps=some l→jd e l z=some z'→bd U z zc→
 ∃kS,Instr.fill place zc.toArray (ps.map fun p=>(p.1,ρ p.2))=some kS.toArray∧bd U z' kS
 |[],l,z,z',zc,hl,hz,hr=>by
  simp[kd]at hl;subst hl;simp[jd]at hz;subst hz;exact⟨zc,rfl,hr⟩
 |(i,x)::ps,l,z,z',zc,hl,hz,hr=>by
  simp only[kd]at hl;cases hp:place i with
  |none=>simp[hp]at hl
  |some p=>
   obtain⟨off,n⟩:=p;simp only[hp]at hl;cases jx:kd place ps with
   |none=>simp[jx]at hl
   |some l'=>
    simp only[jx,E8]at hl;subst hl;simp only[jd]at hz;cases hb:Nat.beq ((cO x).ev e).cells.length n with
    |false=>simp[hb]at hz
    |true=>
     simp only[hb,E7]at hz;cases hs:aY ((cO x).ev e).cells with
     |false=>simp[hs]at hz
     |true=>
      simp only[hs,E7]at hz;cases cI:dk off z ((cO x).ev e).cells with
      |none=>simp[cI]at hz
      |some z1=>
       simp only[cI]at hz;have hn:=apY hb;have vo:=Lp (aB x) hs;have jp:=vo.length;obtain⟨g1,g2⟩:=adg cI hr vo;obtain⟨f1,f8⟩:=R4 off (ρ x).cells.toList 0 zc.toArray;have xP:=g2 _ (by rw[f1];simp) (fun j hj=>by rw[f8 j (by simpa using hj)];simp);obtain⟨kS,k1,k2⟩:=Fq aB ps l' z1 z' _ jx hz xP;refine⟨kS,?_,k2⟩;simp only[ap3,Instr.fill,hp];have fK:¬((ρ x).cells.size≠n):=by
        have:(ρ x).cells.size=(ρ x).cells.toList.length:=by simp
        omega
       have jw:¬(off+(ρ x).cells.size>zc.toArray.size):=by
        have:(ρ x).cells.size=(ρ x).cells.toList.length:=by simp
        simp only[List.size_toArray];omega
       have hf:(ρ x).cells.zipIdx.foldl (fun cs (p:Value×Nat)=>cs.setIfInBounds (off+p.2) p.1) zc.toArray=
        ((ρ x).cells.toList.zipIdx 0).foldl (fun cs (p:Value×Nat)=>cs.setIfInBounds (off+p.2) p.1) zc.toArray:=by
        rw[←Array.foldl_toList,Array.toList_zipIdx]
       have pT:((ρ x).cells.size !=n||decide (off+(ρ x).cells.size>zc.toArray.size))=false:=by
        simp only[W0,bne_eq_false_iff_eq,NI];exact⟨by simpa using fK,jw⟩
       have fj:¬((decide ((ρ x).cells.size≠n)||decide (off+(ρ x).cells.size>zc.toArray.size))=true):=by
        simp only[amt,G6];exact fun h=>h.elim fK jw
       rw[pg fj];have He:=k1;simp only[lb7]at He;rw[←hf]at He;exact He
theorem adh {fs:Array Field} (hf:fs.toList.all (fun f=>(gz P f.type).isSome)=true):
 (fs.mapM (fun f=>do pure (f.offset,←sizeOf f.type)):Sem (Array (Nat×Nat))).run P w=.ok (fs.map fun f=>(f.offset,P.cellsOf f.type)) w:=by
 rw[Array.mapM_eq_mapM_toList];have:∀l:List Field,l.all (fun f=>(gz P f.type).isSome)=true→
  (l.mapM (fun f=>do pure (f.offset,←sizeOf f.type)):Sem (List (Nat×Nat))).run P w=.ok (l.map fun f=>(f.offset,P.cellsOf f.type)) w:=by
  intro l
  induction l with
  |nil=>intro _;simp
  |cons f l ih=>
   intro hl;simp only[aqJ,G7]at hl;obtain⟨n,hn⟩:=ap4.1 hl.1;obtain⟨i,hi,gc⟩:=qJ hn;have hc:P.cellsOf f.type=i.size:=by simp[Program.cellsOf,hi]
   simp only[List.mapM_cons,Sem.run_bind,gZ hi,Result.andThen_ok,Sem.run_pure,ih hl.2,ap3,hc]
 rw[Sem.run_map,this fs.toList hf,←lb9,Result.andThen_ok,lb7]
theorem adi (c:Value):(uC c).cells=[uC c]:=by
 unfold uC;split<;>rfl
theorem qN (c:Value):bd U (dU c).cells c.cells.toList:=by
 unfold dU;split
 ·rename_i cs;exact RD U cs.toList
 ·rename_i bx;rw[adi];have:c.cells=#[c]:=by cases c<;>first|rfl|exact absurd rfl (bx _)
  rw[this];exact .cons _ _ _ _ (K7 U _) .nil
theorem adj {t:TypeId} {fs:Array Field} {ps:Array (Nat×Operand)} {z:V} {l:List (Nat×Nat×Od)} (ho:o.op=.build t ps) (ht:P.underlying t=some (.struct fs))
 (hf:fs.toList.all (fun f=>(gz P f.type).isSome)=true) (hz:jM P t=some z)
 (hl:kd (fun i=>(fs[i]?).bind fun f=>(gz P f.type).map fun n=>(f.offset,n)) ps.toList=some l):
 dK P o fun e _=>match jd e l z.cells with|some l=>some (.agg l)|none=>none:=by
 intro C U Λ h ls w e ρ v _ _ aB hv;dsimp only at hv;obtain⟨i,zv,hi,lw,rfl⟩:=y9 hz;cases l6:jd e l (dU zv).cells with
 |none=>simp[l6]at hv
 |some z'=>
  simp only[l6,E8]at hv;subst hv;have vp:bd U (dU zv).cells zv.cells.toList:=qN zv;obtain⟨kS,k1,k2⟩:=Fq aB ps.toList l _ z' _ hl l6 vp;refine⟨.agg kS.toArray,?_,.agg _ _ k2⟩;simp only[execOp,ho];refine cr ?_;have W6:(fun(i:Nat)=>(fs.map fun(f:Field)=>(f.offset,P.cellsOf f.type))[i]?)=(fun(i:Nat)=>(fs[i]?).bind fun(f:Field)=>(gz P f.type).map fun n=>(f.offset,n)):=by
   funext j;simp only[Array.getElem?_map];cases hj:fs[j]? with
   |none=>simp
   |some f=>
    have hm:f∈fs.toList:=by
     have:=lb1.1 hj;obtain⟨I,J⟩:=this;rw[←J];simp
    have:=(ap6.1 hf) f hm;obtain⟨n,hn⟩:=ap4.1 this;obtain⟨i',b8,W7⟩:=qJ hn;have hc:P.cellsOf f.type=n:=by simp[Program.cellsOf,b8,W7]
    simp[hn,hc]
  simp only[Instr.build,Sem.run_bind,lD hi lw,Result.andThen_ok,bj ht,adh hf];have:(ps.map fun(p:Nat×Operand)=>(p.1,ρ p.2)).toList=ps.toList.map fun p=>(p.1,ρ p.2):=by simp
  have k3:Instr.fill (fun(i:Nat)=>(fs.map fun(f:Field)=>(f.offset,P.cellsOf f.type))[i]?) zv.cells (ps.map fun(p:Nat×Operand)=>(p.1,ρ p.2)).toList=some kS.toArray:=by
   rw[this,W6];simpa using k1
  simp only[k3];rfl
theorem adk {t el:TypeId} {i':TypeInfo} {len:Nat} {ps:Array (Nat×Operand)} {z:V} {l:List (Nat×Nat×Od)} (ho:o.op=.build t ps) (ht:P.underlying t=some (.array len el))
 (b8:P.info? el=some i') (hz:jM P t=some z)
 (hl:kd (fun i=>some (i*i'.size,i'.size)) ps.toList=some l):
 dK P o fun e _=>match jd e l z.cells with|some l=>some (.agg l)|none=>none:=by
 intro C U Λ h ls w e ρ v _ _ aB hv;dsimp only at hv;obtain⟨i,zv,hi,lw,rfl⟩:=y9 hz;cases l6:jd e l (dU zv).cells with
 |none=>simp[l6]at hv
 |some z'=>
  simp only[l6,E8]at hv;subst hv;have vp:bd U (dU zv).cells zv.cells.toList:=qN zv;obtain⟨kS,k1,k2⟩:=Fq aB ps.toList l _ z' _ hl l6 vp;refine⟨.agg kS.toArray,?_,.agg _ _ k2⟩;simp only[execOp,ho];refine cr ?_;simp only[Instr.build,Sem.run_bind,lD hi lw,Result.andThen_ok,bj ht,gZ b8];have:(ps.map fun(p:Nat×Operand)=>(p.1,ρ p.2)).toList=ps.toList.map fun p=>(p.1,ρ p.2):=by simp
  have k3:Instr.fill (fun i=>some (i*i'.size,i'.size)) zv.cells (ps.map fun(p:Nat×Operand)=>(p.1,ρ p.2)).toList=some kS.toArray:=by
   rw[this];simpa using k1
  simp only[k3];rfl
end Go.Ev
namespace Go.Ev
variable{C:Cx} {U:AM} {Λ:Pa→Prop} {h:Hp} {ls:List LE} {w:World} {e:T V} {ρ:Operand→Value}
variable{P:Program} {o:Oper}
def jP (U:AM) (es:List (V×V×Nat)) (bv:List MapEntry):Prop:=
 bv.length=es.length∧∀(i:Nat) (t:V×V×Nat),es[i]? =some t→∃x,bv[i]? =some x∧VR U t.1 x.key∧VR U t.2.1 x.val∧x.born=t.2.2
theorem jP.cons {t:V×V×Nat} {es:List (V×V×Nat)} {bv:List MapEntry} (h:jP U (t::es) bv):
 ∃x r,bv=x::r∧VR U t.1 x.key∧VR U t.2.1 x.val∧x.born=t.2.2∧jP U es r:=by
 obtain⟨I,J⟩:=h;cases bv with
 |nil=>simp at I
 |cons x r=>
  obtain⟨y,hy,k1,k2,k3⟩:=J 0 t (by simp);simp at hy;subst hy;exact⟨x,r,rfl,k1,k2,k3,by simpa using I,fun i u hu=>by simpa using J (i+1) u (by simpa using hu)⟩
def Lq (U:AM):Option (Nat×V)→Option (Nat×Value)→Prop
 |none,none=>True
 |some (i,v),some (j,c)=>i=j∧VR U v c
 |_,_=>False
theorem R5 {t:TypeId} {k:V} {kc:Value} (hk:VR U k kc):∀(es:List (V×V×Nat)) (bv:List MapEntry) (i:Nat) (r:Option (Nat×V)),
 jP U es bv→iQ (a7 P t) k es i=some r→∃r',(Instr.findAsking t kc bv i).run P w=.ok r' w∧Lq U r r'
 |[],bv,i,r,he,hr=>by
  have:bv=[]:=ap8 (by simpa using he.1);subst this;simp[iQ]at hr;subst hr;exact⟨none,by simp[Instr.findAsking],trivial⟩
 |(k',v,n)::es,bv,i,r,he,hr=>by
  obtain⟨x,rest,rfl,I,J,h3,h4⟩:=he.cons;simp only[iQ]at hr;cases hq:da (a7 P t) k k' with
  |none=>simp[hq]at hr
  |some b=>
   obtain⟨e1,_,_⟩:=RQ (P:=P) (w:=w) hk I hq;simp only[hq]at hr;cases b with
   |true=>
    simp only[E7,E8]at hr;subst hr;exact⟨some (i,x.val),by simp[Instr.findAsking,e1],rfl,J⟩
   |false=>
    simp only[KL]at hr;obtain⟨r',g1,g2⟩:=R5 hk es rest (i+1) r h4 hr;exact⟨r',by simp[Instr.findAsking,e1,g1],g2⟩
theorem adl {t:TypeId} {k k':V} {kc NN:Value} {b b':Bool} {d:TypeDesc} (hk:VR U k kc) (dZ:VR U k' NN) (hq:da (a7 P t) k k'=some b)
 (hs:Instr.sameNow d kc NN=some b'):b=b':=by
 rcases Li hq with⟨q,i,q',j,rfl,rfl,rfl,rfl⟩|⟨i,j,rfl,rfl,rfl⟩|⟨n1,n2,n3⟩
 ·cases hk;cases dZ;cases d<;>simp[Instr.sameNow]at hs<;>exact hs
 ·cases hk with
  |str s=>cases dZ with
   |str s'=>
    cases d<;>simp[Instr.sameNow]at hs
    rw[←hs];have:=beq_toListBytes s s';rw[ByteArray.toList_eq,ByteArray.toList_eq]at this;exact this.symm
 ·cases hk<;>first
   |exact absurd rfl (n1 _ _)
   |exact absurd rfl (n2 _)
   |exact absurd rfl n3
   |(cases d<;>simp[Instr.sameNow]at hs;done)
   |skip
  cases dZ<;>first
   |(cases d<;>simp[Instr.sameNow]at hs;done)
   |skip
  ·rename_i x y;cases d<;>simp[Instr.sameNow]at hs
   subst hs;cases he:a7 P t with
   |flat q=>
    rw[he]at hq;cases q<;>simp[da,fq]at hq
    rw[←hq,RM]
   |agg l=>rw[he]at hq;simp[da]at hq
   |_=>rw[he]at hq;simp[da,isNil]at hq
  all_goals
   cases he:a7 P t with
   |flat q=>rw[he]at hq;cases q<;>simp[da,fq]at hq
   |agg l=>rw[he]at hq;simp[da]at hq
   |_=>rw[he]at hq;simp[da,isNil]at hq
theorem R6 {t:TypeId} {k:V} {kc:Value} {d:TypeDesc} (hk:VR U k kc):∀(es:List (V×V×Nat)) (bv:List MapEntry) (i:Nat) (r:Option (Nat×V)) (r':Option (Nat×Value)),
 jP U es bv→iQ (a7 P t) k es i=some r→Instr.findNow d kc bv i=some r'→Lq U r r'
 |[],bv,i,r,r',he,hr,hn=>by
  have:bv=[]:=ap8 (by simpa using he.1);subst this;simp[iQ]at hr;subst hr;simp[Instr.findNow]at hn;subst hn;trivial
 |(k',v,n)::es,bv,i,r,r',he,hr,hn=>by
  obtain⟨x,rest,rfl,I,J,h3,h4⟩:=he.cons;simp only[iQ]at hr;cases hq:da (a7 P t) k k' with
  |none=>simp[hq]at hr
  |some b=>
   simp only[hq]at hr;simp only[Instr.findNow]at hn;cases hs:Instr.sameNow d kc x.key with
   |none=>simp[hs]at hn
   |some b'=>
    have:=adl hk I hq hs;subst this;cases b with
    |true=>
     simp only[E7,E8]at hr;subst hr;simp only[hs,E8]at hn;subst hn;exact⟨rfl,J⟩
    |false=>
     simp only[KL]at hr;simp only[hs]at hn;exact R6 hk es rest (i+1) r r' h4 hr hn
theorem adm {t:TypeId} (h:dJ (a7 P t)=true):∃d,P.underlying t=some d:=by
 rcases sI (P:=P) t with⟨q,I,J⟩|⟨_,fs,I,J,_⟩|⟨I,_⟩|⟨I,_⟩|⟨I,_⟩|⟨I,_⟩|⟨I,_⟩|I<;>rw[I]at h<;>(try(cases h;done))
 ·rcases Fj J with⟨_,hu⟩|⟨_,k,hu⟩|⟨_,hu⟩<;>exact⟨_,hu⟩
 ·exact⟨_,J⟩
theorem Lr {t:TypeId} {k:V} {kc:Value} {es:List (V×V×Nat)} {bv:List MapEntry} {r:Option (Nat×V)} (hk:VR U k kc) (he:jP U es bv)
 (hr:iQ (a7 P t) k es 0=some r) (hq:dJ (a7 P t)=true):∃r',(Instr.findKey t kc bv).run P w=.ok r' w∧Lq U r r':=by
 obtain⟨d,hd⟩:=adm hq;cases hn:Instr.findNow d kc bv 0 with
 |some r'=>exact⟨r',by simp[Instr.findKey,bj hd,hn],R6 hk es bv 0 r r' he hr hn⟩
 |none=>
  obtain⟨r',g1,g2⟩:=R5 (P:=P) (w:=w) hk es bv 0 r he hr;exact⟨r',by simp[Instr.findKey,bj hd,hn,g1],g2⟩
theorem R7 {t:TypeId} {q:jL} (ht:pk P t=some q) (b:Bool) (n:Nat) (c:Value):(Instr.checkKey b (n+1) t c).run P w=.ok () w:=by
 rcases Fj ht with⟨_,hu⟩|⟨_,k,hu⟩|⟨_,hu⟩<;>
  (simp only[Instr.checkKey,Sem.run_bind,bj hu,Result.andThen_ok];cases c<;>rfl)
theorem R8 {xs:List V} {cs:List Value} (hx:bd U xs cs) (b:Bool) (n:Nat):∀(fs:List Field) (l:List (Nat×jL)),nQ P fs=some l→Fa xs l=true→
 (forIn fs PUnit.unit (fun(f:Field) (_:PUnit)=>(do
   if f.name≠ "_" then do
    let x←Go.part f.type cs.toArray f.offset
    Instr.checkKey b (n+1) f.type x
    pure (ForInStep.yield PUnit.unit)
   else pure (ForInStep.yield PUnit.unit):Sem (ForInStep PUnit)))).run P w=.ok PUnit.unit w
 |[],l,_,_=>by simp
 |f::fs,l,hl,hf=>by
  simp only[nQ]at hl;cases rc:nQ P fs with
  |none=>simp[rc]at hl
  |some m=>
   simp only[rc]at hl;have ih:=R8 hx b n fs m rc;by_cases hn:f.name≠ "_"
   ·rw[B4 hn]at hl;cases hq:pk P f.type with
    |none=>simp[hq]at hl
    |some q=>
     simp[hq]at hl;subst hl;simp only[Fa,qH]at hf;cases ha:xs[f.offset]? with
     |none=>simp[ha]at hf
     |some a=>
      simp only[ha]at hf;cases Dp:B9 q a with
      |false=>simp[Dp]at hf
      |true=>
       simp only[Dp,E7]at hf;obtain⟨c,hc,_⟩:=hx.get ha;have m3:∀w,(isAgg f.type).run P w=.ok false w:=fun w=>RP hq;have p1:=Fk (P:=P) (w:=w) (cs:=cs.toArray) (o:=f.offset) (m3 w) (by simpa using hc);simp only[List.forIn_cons,Sem.run_bind,B4 hn,p1,Result.andThen_ok,R7 hq,Sem.run_pure];exact ih hf
   ·rw[pg hn]at hl;cases hl;simp only[List.forIn_cons,Sem.run_bind,pg hn,Sem.run_pure,Result.andThen_ok];exact ih hf
theorem Ls {t:TypeId} {k:V} {c:Value} (hk:VR U k c) (hf:fits (a7 P t) k=true) (b:Bool):(Instr.checkKey b 10000 t c).run P w=.ok () w:=by
 have:∃n,(10000:Nat)=n+1+1:=⟨9998,rfl⟩
 obtain⟨n,hn⟩:=this;rw[hn];clear hn;rcases sI (P:=P) t with⟨q,I,J⟩|⟨l,fs,I,J,h3,_⟩|⟨I,_⟩|⟨I,_⟩|⟨I,_⟩|⟨I,_⟩|⟨I,_⟩|I<;>rw[I]at hf<;>(try(cases hf;done))
 ·exact R7 J b (n+1) c
 ·cases k<;>simp only[fits]at hf<;>(try(cases hf;done))
  cases hk with
  |agg xs cs eV=>
   have:=R8 (P:=P) (w:=w) eV b n fs.toList l h3 hf;unfold Instr.checkKey;simp only[Sem.run_bind,bj J,Result.andThen_ok];rw[←Array.forIn_toList];have e1:∀{x:Sem PUnit},x.run P w=.ok PUnit.unit w→(x.run P w).andThen (fun _ w'=>(pure ():Sem Unit).run P w')=.ok () w:=by
    intro x hx;rw[hx];(try rfl)
   exact e1 this
theorem adn {t kt el:TypeId} {x ix:Operand} {ok:Bool} {z:V} (ho:o.op=.lookup t x ix ok) (ht:P.underlying t=some (.map kt el)) (hz:jM P el=some z) (hq:dJ (a7 P kt)=true):
 dK P o fun e h=>yY h (a7 P kt) z ((cO x).ev e) ((cO ix).ev e) ok:=by
 intro C U Λ h ls w e ρ v jX s aB hv;obtain⟨i,zv,hi,lw,rfl⟩:=y9 hz;dsimp only at hv;unfold yY at hv;have hx:=aB x;have hk:=aB ix;generalize (cO x).ev e=a at hx hv;generalize (cO ix).ev e=k at hk hv;cases hm:h.mapOf a with
 |none=>simp[hm]at hv
 |some es=>
  simp only[hm]at hv;cases hf:fits (a7 P kt) k with
  |false=>simp[hf]at hv
  |true=>
   simp only[hf,E7]at hv;cases hr:iQ (a7 P kt) k es 0 with
   |none=>simp[hr]at hv
   |some r=>
    simp only[hr]at hv;have bv:∃bv:Array MapEntry,jP U es bv.toList∧((ρ x=.map none∧bv=#[])∨∃b clock,ρ x=.map (some b)∧w.heap[b]? =some (.map bv clock)):=by
     cases a<;>simp only[bm.mapOf]at hm<;>(try(cases hm;done))
     ·rename_i nk;cases nk<;>simp only at hm<;>(try(cases hm;done))
      simp only[E8]at hm;subst hm;generalize ρ x=d at hx⊢;cases hx;exact⟨#[],⟨rfl,fun i t ht=>by simp at ht⟩,.inl ⟨rfl,rfl⟩⟩
     ·rename_i r;cases hg:h.get r with
      |none=>simp[hg]at hm
      |some b=>
       cases b<;>simp only[hg]at hm<;>(try(cases hm;done))
       simp only[E8]at hm;subst hm;generalize ρ x=d at hx⊢;cases hx with
       |map _ L ha=>
        have bn:Λ r:=by
         rcases s.live r L _ ha hg with I|⟨m,I⟩
         ·exact I
         ·cases I
        obtain⟨b',g1,g2⟩:=s.aw r L ha bn;rw[hg]at g1;cases g1;obtain⟨bv,e1,e2,e3⟩:=g2;refine⟨bv,⟨by simpa using e2,fun i t ht=>by
         obtain⟨x,k1,k2⟩:=e3 i t ht;exact⟨x,by simpa using k1,k2⟩⟩,.inr ⟨_,_,rfl,e1⟩⟩
    obtain⟨bv,he,cJ⟩:=bv;obtain⟨r',g1,g2⟩:=Lr (P:=P) (w:=w) hk he hr hq;have goal:∀c,(r'=none→c=(if ok then .tuple #[zv,.bool false]else zv))→(∀j u,r'=some (j,u)→c=(if ok then .tuple #[u,.bool true]else u))→
     (Instr.lookup t (ρ x) (ρ ix) ok).run P w=.ok c w:=by
     intro c I J;have cf:∀b,(Instr.checkKey b 10000 kt (ρ ix)).run P w=.ok () w:=fun b=>Ls hk hf b;rcases cJ with⟨rx,rfl⟩|⟨b,clock,rx,hb⟩
     ·cases r' with
      |none=>rw[I rfl];simp only[Instr.lookup,Sem.run_bind,bj ht,Result.andThen_ok,rx,Sem.run_pure,cf,g1,lD hi lw]
      |some p=>rw[J p.1 p.2 rfl];simp only[Instr.lookup,Sem.run_bind,bj ht,Result.andThen_ok,rx,Sem.run_pure,cf,g1]
     ·have ab:(getObj b).run P w=.ok (.map bv clock) w:=by simp[getObj,Sem.run,hb]
      cases r' with
      |none=>rw[I rfl];simp only[Instr.lookup,Sem.run_bind,bj ht,Result.andThen_ok,rx,ab,Sem.run_pure,cf,g1,lD hi lw]
      |some p=>rw[J p.1 p.2 rfl];simp only[Instr.lookup,Sem.run_bind,bj ht,Result.andThen_ok,rx,ab,Sem.run_pure,cf,g1]
    cases r with
    |none=>
     simp only[E8]at hv;subst hv;cases r' with
     |none=>exact⟨_,by simp only[execOp,ho];exact cr (goal _ (fun _=>rfl) (fun _ _ e=>by cases e)),Lo (Cj U zv)⟩
     |some p=>exact g2.elim
    |some p=>
     obtain⟨j,u⟩:=p;simp only[E8]at hv;subst hv;cases r' with
     |none=>exact g2.elim
     |some p'=>
      obtain⟨j',u'⟩:=p';exact⟨_,by simp only[execOp,ho];exact cr (goal _ (fun e=>by cases e) (fun _ _ e=>by cases e;rfl)),Lo g2.2⟩
end Go.Ev
namespace Go.Ev
variable{P:Program} {o:Oper}
theorem ado {fs:Array Field} {t:TypeId} {z:V} (h:(bif fs.toList.all (fun f=>(gz P f.type).isSome)then jM P t else none)=some z):
 fs.toList.all (fun f=>(gz P f.type).isSome)=true∧jM P t=some z:=by
 cases hh:fs.toList.all (fun f=>(gz P f.type).isSome)with
 |false=>rw[hh]at h;cases h
 |true=>rw[hh]at h;exact⟨rfl,h⟩
theorem pr {l:List Operand} {x:Od} (h:l.map cO=[x]):∃y,l=[y]∧x=cO y:=by
 cases l with
 |nil=>cases h
 |cons a l=>cases l with
  |nil=>cases h;exact⟨a,rfl,rfl⟩
  |cons b l=>cases h
theorem uN {l:List Operand} {x:Od} {r:List Od} (h:l.map cO=x::r):∃y m,l=y::m∧x=cO y∧r=m.map cO:=by
 cases l with
 |nil=>cases h
 |cons a l=>cases h;exact⟨a,l,rfl,rfl,rfl⟩
theorem adp {b:Builtin} {c:Call} {f:T V→Hp→Option V} (ho:o.op=.call c) (hb:c.callee=.builtin b) (hc:pn P b (c.args.toList.map cO) c.argTypes=.pu f):dK P o f:=by
 cases b<;>simp only[pn]at hc<;>(try(cases hc;done))
 case append=>
  repeat' (first|(cases hc;done)|split at hc)
 case clear=>
  repeat' (first|(cases hc;done)|split at hc)
 case copy=>
  repeat' (first|(cases hc;done)|split at hc)
 case panic=>
  repeat' (first|(cases hc;done)|split at hc)
 case len=>
  split at hc
  ·rename_i x hx;obtain⟨y,hy,rfl⟩:=pr hx;split at hc
   ·rename_i el hu;cases hc;rw[aqg]at hu;obtain⟨t,ht,hu⟩:=hu;exact ac9 ho hb hy ht hu
   ·rename_i hu;cases hc;rw[aqg]at hu;obtain⟨t,ht,hu⟩:=hu;exact ada ho hb hy ht hu
   ·cases hc
  ·cases hc
 case cap=>
  split at hc
  ·rename_i x hx;obtain⟨y,hy,rfl⟩:=pr hx;split at hc
   ·rename_i el hu;cases hc;rw[aqg]at hu;obtain⟨t,ht,hu⟩:=hu;exact adb ho hb hy ht hu
   ·cases hc
  ·cases hc
 case max=>
  split at hc
  ·rename_i x r hx;obtain⟨y,m,hy,rfl,rfl⟩:=uN hx;cases hc;exact R3 true ho hb hy
  ·cases hc
 case min=>
  split at hc
  ·rename_i x r hx;obtain⟨y,m,hy,rfl,rfl⟩:=uN hx;cases hc;exact R3 false ho hb hy
  ·cases hc
theorem R9 {f:T V→Hp→Option V} (hc:cR P o.op=.pu f):dK P o f:=by
 cases aS:o.op<;>rw[aS]at hc<;>simp only[cR]at hc<;>(try(cases hc;done))
 case move x=>cases hc;exact RR (.inl aS)
 case assign x=>cases hc;exact RR (.inr aS)
 case pick c a b=>cases hc;exact acG aS
 case alloc t=>split at hc<;>cases hc
 case build t ps=>
  split at hc
  ·rename_i fs hu;split at hc
   ·rename_i z hz;split at hc
    ·rename_i l hl;cases hc;obtain⟨I,J⟩:=ado hz;exact adj aS hu I J hl
    ·cases hc
   ·cases hc
  ·rename_i len el hu;split at hc
   ·rename_i z hz;split at hc
    ·rename_i n hn;split at hc
     ·rename_i l hl;cases hc;obtain⟨i,hi,rfl⟩:=qJ hn;exact adk aS hu hi hz hl
     ·cases hc
    ·cases hc
   ·cases hc
  ·cases hc
 case buildSlice t len ps=>repeat' (first|(cases hc;done)|split at hc)
 case load t a=>
  split at hc
  ·rename_i n hn;cases hc;exact acH aS hn
  ·cases hc
 case store t a v=>split at hc<;>cases hc
 case nilCheck x=>cases hc;exact acI aS
 case binOp op t x y yt=>
  split at hc
  ·rename_i hq;cases d1:(ft x||ft y)with
   |false=>rw[d1]at hc;cases hc
   |true=>
    rw[d1]at hc;cases hc;rw[←hq];exact RV aS (fun _=>d1)
  ·rename_i hq;cases hc;exact RV aS (fun e=>absurd e hq)
 case unOp op t x=>cases hc;exact acO aS
 case convert s d x=>
  unfold qD at hc;split at hc
  ·rename_i k hk;split at hc
   ·rename_i k' dZ;cases hc;exact acP aS dZ hk
   ·cases hc
  ·rename_i hd;split at hc
   ·rename_i hs;cases hc;exact acQ aS hs hd
   ·rename_i el hs;split at hc
    ·rename_i he;cases hc;exact acS aS hs he hd
    ·cases hc
   ·cases hc
  ·repeat' (first|(cases hc;done)|split at hc)
   all_goals (cases hb:Nat.beq s d<;>rw[hb]at hc<;>cases hc)
  ·cases hc
 case makeInterface t x=>
  split at hc
  ·cases hc
  ·rename_i d hn hd;cases hc;exact acT aS hd (fun m e=>hn m (by rw[←e];first|done|exact hd))
  ·cases hc
 case makeFunc fn first bf=>
  cases fn<;>simp only at hc<;>(try(cases hc;done))
  split at hc
  ·rename_i hf;cases hc;exact acU aS hf
  ·cases hc
 case makeMap t r=>cases r<;>cases hc
 case makeSlice t l c=>repeat' (first|(cases hc;done)|split at hc)
 case slice t x lo hi mx=>
  split at hc
  ·rename_i n el hu;cases mx with
   |none=>
    simp only at hc;split at hc
    ·rename_i s hs;obtain⟨i,b8,rfl⟩:=qJ hs;cases hc;exact acY aS hu b8
    ·cases hc
   |some m=>cases hc
  ·rename_i hu;cases mx with
   |none=>cases hc;exact acX aS hu
   |some m=>cases hc
  ·rename_i el hu;split at hc
   ·rename_i s hs;obtain⟨i,b8,rfl⟩:=qJ hs;cases hm:(mx.isSome&&hi.isNone)with
    |true=>rw[hm]at hc;cases hc
    |false=>
     rw[hm]at hc;cases hc;refine ac0 aS hu b8 (fun I=>?_);rw[I]at hm;cases hi with
     |none=>simp at hm
     |some _=>rfl
   ·cases hc
  ·cases hc
 case fieldAddr t x k=>
  split at hc
  ·rename_i fs hu;split at hc
   ·rename_i g hg;split at hc
    ·rename_i n hn;cases hc;exact ac1 aS hu hg hn
    ·cases hc
   ·cases hc
  ·cases hc
 case field t x k=>
  split at hc
  ·rename_i fs hu;split at hc
   ·rename_i g hg;split at hc
    ·rename_i n hn;cases hc;exact ac2 aS hu hg hn
    ·cases hc
   ·cases hc
  ·cases hc
 case indexAddr t x i=>
  split at hc
  ·rename_i n el hu;split at hc
   ·rename_i s hs;obtain⟨i,hi,rfl⟩:=qJ hs;cases hc;exact ac4 aS hu hi
   ·cases hc
  ·rename_i el hu;split at hc
   ·rename_i s hs;obtain⟨i,hi,rfl⟩:=qJ hs;cases hc;exact ac3 aS hu hi
   ·cases hc
  ·cases hc
 case index t x i=>
  split at hc
  ·rename_i hu;cases hc;exact ac5 aS hu
  ·rename_i len el hu;split at hc
   ·rename_i s hs;obtain⟨i,hi,rfl⟩:=qJ hs;split at hc
    ·rename_i sh zU;cases hc;exact ac6 aS hu hi zU
    ·cases hc
   ·cases hc
  ·cases hc
 case lookup t x i ok=>
  split at hc
  ·rename_i k el hu;split at hc
   ·rename_i z hz;cases hq:dJ (a7 P k)with
    |false=>rw[hq]at hc;cases hc
    |true=>rw[hq]at hc;cases hc;exact adn aS hu hz hq
   ·cases hc
  ·cases hc
 case mapUpdate t m k v=>
  split at hc
  ·rename_i kt el hu;cases hq:dJ (a7 P kt)<;>rw[hq]at hc<;>cases hc
  ·cases hc
 case mapEntry t m k=>
  split at hc
  ·rename_i kt el hu;split at hc
   ·cases hq:dJ (a7 P kt)<;>rw[hq]at hc<;>cases hc
   ·cases hc
  ·cases hc
 case typeAssert x xt t ok=>
  split at hc
  ·cases hc
  ·rename_i d hn hd;split at hc
   ·rename_i z hz;cases hc;exact ac8 aS hd (fun m e=>hn m (by rw[←e];first|done|exact hd)) hz
   ·cases hc
  ·cases hc
 case extract x i=>cases hc;exact ac7 aS
 case call c=>
  split at hc
  ·rename_i b hb;exact adp aS hb hc
  ·rename_i g hg;cases g<;>cases hc
  ·cases hc
 case defer c=>repeat' (first|(cases hc;done)|split at hc)
end Go.Ev
namespace Go.Ev
variable{U:AM} {w:World} {e:T V} {ρ:Operand→Value} {P:Program} {o:Oper}
def w6 (P:Program) (o:Oper) (f:T V→Option (al×(Pa→V))):Prop:=
 ∀(U:AM) (w:World) (e:T V) (ρ:Operand→Value) (b:al) (mk:Pa→V),iC U e ρ→f e=some (b,mk)→
  ∃c w' top md,(execOp ρ o).run P w=.ok (.value c) w'∧lC w w'∧b.live=true∧b.Fh=false∧
   ∀(aA:AM) (ls:List LE) (a:Pa),U.le aA→aA a=some ⟨w.heap.size,0,top,md⟩→BR P aA ls a b ⟨w.heap.size,0,top,md⟩ w'∧VR aA (mk a) c
theorem po.adq {l:List V} {cs:Array Value} (h:bd U l cs.toList):po U l cs 0:=by
 refine⟨by have:=h.length;simp at this;omega,fun i v hv=>?_⟩;obtain⟨c,I,J⟩:=h.get hv;exact⟨c,by simpa using I,J⟩
theorem lC.push (w:World) (ob:Obj):lC w {w with heap:=w.heap.push ob}:=by
 refine⟨by simp,fun i hi=>?_,rfl,rfl,rfl,B5 _⟩;simp only[Array.getElem?_push];rw[pg (by omega)]
theorem w8 {t:TypeId} {cs:Array Value}:(newRow t cs).run P w=.ok ⟨w.heap.size,0,none⟩ {w with heap:=w.heap.push (.cells cs t)}:=by
 simp[newRow]
theorem Fs {l:List V} {cs:Array Value} {t:TypeId} {ls:List LE} {a:Pa} (h:bd U l cs.toList):
 BR P U ls a (.cells l false) ⟨w.heap.size,0,cs.size,false⟩ {w with heap:=w.heap.push (.cells cs t)}:=
 ⟨cs,t,(0,0),by simp,rfl,.inl rfl,po.adq h,fun _=>B5 0⟩
theorem adr {t:TypeId} {z:V} (ho:o.op=.alloc t) (hz:jM P t=some z):w6 P o fun _=>some (.cells z.cells false,fun a=>.ptr a 0):=by
 intro U w e ρ b mk aB hv;cases hv;obtain⟨i,zv,hi,lw,rfl⟩:=y9 hz;refine⟨_,_,zv.cells.size,false,?_,lC.push w _,rfl,rfl,fun aA ls a ac ha=>⟨Fs (t:=t) (qN zv),.ptr a 0 _ ha⟩⟩;simp only[execOp,ho];exact cr (by simp[Instr.alloc,lD hi lw,newVar,w8])
theorem ads {t:TypeId} {x:Operand} (ho:o.op=.box t x):w6 P o fun e=>bif aY ((cO x).ev e).cells then some (.cells ((cO x).ev e).cells false,fun a=>.ptr a 0)else none:=by
 intro U w e ρ b mk aB hv;dsimp only at hv;cases hs:aY ((cO x).ev e).cells with
 |false=>rw[hs]at hv;cases hv
 |true=>
  rw[hs]at hv;cases hv;have hc:=Lp (aB x) hs;refine⟨_,_,(ρ x).cells.size,false,?_,lC.push w _,rfl,rfl,fun aA ls a ac ha=>⟨Fs (t:=t) (hc.mono ac),.ptr a 0 _ ha⟩⟩;simp only[execOp,ho];exact cr (by simp[Instr.box,newVar,w8])
theorem adt (z:List V) (n i:Nat) (h:i<n*z.length):(dI z n)[i]? =z[i%z.length]? :=by
 induction n generalizing i with
 |zero=>simp at h
 |succ n ih=>
  simp only[dI];by_cases hi:i<z.length
  ·rw[apQ hi,arp hi]
  ·rw[apG (by omega),ih _ (by rw[aqr]at h;omega)];rw[Nat.mod_eq_sub_mod (by omega:z.length≤i)]
theorem Sa (z:List V) (n:Nat):(dI z n).length=n*z.length:=by
 induction n with
 |zero=>simp[dI]
 |succ n ih=>simp[dI,ih,aqr,arA]
theorem Ft {z:List V} {zc:Array Value} (hz:bd U z zc.toList) (n:Nat):
 bd U (dI z n) ((Array.range (n*z.length)).map (fun i=>zc[i%zc.size]!)).toList:=by
 have hl:=hz.length;simp at hl;refine bd.RC (by simp[Sa]) fun i v hv=>?_;have hi:i<n*z.length:=by
  have:=(ap1.1 hv).1
  rwa [Sa]at this
 rw[adt z n i hi]at hv;obtain⟨c,I,J⟩:=hz.get hv;refine⟨c,?_,J⟩;have lm:zc[i%zc.size]? =some c:=by rw[←hl];simpa using I
 have:zc[i%zc.size]! =c:=by rw[getElem!_def,lm]
 simp[hi,this]
theorem adu {t:TypeId} {i:TypeInfo} {zv:Value} {el:TypeId} {len:Nat} {ps:Array (Nat×Operand)} {l:List (Nat×Nat×Od)} (ho:o.op=.buildSlice t len ps)
 (ht:P.underlying t=some (.slice el)) (hi:P.info? el=some i) (hz:i.zero=some zv) (hlen:len*i.size≤16777216) (i1:(dU zv).cells.length=i.size)
 (hl:kd (fun j=>some (j*i.size,i.size)) ps.toList=some l):
 w6 P o fun e=>match jd e l (dI (dU zv).cells len)with
  |some l=>bif aY l then some (.cells l false,fun a=>.sl a 0 len (.ex len))else none
  |none=>none:=by
 intro U w e ρ b mk aB hv;dsimp only at hv;cases hf:jd e l (dI (dU zv).cells len)with
 |none=>rw[hf]at hv;cases hv
 |some l'=>
  rw[hf]at hv;dsimp only at hv;cases hs:aY l' with
  |false=>rw[hs]at hv;cases hv
  |true=>
   rw[hs]at hv;cases hv;have vp:bd U (dU zv).cells zv.cells.toList:=qN zv;have oz:=Ft vp len;rw[i1]at oz;obtain⟨kS,k1,k2⟩:=Fq aB ps.toList l _ l' _ hl hf oz;refine⟨_,_,kS.toArray.size,false,?_,lC.push w (.cells kS.toArray el),rfl,rfl,fun aA ls a ac ha=>⟨Fs (t:=el) (by simpa using k2.mono ac),.sl a 0 len _ _ len ha (B5 _) rfl⟩⟩;simp only[execOp,ho];refine cr ?_;have gN:¬(len*i.size>2^24):=by omega
   have NO:∀z0:Array Value,((Array.range (len*i.size)).map (fun i=>z0[i%z0.size]!))=((Array.range (len*i.size)).map (fun i=>zv.cells[i%zv.cells.size]!))→
    Instr.fill (fun j=>some (j*i.size,i.size)) ((Array.range (len*i.size)).map (fun i=>z0[i%z0.size]!)) (ps.map fun(p:Nat×Operand)=>(p.1,ρ p.2)).toList=some kS.toArray:=by
    intro z0 W8;have e1:(ps.map fun(p:Nat×Operand)=>(p.1,ρ p.2)).toList=ps.toList.map fun p=>(p.1,ρ p.2):=by simp
    rw[lb7]at k1;rw[W8,e1];exact k1
   simp only[Instr.buildSlice,Sem.run_bind,bj ht,Result.andThen_ok,gZ hi,pg gN];by_cases h0:len*i.size=0
   ·simp only[h0,if_true];have:=NO #[] (by rw[h0];simp);rw[h0]at this;simp only[this,Sem.run_bind,w8,Result.andThen_ok,Sem.run_pure]
   ·simp only[h0,if_false,Sem.run_bind,lD hi hz,Result.andThen_ok,Sem.run_pure];simp only[NO zv.cells rfl,Sem.run_bind,w8,Result.andThen_ok,Sem.run_pure]
theorem adv {t:TypeId} (ho:o.op=.makeMap t none):w6 P o fun _=>some (.map [] 0,fun a=>.map a):=by
 intro U w e ρ b mk aB hv;cases hv;refine⟨.map (some w.heap.size),_,0,false,?_,lC.push w (.map #[] 0),rfl,rfl,fun aA ls a ac ha=>⟨⟨#[],by simp,rfl,fun i t ht=>by simp at ht⟩,.map a _ ha⟩⟩;simp only[execOp,ho];exact cr (by simp[Instr.makeMap])
theorem adw {t el:TypeId} {i:TypeInfo} {zv:Value} {x y:Operand} (ho:o.op=.makeSlice t x y) (ht:P.underlying t=some (.slice el)) (hi:P.info? el=some i) (hz:i.zero=some zv)
 (i1:(dU zv).cells.length=i.size):
 w6 P o fun e=>match iz ((cO x).ev e)with
  |some l=>match iz ((cO y).ev e)with
   |some c=>bif Nat.ble l c&&(Nat.ble c 281474976710656&&Nat.ble (i.bytes*c) 281474976710656)then some (.cells (dI (dU zv).cells c) false,fun a=>.sl a 0 l (.ex c))else none
   |none=>none
  |none=>none:=by
 intro U w e ρ b mk aB hv;dsimp only at hv;have nat:∀{a:V} {c:Value} {n:Nat},VR U a c→iz a=some n→∃k,c=.int k (.ofNat n):=by
  intro a c n GE hn;cases a with
  |int k j=>
   cases j with
   |ofNat j=>simp[iz]at hn;subst hn;cases GE;exact⟨k,rfl⟩
   |negSucc j=>simp[iz]at hn
  |_=>simp[iz]at hn
 cases hx:iz ((cO x).ev e)with
 |none=>rw[hx]at hv;cases hv
 |some l=>
  rw[hx]at hv;dsimp only at hv;cases hy:iz ((cO y).ev e)with
  |none=>rw[hy]at hv;cases hv
  |some c=>
   rw[hy]at hv;dsimp only at hv;cases hb:(Nat.ble l c&&(Nat.ble c 281474976710656&&Nat.ble (i.bytes*c) 281474976710656))with
   |false=>rw[hb]at hv;cases hv
   |true=>
    rw[hb]at hv;cases hv;simp only[G7]at hb;obtain⟨I,J,h3⟩:=hb;have I:=ap5 I;have J:=ap5 J;have h3:=ap5 h3;obtain⟨acl,pU⟩:=nat (aB x) hx;obtain⟨act,W9⟩:=nat (aB y) hy;have oz:=Ft (qN (U:=U) zv) c;rw[i1]at oz;refine⟨.slice (some ⟨w.heap.size,0,none⟩) l c,_,((Array.range (c*i.size)).map (fun j=>zv.cells[j%zv.cells.size]!)).size,false,?_,lC.push w (.cells ((Array.range (c*i.size)).map (fun j=>zv.cells[j%zv.cells.size]!)) el),rfl,rfl,
     fun aA ls a ac ha=>⟨Fs (t:=el) (oz.mono ac),.sl a 0 l _ _ c ha I rfl⟩⟩
    simp only[execOp,ho];refine cr ?_;have wl:IntKind.i64.wrap (Int.ofNat l)=Int.ofNat l:=Fi .i64 l (show l≤9223372036854775807 by omega);have Xa:IntKind.i64.wrap (Int.ofNat c)=Int.ofNat c:=Fi .i64 c (show c≤9223372036854775807 by omega);have bs:decide (Int.ofNat c<0)=false:=decide_eq_false (by simp);have a2:decide ((i.bytes:Int)*Int.ofNat c>2^48)=false:=decide_eq_false (by
     have e1:(i.bytes:Int)*Int.ofNat c=((i.bytes*c:Nat):Int):=(Int.natCast_mul _ _).symm;rw[e1];omega)
    have a3:decide (Int.ofNat l<0)=false:=decide_eq_false (by simp);have a4:decide (Int.ofNat l>Int.ofNat c)=false:=decide_eq_false (by simpa using I);have t1:¬((decide (Int.ofNat c<0)||decide ((i.bytes:Int)*Int.ofNat c>2^48))||decide (Int.ofNat l<0)||decide (Int.ofNat l>Int.ofNat c))=true:=by
     rw[bs,a2,a3,a4];decide
    simp only[Instr.makeSlice,Sem.run_bind,bj ht,Result.andThen_ok,asInt,asIntOf,pU,W9,Sem.run_pure,uK hi,wl,Xa,pg t1,run_askRoom,gZ hi];have e1:(Int.ofNat c).toNat=c:=rfl;have e2:(Int.ofNat l).toNat=l:=rfl;rw[e1,e2];by_cases h0:c*i.size=0
    ·have z0:Array.range 0=#[]:=rfl;rw[B4 h0,h0,z0];simp[newRow]
    ·rw[pg h0];simp[newRow,lD hi hz]
theorem Lt (q:Question) (h:q.forced=false):(choose q).run P w=.ok (q.cut (w.tape w.drawn q)) {w with drawn:=w.drawn+1}:=by
 simp[h]
theorem adx {b off:Nat} {cs:Array Value} {el:TypeId} (hb:w.heap[b]? =some (.cells cs el (0,0))):
 (w.freeze ⟨b,off,none⟩ 1).heap[b]? =some (.cells cs el (off,off+1)):=by
 unfold World.freeze;rw[pg (by decide)];simp only[lb2,hb,if_true];simp
theorem Sb {b off i:Nat} (h:i≠b):(w.freeze ⟨b,off,none⟩ 1).heap[i]? =w.heap[i]? :=by
 unfold World.freeze;rw[pg (by decide)];simp only[lb2];rw[pg (fun e=>h e.symm)]
theorem Sc {b off:Nat}:(w.freeze ⟨b,off,none⟩ 1).heap.size=w.heap.size:=by
 unfold World.freeze;rw[pg (by decide)];simp
theorem Cm (w:World) (a:Addr) (n:Nat):mK w (w.freeze a n):=by
 unfold World.freeze;split<;>exact⟨rfl,rfl,rfl,B5 _⟩
theorem ady {sT iH el:TypeId} {x:Operand} (ho:o.op=.convert sT iH x) (hs:P.underlying sT=some .string) (hd:P.underlying iH=some (.slice el)) (he:P.underlying el=some (.int .u8)):
 w6 P o fun e=>match(cO x).ev e with
  |.str s=>some (.cells (s.map c5) false,fun a=>.sl a 0 s.length (.un 1))
  |_=>none:=by
 intro U w e ρ b mk aB hv;dsimp only at hv;have hx:=aB x;generalize (cO x).ev e=a at hx hv;cases a<;>simp only at hv<;>(try(cases hv;done))
 cases hv;generalize hc:ρ x=d at hx;cases hx with
 |str s=>
  obtain⟨cap,tq⟩:∃cap,cap=(Question.appendCap s.size 0 el).cut (w.tape w.drawn (.appendCap s.size 0 el)):=⟨_,rfl⟩
  have bK:s.size≤cap:=by rw[tq];exact arq _ _
  obtain⟨cs,Hf⟩:∃cs:Array Value,cs=(s.data.map fun b=>.int .u8 b.toNat)++Array.replicate (cap-s.size) (.int .u8 0):=⟨_,rfl⟩
  have tr:cs.size=cap:=by
   have:s.data.size=s.size:=rfl;rw[Hf];simp only[lb6,Array.size_map,Array.size_replicate,this];omega
  obtain⟨w1,dP⟩:∃w1:World,w1={w with drawn:=w.drawn+1}:=⟨_,rfl⟩
  obtain⟨w2,cw⟩:∃w2:World,w2={w1 with heap:=w1.heap.push (.cells cs el)}:=⟨_,rfl⟩
  have e2:w1.heap=w.heap:=by rw[dP]
  have Xb:w2.heap.size=w.heap.size+1:=by rw[cw,e2];simp
  have dl:w2.heap[w.heap.size]? =some (.cells cs el (0,0)):=by rw[cw,e2];simp
  have zV:(w2.freeze ⟨w.heap.size,cap,none⟩ 1).heap[w.heap.size]? =some (.cells cs el (cap,cap+1)):=adx dl;have Xc:lC w (w2.freeze ⟨w.heap.size,cap,none⟩ 1):=by
   refine⟨by rw[Sc,Xb],fun i hi=>?_,?_⟩
   case refine_2=>exact⟨by rw[(Cm _ _ _).1,cw,dP],by rw[(Cm _ _ _).2.1,cw,dP],by rw[(Cm _ _ _).2.2.1,cw,dP],aqb (by rw[cw,dP];exact aqF _) (Cm _ _ _).2.2.2⟩
   rw[Sb (by omega),cw,e2,Array.getElem?_push,pg (by omega)]
  refine⟨.slice (some ⟨w.heap.size,0,none⟩) s.size cap,_,cap,true,?_,Xc,rfl,rfl,fun aA ls a ac ha=>⟨⟨cs,el,(cap,cap+1),zV,tr,.inr (by rw[tr];exact B5 _),?_,fun h=>by cases h⟩,?_⟩⟩
  ·simp only[execOp,ho,hc];refine cr ?_;have hm:w2.shape? w.heap.size=some (el,cap):=by
    simp[World.shape?,dl,tr]
   simp only[convert,Sem.run_bind,bj hs,bj hd,Result.andThen_ok,bj he,Conv.stringToBytes];rw[Lt _ rfl,←tq,←dP,Result.andThen_ok,←Hf,w8,Result.andThen_ok,←cw,e2];simp only[markStringish,Sem.run_bind,run_shape,Result.andThen_ok,hm,run_freeze,Sem.run_pure]
  ·refine⟨by rw[apZ,sJ,tr];show 0+s.size≤cap;omega,fun i v hv=>?_⟩;rw[aqH]at hv;cases hb:s.data.toList[i]? with
   |none=>rw[hb]at hv;cases hv
   |some b=>
    rw[hb]at hv;cases hv;have hi:i<s.data.toList.length:=(ap1.1 hb).1;have i2:i<s.data.size:=by simpa using hi
    refine⟨.int .u8 b.toNat,?_,.int _ _⟩;have jY:s.data[i]? =some b:=by simpa using hb
    rw[Hf,ap7,lb0 (by simpa using i2),Array.getElem?_map,jY];(try rfl)
  ·have I:=VR.sl (U:=aA) a 0 s.size (.un 1) _ cap ha bK (by simp[lz])
   rwa [←sJ s]at I
theorem Sd {f:T V→Option (al×(Pa→V))} (hc:cR P o.op=.dw f):w6 P o f:=by
 cases aS:o.op<;>rw[aS]at hc<;>simp only[cR]at hc<;>(try(cases hc;done))
 case alloc t=>
  split at hc
  ·rename_i z hz;cases hc;exact adr aS hz
  ·cases hc
 case box t x=>cases hc;exact ads aS
 case build t ps=>repeat' (first|(cases hc;done)|split at hc)
 case buildSlice t len ps=>
  split at hc
  ·rename_i i hi;unfold elemOf? at hi;split at hi
   ·rename_i el hu;split at hc
    ·rename_i z hz;split at hc
     ·rename_i hlen;split at hc
      ·rename_i l hl;cases hc;exact adu aS hu hi hz hlen.1 hlen.2 hl
      ·cases hc
     ·cases hc
    ·cases hc
   ·cases hi
  ·cases hc
 case load t a=>split at hc<;>cases hc
 case store t a v=>split at hc<;>cases hc
 case binOp op t x y yt=>
  split at hc
  ·cases d1:(ft x||ft y)<;>rw[d1]at hc<;>cases hc
  ·cases hc
 case convert s d x=>
  unfold qD at hc;split at hc
  ·repeat' (first|(cases hc;done)|split at hc)
  ·repeat' (first|(cases hc;done)|split at hc)
  ·rename_i el hd;split at hc
   ·rename_i hs;split at hc
    ·rename_i he;cases hc;exact ady aS hs hd he
    ·cases hc
   ·cases hb:Nat.beq s d with
    |false=>rw[hb]at hc;cases hc
    |true=>
     rw[hb]at hc;simp only[E7]at hc;split at hc<;>cases hc
   ·cases hc
  ·cases hc
 case makeInterface t x=>repeat' (first|(cases hc;done)|split at hc)
 case makeFunc fn first bf=>
  cases fn<;>simp only at hc<;>(try(cases hc;done))
  repeat' (first|(cases hc;done)|split at hc)
 case makeMap t r=>
  cases r with
  |none=>cases hc;exact adv aS
  |some r=>cases hc
 case makeSlice t l c=>
  split at hc
  ·rename_i i hi;unfold elemOf? at hi;split at hi
   ·rename_i el hu;split at hc
    ·rename_i z hz;split at hc
     ·rename_i i1;cases hc;exact adw aS hu hi hz i1
     ·cases hc
    ·cases hc
   ·cases hi
  ·cases hc
 case slice t x lo hi mx=>
  split at hc
  ·cases mx with
   |none=>simp only at hc;split at hc<;>cases hc
   |some m=>cases hc
  ·cases mx<;>cases hc
  ·split at hc
   ·cases hm:(mx.isSome&&hi.isNone)<;>rw[hm]at hc<;>cases hc
   ·cases hc
  ·cases hc
 case fieldAddr t x k=>repeat' (first|(cases hc;done)|split at hc)
 case field t x k=>repeat' (first|(cases hc;done)|split at hc)
 case indexAddr t x i=>repeat' (first|(cases hc;done)|split at hc)
 case index t x i=>repeat' (first|(cases hc;done)|split at hc)
 case lookup t x i ok=>
  split at hc
  ·rename_i k el hu;split at hc
   ·cases hq:dJ (a7 P k)<;>rw[hq]at hc<;>cases hc
   ·cases hc
  ·cases hc
 case mapUpdate t m k v=>
  split at hc
  ·rename_i kt el hu;cases hq:dJ (a7 P kt)<;>rw[hq]at hc<;>cases hc
  ·cases hc
 case mapEntry t m k=>
  split at hc
  ·rename_i kt el hu;split at hc
   ·cases hq:dJ (a7 P kt)<;>rw[hq]at hc<;>cases hc
   ·cases hc
  ·cases hc
 case typeAssert x xt t ok=>repeat' (first|(cases hc;done)|split at hc)
 case call c=>
  split at hc
  ·rename_i b hb;cases b<;>simp only[pn]at hc<;>(try(cases hc;done))<;>repeat' (first|(cases hc;done)|split at hc)
  ·rename_i g hg;cases g<;>cases hc
  ·cases hc
 case defer c=>repeat' (first|(cases hc;done)|split at hc)
end Go.Ev
namespace Go.Ev
variable{C:Cx} {U:AM} {Λ:Pa→Prop} {h:Hp} {ls:List LE} {w:World} {e:T V} {ρ:Operand→Value}
variable{P:Program} {o:Oper}
def Se (n:Next) (c:Value):Prop:=n=.value c∨(n=.skip∧c=undef)
def qO (P:Program) (o:Oper) (f:T V→Hp→Option (V×Hp)):Prop:=
 ∀(C:Cx) (U:AM) (Λ:Pa→Prop) (h:Hp) (ls:List LE) (w:World) (e:T V) (ρ:Operand→Value) (v:V) (h':Hp),C.P=P→aP C U Λ h ls w→iC U e ρ→f e h=some (v,h')→
  ∃n c w' aA dh,(execOp ρ o).run P w=.ok n w'∧Se n c∧U.le aA∧aP C aA dh h' ls w'∧VR aA v c∧
   (∀a,U a=none→aA a≠none→h.next.toNat≤a.toNat)∧h.next.toNat≤h'.next.toNat
theorem adz {v:V} {c:Value} (h:VR U v c) (hs:isScalar v=true):c.oneCell'=true:=by
 cases h<;>first|rfl|(simp[isScalar]at hs;done)
theorem adA (w:World) (b off:Nat) (v:Value) {cs:Array Value} {el:TypeId} {fr:Nat×Nat} (hb:w.heap[b]? =some (.cells cs el fr)):
 (w.setCell ⟨b,off,none⟩ v).heap[b]? =some (.cells (cs.setIfInBounds off v) el fr)∧iR w (w.setCell ⟨b,off,none⟩ v) b:=by
 unfold World.setCell;refine⟨by simp only[lb2,hb,if_true];simp,by simp,fun i hi=>?_,rfl,rfl,rfl,B5 _⟩;simp only[lb2];rw[pg (fun e=>hi e.symm)]
theorem Sf {w:World} {b off:Nat} {cs:Array Value} {el:TypeId} {fr:Nat×Nat} (hb:w.heap[b]? =some (.cells cs el fr)) (hq:quietAt cs.size fr) (ho:off<cs.size):
 w.frozen? ⟨b,off,none⟩=false:=by
 obtain⟨lo,hi⟩:=fr;simp only[World.frozen?,hb];rcases hq with I|I
 ·simp only at I;rw[aqs];by_cases J:lo≤off
  ·exact .inr (decide_eq_false (by omega))
  ·exact .inl (decide_eq_false J)
 ·simp only at I;rw[aqs];exact .inl (decide_eq_false (by omega))
theorem Lu (b base:Nat) (el:TypeId) (fr:Nat×Nat):∀(xs:List V) (xc:List Value) (i:Nat) (w:World) (cs:Array Value),bd U xs xc→aY xs=true→
 w.heap[b]? =some (.cells cs el fr)→quietAt cs.size fr→base+i+xc.length≤cs.size→
 ∃w' cs',(storeCells ⟨b,base,none⟩ xc i).run P w=.ok () w'∧w'.heap[b]? =some (.cells cs' el fr)∧iR w w' b∧cs'.size=cs.size∧
  ∀j:Nat,cs'[j]? =if base+i≤j∧j<base+i+xc.length then xc[j-(base+i)]? else cs[j]?
 |[],xc,i,w,cs,hx,hs,hb,hq,hl=>by
  cases hx;refine⟨w,cs,rfl,hb,.refl _ _,rfl,fun j=>?_⟩;rw[pg (by simp)]
 |v::xs,_,i,w,cs,.cons _ c _ xc hv Hg,hs,hb,hq,hl=>by
  simp only[aY]at hs;cases zT:isScalar v with
  |false=>simp[zT]at hs
  |true=>
   simp only[zT,E7]at hs;simp only[WW]at hl;have gc:base+i<cs.size:=by omega
   obtain⟨s1,s2⟩:=adA w b (base+i) c hb;have Xd:∃u,w.cell? ⟨b,base+i,none⟩=some u:=⟨cs[base+i],La hb (by simp[gc])⟩
   obtain⟨u,hu⟩:=Xd;obtain⟨w',cs',r1,r2,r3,r4,r5⟩:=Lu b base el fr xs xc (i+1) _ _ Hg hs s1 (by simpa using hq) (by simp;omega);refine⟨w',cs',?_,r2,s2.trans r3,by simpa using r4,fun j=>?_⟩
   ·simp only[storeCells,Sem.run_bind,qK,run_store P w _ c _ (adz hv zT),hu,Sf hb hq gc,aqN,if_false,Result.andThen_ok,r1]
   ·rw[r5 j];by_cases I:base+(i+1)≤j∧j<base+(i+1)+xc.length
    ·rw[B4 I,B4 (by simp;omega)];have:j-(base+i)=(j-(base+(i+1)))+1:=by omega
     rw[this];simp
    ·rw[pg I];by_cases J:j=base+i
     ·subst J;rw[B4 (by simp),lb4 gc];simp
     ·rw[pg (by simp;omega),lb3 (by omega)]
theorem aP.db (s:aP C U Λ h ls w) {a:Pa} {L:Loc} (ha:U a=some L) {off:Nat} {xs:List V} {xc:List Value} {h':Hp} (hx:bd U xs xc) (aj:h.db a off xs=some h'):
 ∃w',(storeCells ⟨L.aw,L.base+off,none⟩ xc).run P w=.ok () w'∧aP C U Λ h' ls w'∧h'.next=h.next:=by
 unfold bm.db at aj;cases hg:h.get a with
 |none=>simp[hg]at aj
 |some b=>
  cases b with
  |cells l d=>
   simp only[hg]at aj;cases d with
   |true=>simp at aj
   |false=>
    simp only[KL]at aj;cases hs:aY xs with
    |false=>simp[hs]at aj
    |true=>
     simp only[hs,E7]at aj;cases cI:dk off l xs with
     |none=>simp[cI]at aj
     |some l'=>
      simp only[cI,E8]at aj;subst aj;have bn:Λ a:=by
       rcases s.live a L _ ha hg with I|⟨m,I⟩
       ·exact I
       ·cases I
      obtain⟨b',I,J⟩:=s.aw a L ha bn;rw[hg]at I;cases I;obtain⟨cs,el,fr,k1,k2,k3,⟨k4,k5⟩,Hh⟩:=J;obtain⟨g1,g2⟩:=Ci cI;have hlen:=hx.length;obtain⟨w',cs',r1,r2,r3,r4,r5⟩:=Lu (P:=P) L.aw (L.base+off) el fr xs xc 0 w cs hx hs k1 k3 (by omega);refine⟨w',r1,s.w5 ha bn hg rfl rfl r3 ⟨cs',el,fr,r2,by omega,by rw[r4];exact k3,?_,Hh⟩,rfl⟩;have NP:l'.length=l.length:=by rw[g2];simp;omega
      refine⟨by omega,fun i v hv=>?_⟩;rw[r5];rw[g2]at hv;have hi:i<l.length:=by
       have:=(ap1.1 hv).1;rw[←g2,NP]at this;exact this
      by_cases fK:i<off
      ·rw[pg (by omega)];rw[KK,apQ (by simp;omega),arH fK]at hv;exact k5 i v hv
      ·by_cases jw:i<off+xs.length
       ·rw[B4 (by omega)];rw[KK,apG (by simp;omega),apQ (by simp;omega)]at hv;have e1:i-(l.take off).length=i-off:=by simp;omega
        rw[e1]at hv;have e2:L.base+i-(L.base+off+0)=i-off:=by omega
        rw[e2];exact hx.get hv
       ·rw[pg (by omega)];rw[apG (by simp;omega),aqi]at hv;have e1:off+xs.length+(i-(List.take off l++xs).length)=i:=by simp;omega
        rw[e1]at hv;exact k5 i v hv
  |ro l=>simp[hg]at aj
  |map es c=>simp[hg]at aj
  |loop r=>simp[hg]at aj
  |dH l=>simp[hg]at aj
theorem Sg {a:Pa} {off:Nat} {h':Hp} (aj:h.db a off []=some h'):∃l,h.get a=some (.cells l false)∧h'=h.put a (.cells l false):=by
 unfold bm.db at aj;cases hg:h.get a with
 |none=>simp[hg]at aj
 |some b=>
  cases b<;>simp only[hg]at aj<;>(try(cases aj;done))
  rename_i l d;cases d<;>simp[aY]at aj
  cases cI:dk off l []with
  |none=>simp[cI]at aj
  |some l'=>
   simp only[cI,E8]at aj;obtain⟨_,g2⟩:=Ci cI;refine⟨l,rfl,?_⟩;rw[←aj,g2];simp
theorem Sh {a:Pa} {off:Nat} {h':Hp} (aj:h.db a off []=some h'):h'.next=h.next:=by
 obtain⟨l,_,rfl⟩:=Sg aj;rfl
theorem aP.again (s:aP C U Λ h ls w) {a:Pa} {l:List V} {d:Bool} (hg:h.get a=some (.cells l false)):aP C U Λ (h.put a (.cells l d)) ls w:=by
 have bE:∀x,(h.put a (.cells l d)).get x=if a=x then some (.cells l d)else h.get x:=fun x=>by simp[bm.put,bm.get,T.gX]
 refine⟨s.ia,fun x M hx fd=>?_,s.inj,fun x M c hx cZ=>?_,fun x M c hx fd cZ hr=>?_,s.low,s.size,s.still,fun x hx=>?_,s.jj⟩
 ·obtain⟨c,I,J⟩:=s.aw x M hx fd;by_cases bM:a=x
  ·subst bM;rw[hg]at I;cases I;exact⟨.cells l d,by rw[bE];simp,J⟩
  ·exact⟨c,by rw[bE];simp[bM,I],J⟩
 ·by_cases bM:a=x
  ·subst bM;rcases s.live a M _ hx hg with I|⟨m,I⟩
   ·exact .inl I
   ·cases I
  ·rw[bE]at cZ;simp only[bM,if_false]at cZ;exact s.live x M c hx cZ
 ·by_cases bM:a=x
  ·subst bM;exact s.wr a M _ hx fd hg rfl
  ·rw[bE]at cZ;simp only[bM,if_false]at cZ;exact s.wr x M c hx fd cZ hr
 ·rw[bE];by_cases bM:a=x
  ·subst bM;rw[s.fresh a hx]at hg;cases hg
  ·simp only[bM,if_false];exact s.fresh x hx
theorem aP.Si (s:aP C U Λ h ls w) {a:Pa} {off:Nat} {h':Hp} (aj:h.db a off []=some h'):aP C U Λ h' ls w:=by
 obtain⟨l,hg,rfl⟩:=Sg aj;exact s.again hg
theorem adB {a:Pa} {off:Nat} {xs:List V} {h':Hp} (aj:h.db a off xs=some h'):aY xs=true:=by
 unfold bm.db at aj;cases hg:h.get a with
 |none=>simp[hg]at aj
 |some b=>
  cases b<;>simp only[hg]at aj<;>(try(cases aj;done))
  rename_i l d;cases d<;>simp at aj
  cases hs:aY xs with
  |false=>simp[hs]at aj
  |true=>rfl
theorem w9 (U:AM):VR U dm undef:=.aM [] [] .nil
theorem adC {t:TypeId} {a x:Operand} {n:Nat} (ho:o.op=.store t a x) (hn:gz P t=some n):
 qO P o fun e h=>match(cO a).ev e with
  |.ptr b off=>bif Nat.beq ((cO x).ev e).cells.length n then oH dm (h.db b off ((cO x).ev e).cells)else none
  |_=>none:=by
 intro C U Λ h ls w e ρ v h' jX s aB hv;dsimp only at hv;obtain⟨i,hi,gc⟩:=qJ hn;have hx:=aB a;generalize (cO a).ev e=p at hx hv;cases p<;>simp only at hv<;>(try(cases hv;done))
 rename_i b off;cases hb:Nat.beq ((cO x).ev e).cells.length n with
 |false=>simp[hb]at hv
 |true=>
  simp only[hb,E7]at hv;cases aj:h.db b off ((cO x).ev e).cells with
  |none=>simp[aj,oH]at hv
  |some I=>
   simp only[aj,oH,E8,apW]at hv;obtain⟨rfl,rfl⟩:=hv;have vo:=Lp (aB x) (adB aj);have d2:=apY hb;generalize hc:ρ a=d at hx;cases hx with
   |ptr _ _ L ha=>
    obtain⟨w',r1,r2,r3⟩:=s.db (P:=P) ha vo aj;refine⟨.skip,undef,w',U,Λ,?_,.inr ⟨rfl,rfl⟩,AM.le_refl U,r2,w9 U,fun a I J=>absurd I J,by rw[r3];exact B5 _⟩;simp only[execOp,ho,hc];refine Lh ?_;have bx:¬((ρ x).cells.size≠i.size):=by
     have I:=vo.length;have J:(ρ x).cells.size=(ρ x).cells.toList.length:=by simp
     omega
    simp only[Instr.storeAt,Instr.sureAddr,Sem.run_bind,Sem.run_pure,Result.andThen_ok,storeVar,gZ hi,pg bx,r1]
theorem Sj {x:V} {c:Value} (hx:VR U x c) {n:Nat} (hn:j9 x=some n):(Builtin.lenOf c).run P w=.ok n w:=by
 cases x<;>simp only[j9]at hn<;>(try(cases hn;done))
 ·rename_i s;cases hn;cases hx with
  |str s=>rw[sJ];(try rfl)
 ·cases hn;cases hx<;>rfl
 ·rename_i k;cases k<;>simp only at hn<;>(try(cases hn;done))
  cases hn;cases hx;rfl
theorem Sk (s:aP C U Λ h ls w) {x:V} {c:Value} (hx:VR U x c) {ba n:Nat} {xs:List V} (hs:ln h ba n x=some xs) (hn:∀a o m oA,x=.sl a o m oA→n≤m):
 ∃xc:List Value,bd U xs xc∧xc.length=n*ba∧∀w1:World,w1.heap=w.heap→(Builtin.firstCells ba n c).run P w1=.ok xc.toArray w1:=by
 cases x<;>simp only[ln]at hs<;>(try(cases hs;done))
 ·rename_i l;cases hb:Nat.beq ba 1 with
  |false=>simp[hb]at hs
  |true=>
   have:=apY hb;subst this;simp only[hb,E7]at hs;cases hx with
   |str s=>
    cases ht:takeN n s.data.toList with
    |none=>simp[ht]at hs
    |some r=>
     simp only[ht,E8]at hs;subst hs;obtain⟨I,J⟩:=w3 ht;refine⟨((s.extract 0 n).data.map fun b=>.int .u8 b.toNat).toList,?_,?_,fun w1 _=>?_⟩
     ·have:(s.extract 0 n).data.toList=r:=by rw[Fo,J];simp
      rw[lb9,this];clear J this ht I
      induction r with
      |nil=>exact .nil
      |cons b r ih=>exact .cons _ _ _ _ (.int _ _) ih
     ·have:(s.extract 0 n).data.toList=r:=by rw[Fo,J];simp
      rw[lb9,this,J];simp;rw[sJ]at I;omega
     ·rw[lb7];(try rfl)
 ·rename_i a o m oA;cases hx with
  |sl _ _ _ _ L capC ha I J=>
   obtain⟨cs,k1,k2,k3⟩:=s.Lb (P:=P) ha hs;exact⟨cs,k2,k1,k3⟩
  |dV _ _ _ b6 hc=>
   have:n=0:=Nat.le_zero.1 (hn a o 0 oA rfl);subst this;have gM:xs=[]:=by
    unfold bm.cl at hs;cases jp:h.cells a with
    |none=>simp[jp]at hs
    |some m=>simp[jp,takeN]at hs;exact hs
   subst gM;exact⟨[],.nil,by simp,fun w1 _=>by simp[Builtin.firstCells,loadCells,loadCellsFrom]⟩
 ·rename_i k;cases k<;>simp only at hs<;>(try(cases hs;done))
  cases hb:Nat.beq n 0 with
  |false=>simp[hb]at hs
  |true=>
   have:=apY hb;subst this;simp only[hb,E7,E8]at hs;subst hs;cases hx;exact⟨[],.nil,by simp,fun w1 _=>by simp[Builtin.firstCells]⟩
theorem adD (s:aP C U Λ h ls w) {x:V} {c:Value} (hx:VR U x c) {ba n:Nat} {xs:List V} (hs:ln h ba n x=some xs) (hn:∀a o m oA,x=.sl a o m oA→n≤m):
 ∃xc:List Value,bd U xs xc∧xc.length=n*ba∧(Builtin.firstCells ba n c).run P w=.ok xc.toArray w:=
 let⟨xc,I,J,h3⟩:=Sk (P:=P) s hx hs hn
 ⟨xc,I,J,h3 w rfl⟩
theorem adE {x:V} {c:Value} {ba k:Nat} (hx:VR U x c) (hk:j9 x=some k):(Builtin.firstCells ba 0 c).run P w=.ok #[] w:=by
 cases x<;>simp only[j9]at hk<;>(try(cases hk;done))
 ·cases hx with
  |str s=>
   have:(s.extract 0 0).data.toList=[]:=by rw[Fo];simp
   have J:(s.extract 0 0).data=#[]:=by rw[←lb7 (xs:=(s.extract 0 0).data),this]
   simp only[Builtin.firstCells,J];simp
 ·cases hx<;>simp[Builtin.firstCells,loadCells,loadCellsFrom]
 ·rename_i q;cases q<;>simp only at hk<;>(try(cases hk;done))
  cases hx;simp[Builtin.firstCells]
theorem Lv {c:Call} {y z:Operand} (ha:c.args.toList=[y,z]):c.args=#[y,z]:=by
 rw[←lb7 (xs:=c.args),ha]
theorem Fu {t:TypeId} {i:TypeInfo} (h:elemOf? P t=some i):∃el,P.underlying t=some (.slice el)∧P.info? el=some i:=by
 unfold elemOf? at h;split at h
 ·exact⟨_,by assumption,h⟩
 ·cases h
theorem adF {c:Call} {y z:Operand} {t:TypeId} {i:TypeInfo} (ho:o.op=.call c) (hc:c.callee=.builtin .copy) (ha:c.args.toList=[y,z]) (ht:c.argTypes[0]? =some t)
 (hi:elemOf? P t=some i):qO P o fun e h=>Cd h i.size ((cO y).ev e) ((cO z).ev e):=by
 intro C U Λ h ls w e ρ v h' jX s aB hv;dsimp only at hv;obtain⟨el,hu,fU⟩:=Fu hi;have hx:=aB y;have hz:=aB z;generalize (cO y).ev e=d at hx hv;generalize (cO z).ev e=sr at hz hv;unfold Cd at hv;cases hk:j9 sr with
 |none=>simp[hk]at hv
 |some k=>
  simp only[hk]at hv;have hlen:=Sj (P:=P) (w:=w) hz hk;suffices hs:∃n c' w',(Builtin.copy_ c.argTypes o.type #[ρ y,ρ z]).run P w=.ok c' w'∧n=Next.value c'∧aP C U Λ h' ls w'∧VR U v c'∧h'.next=h.next by
   obtain⟨n,c',w',r1,r2,r3,r4,r5⟩:=hs;refine⟨n,c',w',U,Λ,?_,.inl r2,AM.le_refl U,r3,r4,fun a I J=>absurd I J,by rw[r5];exact B5 _⟩;simp only[execOp,ho];obtain⟨Do,ru⟩:=uM (P:=P) (w:=w) (ρ:=ρ) (ty:=o.type) hc;rw[ru,Lv ha,r2];simp only[builtin,aqQ,ap3,aqS];exact cr r1
  cases d<;>simp only at hv<;>(try(cases hv;done))
  ·rename_i a off m oA;cases vq:ln h i.size (Nat.min k m) sr with
   |none=>simp[vq]at hv
   |some xs=>
    simp only[vq]at hv;cases aj:h.db a off xs with
    |none=>simp[aj,oH]at hv
    |some I=>
     simp only[aj,oH,E8,apW]at hv;obtain⟨rfl,rfl⟩:=hv;obtain⟨xc,q1,q2,q3⟩:=adD (P:=P) s hz vq (fun a' o' m' Xe e1=>by
      subst e1;simp[j9]at hk;subst hk;exact Nat.min_le_left _ _)
     generalize hd:ρ y=sK at hx;cases hx with
     |sl _ _ _ _ L capC ha I J=>
      obtain⟨w',r1,r2,r3⟩:=s.db (P:=P) ha q1 aj;refine⟨_,goInt (Nat.min k m),w',?_,rfl,r2,.int _ _,r3⟩;simp only[Builtin.copy_,ht,aqU,aqe,apX,Sem.run_bind,bj hu,Result.andThen_ok,hlen,gZ fU,q3,r1,Sem.run_pure]
     |dV _ _ _ b6 bK=>
      have:xs=[]:=by
       have:=q1.length;rw[q2]at this;simp at this;exact this
      subst this;have hh:h.db a off []=some I:=aj;have zW:xc=[]:=by cases q1;rfl
      subst zW;refine⟨_,goInt (Nat.min k 0),w,?_,rfl,?_,.int _ _,?_⟩
      ·simp only[Builtin.copy_,ht,aqU,aqe,apX,Sem.run_bind,bj hu,Result.andThen_ok,hlen,gZ fU,q3,storeCells,Sem.run_pure]
      ·exact s.Si hh
      ·exact Sh hh
  ·rename_i q;cases q<;>simp only at hv<;>(try(cases hv;done))
   simp only[E8,apW]at hv;obtain⟨rfl,rfl⟩:=hv;generalize hd:ρ y=sK at hx;cases hx;have hf:(Builtin.firstCells i.size (Nat.min k 0) (ρ z)).run P w=.ok #[] w:=by
    have:Nat.min k 0=0:=Nat.min_zero k;rw[this];exact adE hz hk
   refine⟨_,goInt (Nat.min k 0),w,?_,rfl,s,?_,rfl⟩
   ·simp only[Builtin.copy_,ht,aqU,aqe,apX,Sem.run_bind,bj hu,Result.andThen_ok,hlen,gZ fU,hf,Sem.run_pure]
   ·have:Nat.min k 0=0:=Nat.min_zero k;rw[this];exact .int _ _
theorem adG {c:Call} {y:Operand} {t:TypeId} {i:TypeInfo} {zv:Value} (ho:o.op=.call c) (hc:c.callee=.builtin .clear) (ha:c.args.toList=[y]) (ht:c.argTypes[0]? =some t)
 (hi:elemOf? P t=some i) (hz:i.zero=some zv):qO P o fun e h=>match(cO y).ev e with
   |.sl a o n _=>oH dm (h.db a o (dI (dU zv).cells n))
   |.no k=>match k with|.sl=>some (dm,h)|_=>none
   |_=>none:=by
 intro C U Λ h ls w e ρ v h' jX s aB hv;dsimp only at hv;obtain⟨el,hu,fU⟩:=Fu hi;have hx:=aB y;generalize (cO y).ev e=d at hx hv;suffices hs:∃w',(Builtin.clear_ c.argTypes o.type #[ρ y]).run P w=.ok (.tuple #[]) w'∧aP C U Λ h' ls w'∧v=dm∧h'.next=h.next by
  obtain⟨w',r1,r2,r3,r5⟩:=hs;subst r3;refine⟨.value (.tuple #[]),.tuple #[],w',U,Λ,?_,.inl rfl,AM.le_refl U,r2,w9 U,fun a I J=>absurd I J,by rw[r5];exact B5 _⟩;simp only[execOp,ho];obtain⟨Do,ru⟩:=uM (P:=P) (w:=w) (ρ:=ρ) (ty:=o.type) hc;rw[ru,za ha];simp only[builtin,aqQ,ap3,aqS];exact cr r1
 cases d<;>simp only at hv<;>(try(cases hv;done))
 ·rename_i a off n oA;cases aj:h.db a off (dI (dU zv).cells n)with
  |none=>simp[aj,oH]at hv
  |some I=>
   simp only[aj,oH,E8,apW]at hv;obtain⟨rfl,rfl⟩:=hv;have oz:=Ft (qN (U:=U) zv) n;have i1:(dU zv).cells.length=zv.cells.size:=by have:=(qN (U:=U) zv).length;simpa using this
   rw[i1]at oz;generalize hd:ρ y=sK at hx;cases hx with
   |sl _ _ _ _ L capC ha I J=>
    obtain⟨w',r1,r2,r3⟩:=s.db (P:=P) ha oz aj;refine⟨w',?_,r2,rfl,r3⟩;cases n with
    |zero=>
     have:(storeCells ⟨L.aw,L.base+off,none⟩ ((Array.range (0*zv.cells.size)).map (fun i=>zv.cells[i%zv.cells.size]!)).toList).run P w=.ok () w:=by
      simp[storeCells]
     rw[this]at r1;cases r1;simp[Builtin.clear_,ht,bj hu]
    |succ n=>
     simp only[Builtin.clear_,ht,aqU,aqe,Sem.run_bind,bj hu,Result.andThen_ok,lD fU hz,Builtin.zeroCells,r1,Sem.run_pure]
   |dV _ _ _ b6 bK=>
    refine⟨w,?_,?_,rfl,?_⟩
    ·simp[Builtin.clear_,ht,bj hu]
    ·exact s.Si (off:=off) (by simpa[dI]using aj)
    ·exact Sh (off:=off) (by simpa[dI]using aj)
 ·rename_i q;cases q<;>simp only at hv<;>(try(cases hv;done))
  simp only[E8,apW]at hv;obtain⟨rfl,rfl⟩:=hv;generalize hd:ρ y=sK at hx;cases hx;exact⟨w,by simp[Builtin.clear_,ht,bj hu],s,rfl,rfl⟩
end Go.Ev
