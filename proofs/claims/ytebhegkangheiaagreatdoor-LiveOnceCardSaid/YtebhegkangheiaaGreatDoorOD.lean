/- A part of the proof of glacislaw13.LiveOnce. -/
import Derived.Test.YtebhegkangheiaaGreatDoorOC
import Derived.Orders
import Derived.Below
import Derived.Shelf.Strings.Repeat
import Derived.Laws.IdiomCopy
import Derived.Lib.Bytealg
import Derived.Lib.Join
namespace Go.Ev
variable{C:Cx} {K:CK} {ls:List LE} {m:Nat} {bh:List Frame} {f0:Nat} {U:AM} {Λ:Pa->Prop} {h:Hp} {w:World}
theorem ss {P:Program} {f:Nat} {i:fO} (h:ea P f=some i):∃fn c,P.funcs[f]? =some fn/\fn.body=some c/\j1 P fn.results.toList=some i.res/\i.body=cn P fn.ntmps (bT P f) c/\i.nt=fn.ntmps:=by
 unfold ea at h;cases j:P.funcs[f]? with
 |none=>simp[j]at h
 |some fn=>
  simp only[j]at h;cases d:fn.body with
  |none=>simp[d]at h
  |some c=>
   simp only[d]at h;cases hr:j1 P fn.results.toList with
   |none=>simp[hr]at h
   |some res=>
    simp only[hr,aL]at h;subst h;exact⟨fn,c,rfl,d,hr,by simp[bT,j],rfl⟩
theorem yA:∀(l:List V) (i:Pa) (e:T V) (p:Pa),(fP l i e).get p=if i.toNat<=p.toNat/\p.toNat<i.toNat+l.length then l[p.toNat-i.toNat]? else e.get p
 |[],i,e,p=>by rw[ab (by simp)];(try rfl)
 |v::l,i,e,p=>by
  simp only[fP];rw[yA l i.succ (e.set v i) p,Pa.gm,T.ft];simp only[b7];by_cases d:i=p
  ·subst d;rw[ab (by omega),ae rfl,ae (by omega)];simp
  ·have h:i.toNat≠p.toNat:=fun e=>d (Pa.toNat_inj e);rw[ab d];by_cases o:i.toNat+1<=p.toNat/\p.toNat<i.toNat+1+l.length
   ·rw[ae o,ae (by omega)];have:p.toNat-i.toNat=(p.toNat-(i.toNat+1))+1:=by omega
    rw[this];simp
   ·rw[ab o,ab (by omega)]
theorem pA {f:Nat} {i:fO} (hc:ea C.P f=some i) {args:List V} {ce:List Value} (ha:bd U args ce) (d:Bool):
 mo C.P U h m (enter i f args d) (Frame.enter C.P f ce.toArray (if d then .deferred else .normal))/\(enter i f args d).k.deferred=d/\(enter i f args d).k.fn=f:=by
 obtain⟨fn,c,o,aj,L,B,j⟩:=ss hc;refine⟨?_,rfl,rfl⟩;have G:Frame.enter C.P f ce.toArray (if d then .deferred else .normal)=
  (CK.mk f (if d then .deferred else .normal) none).fr (ce.toArray++Array.replicate (fn.ntmps-ce.toArray.size) undef) [.code c] [] .run:=by
  simp[Frame.enter,CK.fr,o,aj]
 rw[G];have F:enter i f args d=⟨⟨f,i.nt,d,none⟩,fP args .z .E,[.code (cn C.P i.nt (bT C.P f) c)],[],.run⟩:=by
  simp only[enter];rw[B,j]
 rw[F];refine .run ⟨rfl,rfl,rfl⟩ .nil (fun p v hp=>?_) (by simp[j];omega) (.cons (.code c) .nil);rw[yA]at hp;have D:(T.E:T V).get p=none:=by cases p<;>rfl
 simp only[Pa.toNat,cS,true_and,eV,Nat.sub_zero,D]at hp;split at hp
 ·rename_i M;obtain⟨A,I,k2⟩:=ha.get hp;refine⟨A,?_,k2⟩;rw[p7 (by have:=ha.length;simp;omega)];simpa using I
 ·cases hp
theorem su {P:Program} {f:Nat} {fn:Func} {c:Code} (h:P.funcs[f]? =some fn) (d:fn.body=some c) (hn:(fn.name== "runtime.NumGoroutine")=false) (args:Array Value) (w:World):
 (callFunc f args).run P w=.ok (.enter f args) w:=by
 have j:¬fn.name= "runtime.NumGoroutine" :=by simpa using hn
 simp[callFunc,h,d,j]
def mq (P:Program):Prop:=∀(f:Nat) (fn:Func) (c:Code),P.funcs[f]? =some fn->fn.body=some c->(fn.name== "runtime.NumGoroutine")=false
theorem Fi {P:Program} {I:Oper} {f:T V->iI} (hc:cm P I.op=.dv f):
 (∃n,f=fun _=>.bad n)\/(∃c x,I.op=.call c/\c.callee=.value x/\((∃g,x=.func g/\f=fun e=>.call g (di e (c.args.toList.map cO)))\/
   f=fun e=>match(cO x).ev e with|.fn g a2=>.call g (di e (c.args.toList.map cO)++a2)|.fp l=>.yield l (di e (c.args.toList.map cO))|_=>.bad 59))\/
 (∃c x,I.op=.defer c/\c.callee=.value x/\f=fun e=>match(cO x).ev e with|.fn g a2=>.defer (.call g (di e (c.args.toList.map cO)++a2))|_=>.bad 60)\/
 (∃c,I.op=.call c/\c.callee=.builtin .recover/\f=fun _=>.recover)\/
 (∃x,(I.op=.panic x\/∃c,I.op=.call c/\c.callee=.builtin .panic/\c.args.toList=[x])/\f=fun e=>match(cO x).ev e with|.iface t v=>.panic (.iface t v)|_=>.bad 61):=by
 have bad:∀n,(a6 n:bx)=.dv f->∃n,f=fun _=>.bad n:=fun n h=>by unfold a6 at h;cases h;exact⟨n,rfl⟩
 cases A:I.op<;>rw[A]at hc<;>simp only[cm]at hc<;>(try(exact .inl (bad _ hc)))<;>(try(cases hc;done))
 case alloc t=>split at hc<;>first|(exact .inl (bad _ hc))|(cases hc;done)
 case build t ps=>repeat' (first|(exact .inl (bad _ hc))|(cases hc;done)|split at hc)
 case buildSlice t len ps=>repeat' (first|(exact .inl (bad _ hc))|(cases hc;done)|split at hc)
 case load t a=>split at hc<;>first|(exact .inl (bad _ hc))|(cases hc;done)
 case store t a v=>split at hc<;>first|(exact .inl (bad _ hc))|(cases hc;done)
 case binOp op t x y F=>
  split at hc
  ·cases o:(eo x||eo y)<;>rw[o]at hc<;>first|(exact .inl (bad _ hc))|(cases hc;done)
  ·cases hc
 case convert s d x=>
  unfold lh at hc
  repeat' (first|(exact .inl (bad _ hc))|(cases hc;done)|split at hc)
  all_goals (cases h:Nat.beq s d<;>rw[h]at hc<;>first|(exact .inl (bad _ hc))|(cases hc;done))
 case makeInterface t x=>repeat' (first|(exact .inl (bad _ hc))|(cases hc;done)|split at hc)
 case makeFunc fn first a2=>
  cases fn<;>simp only at hc<;>repeat' (first|(exact .inl (bad _ hc))|(cases hc;done)|split at hc)
 case makeMap t r=>cases r<;>first|(exact .inl (bad _ hc))|(cases hc;done)
 case makeSlice t l c=>repeat' (first|(exact .inl (bad _ hc))|(cases hc;done)|split at hc)
 case slice t x lo hi mx=>
  split at hc
  ·cases mx with
   |none=>simp only at hc;split at hc<;>first|(exact .inl (bad _ hc))|(cases hc;done)
   |some m=>exact .inl (bad _ hc)
  ·cases mx<;>first|(exact .inl (bad _ hc))|(cases hc;done)
  ·split at hc
   ·cases hm:(mx.isSome&&hi.isNone)<;>rw[hm]at hc<;>first|(exact .inl (bad _ hc))|(cases hc;done)
   ·exact .inl (bad _ hc)
  ·exact .inl (bad _ hc)
 case fieldAddr t x k=>repeat' (first|(exact .inl (bad _ hc))|(cases hc;done)|split at hc)
 case field t x k=>repeat' (first|(exact .inl (bad _ hc))|(cases hc;done)|split at hc)
 case indexAddr t x i=>repeat' (first|(exact .inl (bad _ hc))|(cases hc;done)|split at hc)
 case index t x i=>repeat' (first|(exact .inl (bad _ hc))|(cases hc;done)|split at hc)
 case lookup t x i ok=>
  split at hc
  ·rename_i k el hu;split at hc
   ·cases hq:c6 (a7 P k)<;>rw[hq]at hc<;>first|(exact .inl (bad _ hc))|(cases hc;done)
   ·exact .inl (bad _ hc)
  ·exact .inl (bad _ hc)
 case mapUpdate t m k v=>
  split at hc
  ·rename_i j el hu;cases hq:c6 (a7 P j)<;>rw[hq]at hc<;>first|(exact .inl (bad _ hc))|(cases hc;done)
  ·exact .inl (bad _ hc)
 case mapEntry t m k=>
  split at hc
  ·rename_i j el hu;split at hc
   ·cases hq:c6 (a7 P j)<;>rw[hq]at hc<;>first|(exact .inl (bad _ hc))|(cases hc;done)
   ·exact .inl (bad _ hc)
  ·exact .inl (bad _ hc)
 case typeAssert x D t ok=>repeat' (first|(exact .inl (bad _ hc))|(cases hc;done)|split at hc)
 case panic x=>cases hc;exact .inr (.inr (.inr (.inr ⟨x,.inl rfl,rfl⟩)))
 case call c=>
  split at hc
  ·rename_i b h;cases b<;>simp only[kx]at hc
   case recover=>cases hc;exact .inr (.inr (.inr (.inl ⟨c,rfl,h,rfl⟩)))
   case panic=>
    split at hc
    ·rename_i x hx;obtain⟨y,B,rfl⟩:=kA hx;cases hc;exact .inr (.inr (.inr (.inr ⟨y,.inr ⟨c,rfl,h,B⟩,rfl⟩)))
    ·exact .inl (bad _ hc)
   all_goals repeat' (first|(exact .inl (bad _ hc))|(cases hc;done)|split at hc)
  ·rename_i x hx;refine .inr (.inl ⟨c,x,rfl,hx,?_⟩);cases x<;>simp only at hc<;>cases hc
   ·exact .inr rfl
   ·exact .inr rfl
   ·exact .inr rfl
   ·exact .inl ⟨_,rfl,rfl⟩
  ·exact .inl (bad _ hc)
 case defer c=>
  split at hc
  ·rename_i x hx;cases hc;exact .inr (.inr (.inl ⟨c,x,rfl,hx,rfl⟩))
  ·exact .inl (bad _ hc)
theorem Fj {P:Program} (s:aS C U Λ h ls w) {n:Option Nat} {t:TypeId} (hn:hV P t=some n) {x v:V} {c:Value} (hx:VR U x c) (hv:eE h n x=some v):
 ∃j,(do loadVar t (<-asAddr c):Sem Value).run P w=.ok j w/\VR U v j:=by
 obtain⟨a,d,rfl,o,aj⟩:=xJ (P:=P) s hn hx hv;exact⟨d,by simp[asAddr,o],aj⟩
theorem cB.slot {e:T V} {tmps:Array Value} {X:Nat->Prop} (he:cB U e tmps X) {t:Nat} (ht:¬X t):VR U (e.val (pa t)) (cJ tmps (.tmp t)):=by
 have o:eG U (Ev.bL e [t]) tmps:=he.bL (fun u hu=>by simp at hu;subst hu;exact ht);have aj:=sp o (.tmp t);have d:(Ev.bL e [t]).get (pa t)=e.get (pa t):=by rw[so,ae (by rw[fu];simp)]
 simpa only[cO,Od.ev,T.val,d]using aj
theorem vf {P:Program} (s:aS C U Λ h ls w) {e:T V} {tmps:Array Value}:∀(B:List ResultVar) (res:List (Pa×Option (Option Nat))) (l:List V),cB U e tmps (fun t=>t∉slotsOf B)->j1 P B=some res->hY e h res=some l->
 ∃cs:List Value,bd U l cs/\(B.mapM (fun(r:ResultVar)=>match r with
  |.tmp t=>(pure (tmps.getD t undef):Sem Value)
  |.cell a t=>do loadVar t (<-asAddr (tmps.getD a undef)))).run P w=.ok cs w
 |[],res,l,_,o,aj=>by
  simp[j1]at o;subst o;simp[hY]at aj;subst aj;exact⟨[],.nil,by simp⟩
 |.tmp t::r,res,l,he,o,aj=>by
  simp only[j1]at o;cases hr:j1 P r with
  |none=>simp[hr]at o
  |some d=>
   simp only[hr,aL]at o;subst o;simp only[hY]at aj;cases hl:hY e h d with
   |none=>simp[hl]at aj
   |some l'=>
    simp only[hl,aL]at aj;subst aj;obtain⟨cs,A,k2⟩:=vf s r d l' (he.vd fun u hu=>by simp only[slotsOf,bS,not_or]at hu;exact hu.2) hr hl;have:=he.slot (t:=t) (by simp[slotsOf]);refine⟨cJ tmps (.tmp t)::cs,.cons _ _ _ _ this A,?_⟩;simp only[List.mapM_cons,Sem.run_bind,Sem.run_pure,Result.andThen_ok,k2];rfl
 |.cell a t::r,res,l,he,o,aj=>by
  simp only[j1]at o;cases j:hV P t with
  |none=>simp[j]at o
  |some n=>
   simp only[j]at o;cases hr:j1 P r with
   |none=>simp[hr]at o
   |some d=>
    simp only[hr,aL]at o;subst o;simp only[hY]at aj;cases hv:eE h n (e.val (pa a))with
    |none=>simp[hv]at aj
    |some v=>
     simp only[hv]at aj;cases hl:hY e h d with
     |none=>simp[hl]at aj
     |some l'=>
      simp only[hl,aL]at aj;subst aj;obtain⟨cs,A,k2⟩:=vf s r d l' (he.vd fun u hu=>by simp only[slotsOf,bS,not_or]at hu;exact hu.2) hr hl;have:=he.slot (t:=a) (by simp[slotsOf]);obtain⟨F,D,G⟩:=Fj (P:=P) s j this hv;refine⟨F::cs,.cons _ _ _ _ G A,?_⟩;simp only[cJ]at D;simp only[List.mapM_cons,Sem.run_bind,D,Result.andThen_ok,k2,Sem.run_pure]
theorem Fk {l:List V} {cs:List Value} (h:bd U l cs):VR U (oneOf l) (if h:cs.toArray.size=1 then cs.toArray[0]else .tuple cs.toArray):=by
 cases h with
 |nil=>exact .aN _ _ .nil
 |cons v c l cs h hs=>
  cases hs with
  |nil=>simpa[oneOf]using h
  |cons v' j l' cs' h' d=>simpa[oneOf]using VR.aN _ _ (.cons _ _ _ _ h (.cons _ _ _ _ h' d))
theorem Fl (s:aS C U Λ h ls w) {e:T V} {tmps:Array Value} {fn:Func} (he:cB U e tmps (fun t=>t∉qA fn)) {res:List (Pa×Option (Option Nat))} {l:List V} (o:j1 C.P fn.results.toList=some res) (aj:hY e h res=some l):
 ∃c,(results fn tmps).run C.P w=.ok c w/\VR U (oneOf l) c:=by
 obtain⟨cs,d,k2⟩:=vf (P:=C.P) s _ _ _ he o aj;refine⟨_,?_,Fk d⟩;unfold results;simp only[Sem.run_bind];have:(fn.results.mapM (fun(r:ResultVar)=>match r with
  |.tmp t=>(pure (tmps.getD t undef):Sem Value)
  |.cell a t=>do loadVar t (<-asAddr (tmps.getD a undef)))).run C.P w=.ok cs.toArray w:=by
  rw[Array.mapM_eq_mapM_toList];simp only[map_eq_pure_bind,Sem.run_bind,k2,Result.andThen_ok,Sem.run_pure]
 exact Eq.trans (congrArg (fun r:Result (Array Value)=>r.andThen _) this) rfl
end Go.Ev
namespace Go.Ev
variable{C:Cx} {K:CK} {ls:List LE} {m:Nat} {bh:List Frame} {f0:Nat} {U:AM} {Λ:Pa->Prop} {h:Hp} {w:World}
theorem qO {o:FK} {e:T V} {tmps:Array Value} {todo:List Item} {bg:List Go.Item} {defs:List Def} {ds:List Deferred} {ops:Array Oper} {I:RO ak} {rs:List (RS ak)} {i:Nat} {L:List Nat} {oi:Oper}
 (hk:KR U o K) (hd:ed U defs ds) {m':Nat} {h0:Hp} (hw:j3 C.P o.nt ops (ij C.P o.fn) m' U e h0 tmps I rs i L oi) (ht:eI C.P U o.nt (bT C.P o.fn) todo bg) (hn:h0.next.toNat<=h.next.toNat) {v:V} {c:Value} (hv:VR U v c):
 mo C.P U h m' ⟨o,e.put v I.dst,.cI rs::todo,defs,.run⟩ (K.fr (iS tmps oi.dst c) (.inRegion ops L::bg) ds .run):=by
 obtain⟨chks,d8,p,rfl,aj,B,D,F,A,G⟩:=hw.rest;obtain⟨g,Q⟩:=hw.ro;have M:I.dst=oi.dst.map pa:=by rw[Q]
 rw[M];exact .cI hk hd aj (fun j hj=>(B j hj).put (fun oj t R S=>A j oj t hj R S) (fun oj O=>G j oj hj O) (fun _ _ h=>h) hn v) (D.put A v) (F.put hv (fun d hd=>kl (hw.lt d hd) hw.size)) (by rw[qH];exact hw.size) ht
theorem yB {m':Nat} {h0:Hp} {c:Fr} {cc:Frame} (hc:nw C.P U h0 m' false c cc) (hn:h0.next.toNat<=h.next.toNat) {v:V} {d:Value} (hv:VR U v d) (cs:List Fr) (ls:List LE):
 ∃fr',finish c v cs h ls=.go fr' cs h ls/\mo C.P U h m' fr' (cc.finish d)/\fr'.k=c.k:=by
 cases hc with
 |wait hk hd hw ht=>exact⟨_,rfl,by rw[qI hw.at_];exact qO hk hd hw ht hn hv,rfl⟩
 | @rf k K e tmps todo bg ds Ds l L hk hd he hs ht hl=>
   refine⟨_,rfl,?_,rfl⟩;have:(K.fr tmps (.inRangeFunc L.aw::bg) Ds .run).finish d=K.fr tmps (.endRangeFunc L.aw::bg) Ds .run:=by simp[Frame.finish,CK.fr]
   rw[this];exact .run hk hd he hs (.cons (.j2 l L hl) ht)
def sv (c:Frame):Frame:=
 match c.mode with
 |.panicking ({recovered:=true,..}::d)=>
  match d.dropWhile (!·.goexit)with
  |[]=>{c with mode:=.returning}
  |rest=>{c with mode:=.panicking rest}
 |_=>c
theorem yC {j:FK} (hk:KR U j K) {v:V} {c:Value} (hv:VR U v c) (s:aS C U Λ h ls w) (hm:m<=h.next.toNat) {cs:List Fr} {ccs:List Frame} (A:fc C.P U bh f0 m j.deferred j.fn cs ccs) {M:Machine}
 (hn:K.kind=.normal->∀cc r,ccs=cc::r->Steps C.P M (lone (cc.finish c) r w)) (Z:K.kind=.deferred->∀cc r,ccs=cc::r->Steps C.P M (lone (sv cc) r w))
 (hz:j.round=none->K.kind=.normal->∃co,Steps C.P M (lone co ccs w)/\co.fn=K.fn/\co.leaving C.P w (.returned c)):
 ee C bh f0 M (doReturn j cs h ls v):=by
 obtain⟨ae,S,al⟩:=hk;generalize hd:j.deferred=d at*;generalize ak:j.fn=f at*;cases A with
 |nil=>
  simp only[doReturn,hd,bw];cases hr:j.round with
  |some l=>trivial
  |none=>
   obtain⟨co,ag,ah,z3⟩:=hz hr (by rw[S];(try rfl));exact⟨co,w,c,U,Λ,ls,ag,by rw[ah,<-ae],z3,s,hv⟩
 | @cons _ m' _ _ co cc cs ccs h0 hc o aj hs=>
   cases d with
   |false=>
    simp only[doReturn,hd,bw];obtain⟨fr',B,W,Y⟩:=yB (h:=h) hc (by omega) hv cs ls;rw[B];exact⟨_,hn (by rw[S];(try rfl)) cc ccs rfl,⟨U,Λ,w,m',_,_,rfl,s,by omega,W,by rw[Y];exact hs⟩⟩
   |true=>
    simp only[doReturn,hd,aE];cases hc with
    | @out k' F e' I am G ai D md d6 R O Q ab=>
      have A:=Z (by rw[S];(try rfl)) _ _ rfl;cases ab with
      |ret=>
       have B:sv (F.fr I G D .returning)=F.fr I G D .returning:=rfl;rw[B]at A;exact⟨_,A,⟨U,Λ,w,m',_,_,rfl,s,by omega,.out R O Q .ret,hs⟩⟩
      | @kC v' L r ac=>
        cases r with
        |true=>
         have B:sv (F.fr I G D (.panicking [{v:=L,recovered:=true,goexit:=false}]))=F.fr I G D .returning:=rfl;rw[B]at A;exact⟨_,A,⟨U,Λ,w,m',_,_,rfl,s,by omega,.out R O Q .ret,hs⟩⟩
        |false=>
         have B:sv (F.fr I G D (.panicking [{v:=L,recovered:=false,goexit:=false}]))=F.fr I G D (.panicking [{v:=L,recovered:=false,goexit:=false}]):=rfl;rw[B]at A;exact⟨_,A,⟨U,Λ,w,m',_,_,rfl,s,by omega,.out R O Q (.kC false ac),hs⟩⟩
theorem sw {P:Program} (hN:mq P) {f:Nat} {i:fO} (hc:ea P f=some i):∃fn c,P.funcs[f]? =some fn/\fn.body=some c/\(fn.name== "runtime.NumGoroutine")=false:=by
 obtain⟨fn,c,o,aj,_⟩:=ss hc;exact⟨fn,c,o,aj,hN f fn c o aj⟩
def pB (P:Program) (f:Nat) (g:List V->Hp->Option (V×Hp)):Prop:=
 ∀(C:Cx) (U:AM) (Λ:Pa->Prop) (h:Hp) (ls:List LE) (w:World) (args:List V) (ce:List Value) (v:V) (h':Hp),C.P=P->C.sd=false->aS C U Λ h ls w->bd U args ce->g args h=some (v,h')->
  Calls P f ce.toArray w fun d5 w'=>∃c ac d,d5=.returned c/\U.le ac/\aS C ac d h' ls w'/\VR ac v c/\(∀a,U a=none->ac a≠none->h.next.toNat<=a.toNat)/\h.next.toNat<=h'.next.toNat
structure mr (P:Program) (F:Nat->Option aP):Prop where
 code:∀f i,F f=some (.code i)->ea P f=some i
 cA:∀f g,F f=some (.cA g)->(∃i,ea P f=some i)/\pB P f g
def lE (C:Cx) (F:Nat->Option aP):Prop:=mr C.P F/\∀f g,F f=some (.cA g)->C.sd=false
theorem lE.split {C:Cx} {F:Nat->Option aP} (h:lE C F) (f:Nat):F f=none\/(∃g,F f=some (.cA g)/\(∃i,ea C.P f=some i)/\pB C.P f g/\C.sd=false)\/∃i,F f=some (.code i)/\ea C.P f=some i:=by
 cases d:F f with
 |none=>exact .inl rfl
 |some x=>cases x with
  |code i=>exact .inr (.inr ⟨i,rfl,h.1.code f i d⟩)
  |cA g=>exact .inr (.inl ⟨g,rfl,(h.1.cA f g d).1,(h.1.cA f g d).2,h.2 f g d⟩)
theorem mr.c {C:Cx} {F:Nat->Option aP} (h:mr C.P F) (hs:C.sd=false):lE C F:=⟨h,fun _ _ _=>hs⟩
theorem vg (P:Program):mr P fun i=>(ea P i).map .code where
 code:=fun f i h=>by
  cases hc:ea P f with
  |none=>simp[hc]at h
  |some j=>simp[hc]at h;rw[h]
 cA:=fun f g h=>by
  cases hc:ea P f with
  |none=>simp[hc]at h
  |some j=>simp[hc]at h
variable(F:Nat->Option aP)
theorem Fm {P:Program} {b:Nat} (d:w.heap[b]? =some (.deferred (some []))):∃w',(Instr.takeDeferred b).run P w=.ok [] w'/\gx w w' b/\w'.heap[b]? =some (.deferred none):=by
 have h:=(gI.1 d).1;refine⟨{w with heap:=w.heap.setIfInBounds b (.deferred none)},?_,⟨by simp,fun i hi=>kZ (Ne.symm hi),rfl,rfl,rfl,aB _⟩,mU h⟩;simp[Instr.takeDeferred,getObj,setObj,Sem.run,d]
theorem Fo (W:lE C F) (hN:mq C.P) {A:FK} {e:T V} {tmps:Array Value} {todo:List Item} {bg:List Go.Item} {defs:List Def} {ds:List Deferred} {md:Mode} {d6:FrameMode} (hk:KR U A K) (hd:ed U defs ds)
 (he:cB U e tmps (ij C.P A.fn)) (G:nv U md d6) (s:aS C U Λ h ls w) (hm:m<=h.next.toNat) {cs:List Fr} {ccs:List Frame} (I:fc C.P U bh f0 m A.deferred A.fn cs ccs):
 ee C bh f0 (lone (K.fr tmps bg ds d6) ccs w) (unwind F ⟨A,e,todo,defs,md⟩ cs h ls):=by
 cases hd with
 | @mark a L D ai R ha Y=>
   simp only[unwind];cases ab:h.get a with
   |none=>trivial
   |some b=>
    cases b<;>(try trivial)
    rename_i l;cases l with
    |false=>trivial
    |true=>
     have ah:Λ a:=by
      rcases s.live a L _ ha ab with o|⟨m,o⟩
      ·exact o
      ·cases o
     obtain⟨b',ae,ak⟩:=s.aw a L ha ah;rw[ab]at ae;cases ae;obtain⟨w',ay,az,t3⟩:=Fm (P:=C.P) ak;have s':=s.oe (b':=.c4 false) ha ah ab rfl rfl az t3;refine⟨_,.one (step_lone_go (fr':=K.fr tmps bg R d6) (cs':=ccs) (w':=w') ?_),⟨U,Λ,w',m,_,_,rfl,s',hm,.out hk Y he G,I⟩⟩;cases G<;>simp[stepG,Go.unwind,CK.fr,ay]
 | @call f args D ai R a2 ha Y=>
   simp only[unwind];rcases W.split f with j|⟨g,j,_⟩|⟨i,j,hc⟩
   ·rw[j];trivial
   ·rw[j];trivial
   ·rw[j];simp only;obtain⟨fn,c,o,aj,S⟩:=sw hN hc;have Z:=pA (U:=U) (h:=h) (m:=h.next.toNat) hc ha true;have ao:(invoke (.fn (.func f) ⟨a2⟩) D).run C.P w=.ok (.enter f (D.toList++a2).toArray) w:=by
     have B:(D++(⟨a2⟩:Array Value))=(D.toList++a2).toArray:=by
      apply qh.1;simp
     simp only[invoke,B];exact su o aj S _ w
    refine⟨_,.one (step_lone_go (fr':=Frame.enter C.P f (D.toList++a2).toArray .deferred) (cs':=K.fr tmps bg R d6::ccs) (w':=w) ?_),⟨U,Λ,w,h.next.toNat,_,_,rfl,s,aB _,Z.1,?_⟩⟩
    ·cases G<;>simp[stepG,Go.unwind,CK.fr,callDeferred,ao]
    ·rw[Z.2.1,Z.2.2];exact .cons h (.out hk Y he G) hm (aB _) I
 |nil=>
  cases G with
  |ret=>
   simp only[unwind];rcases W.split A.fn with j|⟨g,j,_⟩|⟨i,j,hc⟩
   ·rw[j];trivial
   ·rw[j];trivial
   ·rw[j];simp only;cases hr:hY e h i.res with
    |none=>trivial
    |some l=>
     obtain⟨fn,c,o,aj,S,aD,aE⟩:=ss hc;have d7:bT C.P A.fn=qA fn:=by simp[bT,o]
     have O:cB U e tmps (fun t=>t∉qA fn):=by rw[<-d7];exact he
     obtain⟨aA,ac,k2⟩:=Fl s O S hr;rw[hk.fn]at o;refine yC hk k2 s hm I (fun hn cc r B=>?_) (fun al cc r B=>?_) (fun _ hn=>⟨_,.refl _ _,rfl,rfl,rfl,hn,fn,o,ac⟩)
     ·subst B;exact .one (step_leave_returned ⟨rfl,rfl,hn,fn,o,ac⟩)
     ·subst B;refine .one (step_lone_go ?_);simp[stepG,Go.unwind,CK.fr,o,ac,Go.doReturn,al];rfl
  | @kC v c r hv=>
    simp only[unwind];cases r with
    |true=>trivial
    |false=>
     simp only[bw];have am:F A.fn=none\/∃x i,F A.fn=some x/\ea C.P A.fn=some i:=by
      rcases W.split A.fn with j|⟨g,j,⟨i,hi⟩,_⟩|⟨i,j,hc⟩
      ·exact .inl j
      ·exact .inr ⟨_,i,j,hi⟩
      ·exact .inr ⟨_,i,j,hc⟩
     rcases am with j|⟨x,i,j,hc⟩
     ·rw[j];trivial
     ·rw[j];simp only;obtain⟨fn,cc,o,_⟩:=ss hc;rw[hk.fn]at o;generalize aF:A.deferred=d at I;cases I with
      |nil=>trivial
      | @cons _ m' _ _ co cc cs ccs h0 hc aC aj hs=>
        have ag:∀fr',Frame.raise cc [{v:=c,recovered:=false,goexit:=false}]=fr'->Steps C.P (lone (K.fr tmps bg [] (.panicking [{v:=c,recovered:=false,goexit:=false}])) (cc::ccs) w) (lone fr' ccs w):=fun fr' B=>by
         subst B;exact .one (step_lone_go (by simp[stepG,Go.unwind,CK.fr,Frame.catches,o]))
        cases hc with
        |wait Q M ar ap=>
         obtain⟨chks,d8,p,aJ,aK,au,aL,av,q6⟩:=ar.rest;exact⟨_,ag _ rfl,⟨U,Λ,w,m',_,_,rfl,s,by omega,.out Q M (yu au av) (.kC false hv),hs⟩⟩
        |rf Q M O aI ap aH=>exact⟨_,ag _ rfl,⟨U,Λ,w,m',_,_,rfl,s,by omega,.out Q M (O.X _) (.kC false hv),hs⟩⟩
        |out Q M O an=>cases an<;>trivial
end Go.Ev
namespace Go.Ev
variable{C:Cx} {K:CK} {ls:List LE} {m:Nat} {bh:List Frame} {f0:Nat} {U:AM} {Λ:Pa->Prop} {h:Hp} {w:World}
variable(F:Nat->Option aP)
theorem yD {P:Program} {ρ:Operand->Value} {e d:T V} (ho:gn U d ρ) {c:Call} {x:Operand} (hx:c.callee=.value x) (hs:fS d e c.operands.toList) (ty:TypeId) {g:Nat} {a2:List V} (hv:(cO x).ev e=.fn g a2):
 ∃(cc:List Value) (A:List Value),(resolve ρ c ty).run P w=.ok {target:=.fn (.func g) ⟨cc⟩,args:=⟨A⟩} w/\bd U (di e (c.args.toList.map cO)++a2) (A++cc):=by
 have o:(cO x).ev d=(cO x).ev e:=hs x (by simp[Call.operands,hx]);have aj:=ho x;rw[o,hv]at aj;have B:di d (c.args.toList.map cO)=di e (c.args.toList.map cO):=sk fun y j=>hs y (by simp only[Call.operands,hx];simp at j⊢;exact .inr j);have h:=ho.list c.args.toList;rw[B]at h;generalize hr:ρ x=y at aj;cases aj with
 |fn _ _ cc D=>
  refine⟨cc,c.args.toList.map ρ,?_,h.append D⟩;simp only[resolve,hx,hr,Deferred.ofValue,Sem.run_pure];congr 2;apply qh.1;simp
theorem yE (al:lE C F) (hN:mq C.P) {d:FK} {e:T V} {tmps:Array Value} {todo:List Item} {bg:List Go.Item} {defs:List Def} {ds:List Deferred} {ops:Array Oper} {I:RO ak} {rs:List (RS ak)} {i:Nat} {L:List Nat} {oi:Oper}
 (hk:KR U d K) (hd:ed U defs ds) (hw:j3 C.P d.nt ops (ij C.P d.fn) m U e h tmps I rs i L oi) (ht:eI C.P U d.nt (bT C.P d.fn) todo bg) (s:aS C U Λ h ls w) (hm:m<=h.next.toNat) {cs:List Fr} {ccs:List Frame} (W:fc C.P U bh f0 m d.deferred d.fn cs ccs)
 (Y:Region.wanted oi (yielded ops tmps)=true) {c:Call} {x:Operand} (G:oi.op=.call c) (hx:c.callee=.value x) {S:T V} (ho:gn U S (cJ tmps)) (hs:fS S e oi.op.operands.toList) {g:Nat} {a2:List V} (hv:(cO x).ev e=.fn g a2):
 ee C bh f0 (lone (K.fr tmps (.inRegion ops (i::L)::bg) ds .run) ccs w) (jx F ⟨d,e,.cI (.op I::rs)::todo,defs,.run⟩ cs h ls g (di e (c.args.toList.map cO)++a2)):=by
 rw[G]at hs;obtain⟨cc,A,ab,ae⟩:=yD (w:=w) (P:=C.P) ho hx hs oi.type hv;unfold jx;rcases al.split g with j|⟨ai,j,⟨ah,hc⟩,ao,dl⟩|⟨ah,j,hc⟩
 ·rw[j];trivial
 ·rw[j];simp only;obtain⟨fn,code,o,aj,O⟩:=sw hN hc;have R:(execOp (cJ tmps) oi).run C.P w=.ok (.enter g (A++cc).toArray) w:=by
   have M:((⟨A⟩:Array Value)++(⟨cc⟩:Array Value))=(A++cc).toArray:=by
    apply qh.1;simp
   simp only[execOp,G,Sem.run_bind,ab,Result.andThen_ok,invoke,M];exact su o aj O _ w
  cases an:ai (di e (c.args.toList.map cO)++a2) h with
  |none=>trivial
  |some p=>
   obtain⟨v,h'⟩:=p;simp only;obtain⟨d5,w',fr,⟨aD,ac,aC,rfl,D,s',av,ap,au⟩,am,aE,ar⟩:=ao C U Λ h ls w _ _ v h' rfl dl s ae an (K.fr tmps (.inRegion ops (i::L)::bg) ds .run::ccs);have Z:∀a,a.toNat<h.next.toNat->U a=none->ac a=none:=fun a ha hn=>by
    cases aw:ac a with
    |none=>rfl
    |some L=>have:=ap a hn (by rw[aw];simp);omega
   obtain⟨fr',ay,az,aA⟩:=yB (h:=h') (.wait (hk.mono D) (hd.mono D) (hw.mono D Z) (ht.mono D)) au av cs ls;rw[ay];refine⟨_,.head (m₁:=lone (Frame.enter C.P g (A++cc).toArray .normal) (K.fr tmps (.inRegion ops (i::L)::bg) ds .run::ccs) w) ?_ (Steps.trans am (.one (step_leave_returned ar))),⟨ac,aC,w',m,_,_,rfl,s',by omega,az,by rw[aA];exact W.mono D (fun a ha hn=>Z a (by omega) hn)⟩⟩;refine step_lone_go (fr':=Frame.enter C.P g (A++cc).toArray .normal) (cs':=K.fr tmps (.inRegion ops (i::L)::bg) ds .run::ccs) (w':=w) ?_;rw[oo hw.at_ Y (.inr fun ag B=>by rw[G]at B;cases B)];simp[stepG.apply,R,CK.fr]
 ·rw[j];simp only;obtain⟨fn,code,o,aj,O⟩:=sw hN hc;have Q:=pA (U:=U) (h:=h) (m:=h.next.toNat) hc ae false;have R:(execOp (cJ tmps) oi).run C.P w=.ok (.enter g (A++cc).toArray) w:=by
   have M:((⟨A⟩:Array Value)++(⟨cc⟩:Array Value))=(A++cc).toArray:=by
    apply qh.1;simp
   simp only[execOp,G,Sem.run_bind,ab,Result.andThen_ok,invoke,M];exact su o aj O _ w
  refine⟨_,.one (step_lone_go (fr':=Frame.enter C.P g (A++cc).toArray .normal) (cs':=K.fr tmps (.inRegion ops (i::L)::bg) ds .run::ccs) (w':=w) ?_),⟨U,Λ,w,h.next.toNat,_,_,rfl,s,aB _,Q.1,?_⟩⟩
  ·rw[oo hw.at_ Y (.inr fun ag B=>by rw[G]at B;cases B)];simp[stepG.apply,R,CK.fr]
  ·rw[Q.2.1,Q.2.2];exact .cons h (.wait hk hd hw ht) hm (aB _) W
theorem Fp {d:FK} (D:d.round=none) {e:T V} {tmps:Array Value} {todo:List Item} {bg:List Go.Item} {defs:List Def} {ds:List Deferred} {ops:Array Oper} {I:RO ak} {rs:List (RS ak)} {i:Nat} {L:List Nat} {oi:Oper}
 (hk:KR U d K) (hd:ed U defs ds) (hw:j3 C.P d.nt ops (ij C.P d.fn) m U e h tmps I rs i L oi) (ht:eI C.P U d.nt (bT C.P d.fn) todo bg) (s:aS C U Λ h ls w) (hm:m<=h.next.toNat) {cs:List Fr} {ccs:List Frame} (G:fc C.P U bh f0 m d.deferred d.fn cs ccs)
 (M:Region.wanted oi (yielded ops tmps)=true) {c:Call} {x:Operand} (o:oi.op=.defer c) (hx:c.callee=.value x) {j:T V} (ho:gn U j (cJ tmps)) (hs:fS j e oi.op.operands.toList) {g:Nat} {a2:List V} (hv:(cO x).ev e=.fn g a2):
 ee C bh f0 (lone (K.fr tmps (.inRegion ops (i::L)::bg) ds .run) ccs w) (.go ⟨d,e.put cV I.dst,.cI rs::todo,.call g (di e (c.args.toList.map cO)++a2)::defs,.run⟩ cs h ls):=by
 rw[o]at hs;obtain⟨cc,A,O,Q⟩:=yD (w:=w) (P:=C.P) ho hx hs oi.type hv;have F:(execOp (cJ tmps) oi).run C.P w=.ok (.defer {target:=.fn (.func g) ⟨cc⟩,args:=⟨A⟩}) w:=by
  simp only[execOp,o,Sem.run_bind,O,Result.andThen_ok,Sem.run_pure]
 refine⟨_,.one (step_lone_go (fr':=K.fr (iS tmps oi.dst undef) (.inRegion ops L::bg) ({target:=.fn (.func g) ⟨cc⟩,args:=⟨A⟩}::ds) .run) (cs':=ccs) (w':=w) ?_),
  ⟨U,Λ,w,m,_,_,rfl,s,hm,qO hk (.call cc (by simpa using Q) hd) hw ht (aB _) (om U),G⟩⟩
 have B:K.round=none:=by have:=hk.round;rw[D]at this;exact this
 rw[oo hw.at_ M (.inl B),<-qI hw.at_];simp only[stepG.apply,Sem.runT_eq,F,GStep.bare_after];simp[CK.fr]
theorem yF:∀(ps:List Nat) (args:List V) (ce:List Value) (env d:T V) (tmps:Array Value) (n:Nat),eG U env tmps->bd U args ce->me (ps.map pa) args env=some d->(∀t∈ps,t<n)->n<=tmps.size->
 eG U d ((ps.zip ce).foldl (fun(tmps:Array Value) (j:Nat×Value)=>tmps.setIfInBounds j.1 j.2) tmps)/\ps.length=ce.length/\n<=((ps.zip ce).foldl (fun(tmps:Array Value) (j:Nat×Value)=>tmps.setIfInBounds j.1 j.2) tmps).size
 |[],args,ce,env,d,tmps,n,he,ha,hs,hp,hn=>by
  cases args with
  |nil=>cases ha;simp[me]at hs;subst hs;exact⟨he,rfl,hn⟩
  |cons v args=>simp[me]at hs
 |t::ps,args,ce,env,d,tmps,n,he,ha,hs,hp,hn=>by
  cases args with
  |nil=>simp[me]at hs
  |cons v args=>
   cases ha with
   |cons _ c _ cs h B=>
    simp only[eD,me]at hs;have ht:t<n:=hp t (by simp);obtain⟨o,aj,A⟩:=yF ps args cs (env.set v (pa t)) d (tmps.setIfInBounds t c) n (he.set h (by omega)) B hs (fun u hu=>hp u (by simp[hu])) (by simpa using hn);exact⟨o,by simp[aj],A⟩
theorem Fq {d:FK} {e:T V} {tmps:Array Value} {todo:List Item} {bg:List Go.Item} {defs:List Def} {ds:List Deferred} {ops:Array Oper} {I:RO ak} {rs:List (RS ak)} {i:Nat} {L:List Nat} {oi:Oper}
 (hk:KR U d K) (hd:ed U defs ds) (hw:j3 C.P d.nt ops (ij C.P d.fn) m U e h tmps I rs i L oi) (ht:eI C.P U d.nt (bT C.P d.fn) todo bg) (s:aS C U Λ h ls w) (hm:m<=h.next.toNat) {cs:List Fr} {ccs:List Frame} (aA:fc C.P U bh f0 m d.deferred d.fn cs ccs)
 (aE:Region.wanted oi (yielded ops tmps)=true) {c:Call} {x:Operand} (D:oi.op=.call c) (hx:c.callee=.value x) {B:T V} (ho:gn U B (cJ tmps)) (hs:fS B e oi.op.operands.toList) {l:Pa} (hv:(cO x).ev e=.fp l):
 ee C bh f0 (lone (K.fr tmps (.inRegion ops (i::L)::bg) ds .run) ccs w) (oa ⟨d,e,.cI (.op I::rs)::todo,defs,.run⟩ cs h ls l (di e (c.args.toList.map cO))):=by
 rw[D]at hs;have o:(cO x).ev B=(cO x).ev e:=hs x (by simp[Op.operands,Call.operands,hx]);have aj:=ho x;rw[o,hv]at aj;have ar:di B (c.args.toList.map cO)=di e (c.args.toList.map cO):=sk fun y S=>hs y (by simp only[Op.operands,Call.operands,hx];simp at S⊢;exact .inr S);have O:=ho.list c.args.toList;rw[ar]at O;unfold oa;cases R:h.get l with
 |none=>trivial
 |some b=>
  cases b<;>(try trivial)
  rename_i r;simp only;cases ch:me r.params (di e (c.args.toList.map cO)) r.env with
  |none=>trivial
  |some an=>
   simp only;cases ay:eX l ls with
   |none=>trivial
   |some y=>
    simp only;generalize az:cJ tmps x=aL at aj;cases aj with
    |fp _ j ha=>
     have aF:Λ l:=by
      rcases s.live l j _ ha R with o|⟨m,o⟩
      ·exact o
      ·cases o
     obtain⟨b',M,ap⟩:=s.aw l j ha aF;rw[R]at M;cases M;obtain⟨X,Z,aI,aJ,ag,ah,ai,al,am,aM,G,ac,ae⟩:=ap;rw[ay]at G;cases G;rw[al]at ch;obtain⟨W,aH,Y⟩:=yF X.params.toList _ _ r.env an X.tmps r.nt ah O ch am ai;have F:(execOp (cJ tmps) oi).run C.P w=.ok (.round j.aw X.fn ((X.params.zip (c.args.map (cJ tmps))).foldl (fun tmps (t,a)=>tmps.setIfInBounds t a) X.tmps) X.assign X.body) w:=by
      have av:(Instr.getLoop j.aw).run C.P w=.ok X w:=by simp[Instr.getLoop,getObj,Sem.run,Z]
      have aC:¬((c.args.map (cJ tmps)).size≠X.params.size):=by
       have ao:X.params.size=(List.map (cJ tmps) c.args.toList).length:=aH;simp at ao⊢;omega
      have aD:(#[]++c.args.map (cJ tmps))=c.args.map (cJ tmps):=by simp
      simp only[execOp,D,resolve,hx,az,Deferred.ofValue,Sem.run_bind,Sem.run_pure,Result.andThen_ok,invoke,aD,Instr.yield,av,ab aC]
     have au:(X.params.zip (c.args.map (cJ tmps))).foldl (fun tmps (t,a)=>tmps.setIfInBounds t a) X.tmps=
      (X.params.toList.zip (c.args.toList.map (cJ tmps))).foldl (fun(tmps:Array Value) (A:Nat×Value)=>tmps.setIfInBounds A.1 A.2) X.tmps:=by
      rw[<-Array.foldl_toList,Array.toList_zip,qg]
     rw[au]at F;generalize (X.params.toList.zip (c.args.toList.map (cJ tmps))).foldl (fun(tmps:Array Value) (A:Nat×Value)=>tmps.setIfInBounds A.1 A.2) X.tmps=T at F W Y;refine⟨_,.one (step_lone_go (fr':=(CK.mk X.fn .normal (some j.aw)).fr T [.code X.assign,.beginRound,.code X.body] [] .run) (cs':=K.fr tmps (.inRegion ops (i::L)::bg) ds .run::ccs) (w':=w) ?_),
      ⟨U,Λ,w,h.next.toNat,_,_,rfl,s,aB _,.run (K:=CK.mk X.fn .normal (some j.aw)) ⟨ag.symm,rfl,j,ha,rfl⟩ .nil W Y ?_,.cons h (.wait hk hd hw ht) hm (aB _) aA⟩⟩
     ·rw[oo hw.at_ aE (.inr fun aK Q=>by rw[D]at Q;cases Q)];simp[stepG.apply,F,CK.fr,Frame.round]
     ·rw[ac,ae];exact .cons (.code _) (.cons .begin (.cons (.code _) .nil))
theorem Fs {j:FK} {e:T V} {tmps:Array Value} {todo:List Item} {bg:List Go.Item} {defs:List Def} {ds:List Deferred} {ops:Array Oper} {I:RO ak} {rs:List (RS ak)} {i:Nat} {L:List Nat} {oi:Oper}
 (hk:KR U j K) (hd:ed U defs ds) (hw:j3 C.P j.nt ops (ij C.P j.fn) m U e h tmps I rs i L oi) (ht:eI C.P U j.nt (bT C.P j.fn) todo bg) (s:aS C U Λ h ls w) (hm:m<=h.next.toNat) {cs:List Fr} {ccs:List Frame} (ae:fc C.P U bh f0 m j.deferred j.fn cs ccs)
 (ao:Region.wanted oi (yielded ops tmps)=true) {c:Call} (Z:oi.op=.call c) (hx:c.callee=.builtin .recover):
 ee C bh f0 (lone (K.fr tmps (.inRegion ops (i::L)::bg) ds .run) ccs w) (nk F j e I rs todo defs cs h ls .recover):=by
 simp only[nk];have ac:(execOp (cJ tmps) oi).run C.P w=.ok .recover w:=by
  simp only[execOp,Z,resolve,hx,Sem.run_bind,Sem.run_pure,Result.andThen_ok,invoke,builtin]
 have al:=qI (K:=K) (tmps:=tmps) (ds:=ds) (k:=bg) (rest:=L) hw.at_;generalize D:j.deferred=d at ae;cases ae with
 |nil=>trivial
 | @cons _ m' _ _ co cc cs ccs h0 hc o aj hs=>
   simp only;cases d with
   |false=>trivial
   |true=>
    simp only[aE];cases hr:j.round with
    |some l=>trivial
    |none=>
     have am:K.round=none:=by have:=hk.round;rw[hr]at this;exact this
     have R:K.kind=.deferred:=by rw[hk.kind,D];(try rfl)
     simp only;have S:∀(v:Value) (B:Frame),(tryRecover (K.fr tmps (.inRegion ops (i::L)::bg) ds .run) (cc::ccs)=some (v,B::ccs)\/(tryRecover (K.fr tmps (.inRegion ops (i::L)::bg) ds .run) (cc::ccs)=none/\v=.nilIface/\B=cc))->
      Steps C.P (lone (K.fr tmps (.inRegion ops (i::L)::bg) ds .run) (cc::ccs) w) (lone (K.fr (iS tmps oi.dst v) (.inRegion ops L::bg) ds .run) (B::ccs) w):=fun v B A=>by
      refine .one (step_lone_go ?_);rw[oo hw.at_ ao (.inr fun G Y=>by rw[Z]at Y;cases Y),<-al];have ab:(K.fr tmps (.inRegion ops (i::L)::bg) ds .run).roundOf=none:=am;rcases A with A|⟨A,rfl,rfl⟩
      ·simp[stepG.apply,ac,ab,A]
      ·simp[stepG.apply,ac,ab,A]
     cases hc with
     | @out k' ah e' ap au ai ar ag md d6 Q M O an=>
       cases an with
       |ret=>
        exact⟨_,S .nilIface _ (.inr ⟨by simp[tryRecover,CK.fr,R],rfl,rfl⟩),⟨U,Λ,w,m,_,_,rfl,s,hm,qO hk hd hw ht (aB _) .r3,by
         show fc C.P U bh f0 m j.deferred j.fn _ _;rw[D];exact .cons h0 (.out Q M O .ret) o aj hs⟩⟩
       | @kC v' G r W=>
         cases r with
         |true=>
          simp only[aE];exact⟨_,S .nilIface _ (.inr ⟨by simp[tryRecover,CK.fr,R],rfl,rfl⟩),⟨U,Λ,w,m,_,_,rfl,s,hm,qO hk hd hw ht (aB _) .r3,by
           show fc C.P U bh f0 m j.deferred j.fn _ _;rw[D];exact .cons h0 (.out Q M O (.kC true W)) o aj hs⟩⟩
         |false=>
          simp only[bw];exact⟨_,S G (ah.fr ap ai ag (.panicking [{v:=G,recovered:=true,goexit:=false}])) (.inl (by simp[tryRecover,CK.fr,R])),⟨U,Λ,w,m,_,_,rfl,s,hm,qO hk hd hw ht (aB _) W,by
           show fc C.P U bh f0 m j.deferred j.fn _ _;rw[D];exact .cons h0 (.out Q M O (.kC true W)) o aj hs⟩⟩
theorem Ft {d:FK} {e:T V} {tmps:Array Value} {todo:List Item} {bg:List Go.Item} {defs:List Def} {ds:List Deferred} {ops:Array Oper} {I:RO ak} {rs:List (RS ak)} {i:Nat} {L:List Nat} {oi:Oper}
 (hk:KR U d K) (hd:ed U defs ds) (hw:j3 C.P d.nt ops (ij C.P d.fn) m U e h tmps I rs i L oi) (s:aS C U Λ h ls w) (hm:m<=h.next.toNat) {cs:List Fr} {ccs:List Frame} (Q:fc C.P U bh f0 m d.deferred d.fn cs ccs)
 (R:Region.wanted oi (yielded ops tmps)=true) {x:Operand} (D:oi.op=.panic x\/∃c,oi.op=.call c/\c.callee=.builtin .panic/\c.args.toList=[x]) {A:T V} (ho:gn U A (cJ tmps)) (hs:fS A e oi.op.operands.toList) {t:Nat} {v:V} (hv:(cO x).ev e=.iface t v):
 ee C bh f0 (lone (K.fr tmps (.inRegion ops (i::L)::bg) ds .run) ccs w) (.go ⟨d,e,.cI (.op I::rs)::todo,defs,.panicking (.iface t v) false⟩ cs h ls):=by
 have G:x∈oi.op.operands.toList:=by
  rcases D with o|⟨c,o,aj,B⟩
  ·simp[o,Op.operands]
  ·simp[o,Op.operands,Call.operands,aj,px B]
 have o:(cO x).ev A=(cO x).ev e:=hs x G;have aj:=ho x;rw[o,hv]at aj;generalize hr:cJ tmps x=y at aj;have O:(execOp (cJ tmps) oi).run C.P w=.halt (.panic y) w:=by
  cases aj with
  |iface _ _ F j=>
   rcases D with o|⟨c,o,aj,B⟩
   ·simp only[execOp,o,hr];simp[Instr.panic,goPanic,Sem.run]
   ·simp only[execOp,o,resolve,aj,px B,Sem.run_bind,Sem.run_pure,Result.andThen_ok,invoke,builtin,l4,eD,l6,hr];simp[Instr.panic,goPanic]
 obtain⟨chks,d8,p,Y,Z,S,ab,W,q6⟩:=hw.rest;refine⟨_,.one (step_lone_go (fr':=K.fr tmps (.inRegion ops (i::L)::bg) ds (.panicking [{v:=y,recovered:=false,goexit:=false}])) (cs':=ccs) (w':=w) ?_),⟨U,Λ,w,m,_,_,rfl,s,hm,.out hk hd (yu S W) (.kC false aj),Q⟩⟩;have M:∀c,oi.op≠.defer c:=fun F j=>by
  rcases D with o|⟨c,o,_⟩
  ·rw[o]at j;cases j
  ·rw[o]at j;cases j
 rw[oo hw.at_ R (.inr M)];simp[stepG.apply,O,CK.fr,Frame.raise]
theorem Fu (D:lE C F) (hN:mq C.P) {d:FK} {e:T V} {tmps:Array Value} {todo:List Item} {bg:List Go.Item} {defs:List Def} {ds:List Deferred} {ops:Array Oper} {I:RO ak} {rs:List (RS ak)} {i:Nat} {L:List Nat} {oi:Oper}
 (hk:KR U d K) (hd:ed U defs ds) (hw:j3 C.P d.nt ops (ij C.P d.fn) m U e h tmps I rs i L oi) (ht:eI C.P U d.nt (bT C.P d.fn) todo bg) (s:aS C U Λ h ls w) (hm:m<=h.next.toNat) {cs:List Fr} {ccs:List Frame} (o:fc C.P U bh f0 m d.deferred d.fn cs ccs)
 (A:Region.wanted oi (yielded ops tmps)=true) {f:T V->iI} (G:cm C.P oi.op=.dv f) {B:T V} (ho:gn U B (cJ tmps)) (hs:fS B e oi.op.operands.toList):
 ee C bh f0 (lone (K.fr tmps (.inRegion ops (i::L)::bg) ds .run) ccs w) (nk F d e I rs todo defs cs h ls (f e)):=by
 rcases Fi G with⟨n,rfl⟩|⟨c,x,j,hx,M⟩|⟨c,x,j,hx,rfl⟩|⟨c,j,hx,rfl⟩|⟨x,j,rfl⟩
 ·trivial
 ·rcases M with⟨g,rfl,rfl⟩|rfl
  ·have:=yE F D hN hk hd hw ht s hm o A j hx ho hs (g:=g) (a2:=[]) rfl;simpa[nk]using this
  ·simp only;cases hv:(cO x).ev e<;>(try trivial)
   ·exact yE F D hN hk hd hw ht s hm o A j hx ho hs hv
   ·exact Fq hk hd hw ht s hm o A j hx ho hs hv
 ·simp only;cases hv:(cO x).ev e<;>(try trivial)
  simp only[nk];cases hr:d.round with
  |some l=>trivial
  |none=>exact Fp hr hk hd hw ht s hm o A j hx ho hs hv
 ·exact Fs F hk hd hw ht s hm o A j hx
 ·simp only;cases hv:(cO x).ev e<;>(try trivial)
  exact Ft hk hd hw s hm o A j ho hs hv
end Go.Ev
namespace Go.Ev
variable{C:Cx} {K:CK} {ls:List LE} {m:Nat} {bh:List Frame} {f0:Nat} {U:AM} {Λ:Pa->Prop} {h:Hp} {w:World}
variable(F:Nat->Option aP)
def qP:Option k6->Option Code
 |none=>none
 |some .ret=>some .ret
 |some (.exit id)=>some (.exit id)
theorem Fv (j:Option k6):uA j (qP j):=by
 cases j with
 |none=>trivial
 |some j=>cases j with
  |ret=>trivial
  |exit id=>rfl
theorem Fw {P:Program} {b:Nat} {X:Loop} (d:w.heap[b]? =some (.loop X)) (j:Option Code):
 ∃w',(Instr.endRound b j).run P w=.ok (.bool j.isNone) w'/\gx w w' b/\w'.heap[b]? =some (.loop {X with state:=if j.isNone then .ready else .done,pending:=j}):=by
 have h:=(gI.1 d).1;refine⟨{w with heap:=w.heap.setIfInBounds b (.loop {X with state:=if j.isNone then .ready else .done,pending:=j})},?_,⟨by simp,fun i hi=>kZ (Ne.symm hi),rfl,rfl,rfl,aB _⟩,mU h⟩;simp[Instr.endRound,Instr.getLoop,getObj,setObj,Sem.run,d]
theorem Fy {P:Program} {b:Nat} {X:Loop} (d:w.heap[b]? =some (.loop X)) (hr:X.state=.ready):
 ∃w',(Instr.beginRound b).run P w=.ok () w'/\gx w w' b/\w'.heap[b]? =some (.loop {X with state:=.busy}):=by
 have h:=(gI.1 d).1;refine⟨{w with heap:=w.heap.setIfInBounds b (.loop {X with state:=.busy})},?_,⟨by simp,fun i hi=>kZ (Ne.symm hi),rfl,rfl,rfl,aB _⟩,mU h⟩;simp[Instr.beginRound,Instr.getLoop,getObj,setObj,Sem.run,d,hr]
theorem FA {P:Program} {b:Nat} {X:Loop} (d:w.heap[b]? =some (.loop X)) (hr:X.state≠.busy):
 ∃w',(Instr.endLoop b).run P w=.ok X.pending w'/\gx w w' b/\w'.heap[b]? =some (.loop {X with state:=.exhausted}):=by
 have h:=(gI.1 d).1;refine⟨{w with heap:=w.heap.setIfInBounds b (.loop {X with state:=.exhausted})},?_,⟨by simp,fun i hi=>kZ (Ne.symm hi),rfl,rfl,rfl,aB _⟩,mU h⟩;simp[Instr.endLoop,Instr.getLoop,getObj,setObj,Sem.run,d,hr]
theorem vh (s:aS C U Λ h ls w) {l:Pa} {L:Loc} (ha:U l=some L) {r:l8} (j:h.get l=some (.loop r)):Λ l/\BR C.P U ls l (.loop r) L w:=by
 have A:Λ l:=by
  rcases s.live l L _ ha j with o|⟨m,o⟩
  ·exact o
  ·cases o
 obtain⟨b',d,B⟩:=s.aw l L ha A;rw[j]at d;cases d;exact⟨A,B⟩
theorem vi {A:FK} {e:T V} {tmps:Array Value} {todo:List Item} {defs:List Def} {ds:List Deferred} {bg:List Go.Item} (hk:KR U A K) (hd:ed U defs ds) (he:eG U e tmps)
 (s:aS C U Λ h ls w) (hm:m<=h.next.toNat) {cs:List Fr} {ccs:List Frame} (I:fc C.P U bh f0 m A.deferred A.fn cs ccs) (j:Option k6)
 (o:K.round=none->(∀id,j≠some (.exit id))->Go.step C.P (lone (K.fr tmps bg ds .run) ccs w)=.next (lone (K.fr tmps bg ds .returning) ccs w))
 (aj:∀b v w',K.round=some b->(Instr.endRound b (qP j)).run C.P w=.ok v w'->∀fr' cs',(Go.doReturn C.P true (K.fr tmps bg ds .run) ccs none v w').bare=.go {frame:=fr',callers:=cs',status:=.running,dying:=none} w'->
   Go.step C.P (lone (K.fr tmps bg ds .run) ccs w)=.next (lone fr' cs' w')):
 ee C bh f0 (lone (K.fr tmps bg ds .run) ccs w) (nl ⟨A,e,todo,defs,.run⟩ cs h ls j):=by
 simp only[nl];have d:=hk.round;cases hr:A.round with
 |none=>
  rw[hr]at d;have F:(∀id,j≠some (.exit id))->ee C bh f0 (lone (K.fr tmps bg ds .run) ccs w) (.go ⟨A,e,todo,defs,.returning⟩ cs h ls):=fun hj=>
   ⟨_,.one (o d hj),⟨U,Λ,w,m,_,_,rfl,s,hm,.out hk hd (he.X _) .ret,I⟩⟩
  cases j with
  |none=>exact F (fun id h=>by cases h)
  |some j=>cases j with
   |ret=>exact F (fun id h=>by cases h)
   |exit id=>trivial
 |some l=>
  rw[hr]at d;obtain⟨L,ha,d⟩:=d;simp only;cases D:h.get l with
  |none=>trivial
  |some b=>
   cases b<;>(try trivial)
   rename_i r;simp only;cases hd with
   |mark=>trivial
   |call=>trivial
   |nil=>
    simp only;obtain⟨ae,X,O,ah,ai,Q,R,S,W,Y,y,Z⟩:=vh s ha D;obtain⟨w',M,ag,t3⟩:=Fw (P:=C.P) O (qP j);have ac:(qP j).isNone=(match(generalizing:=false) j with|none=>true|some _=>false):=by
     cases j with
     |none=>rfl
     |some j=>cases j<;>rfl
    have s':aS C U Λ (h.put l (.loop {r with state:=match(generalizing:=false) j with|none=>.ready|some _=>.done,pending:=j})) ls w':=by
     refine s.oe ha ae D rfl rfl ag ⟨_,t3,?_,Fv j,Q,R,S,W,Y,y,Z⟩;cases j with
     |none=>rfl
     |some j=>cases j<;>rfl
    refine yC (c:=.bool (qP j).isNone) hk (by rw[ac];exact .bool _) s' hm I (fun hn cc rest B=>?_) (fun ab cc rest B=>?_) (fun G=>by rw[hr]at G;cases G)
    ·subst B;refine .one (aj _ _ _ d M _ _ ?_);simp[Go.doReturn,CK.fr,hn]
    ·subst B;refine .one (aj _ _ _ d M _ _ ?_);simp[Go.doReturn,CK.fr,ab];rfl
section leaves
variable{P:Program} {tmps:Array Value} {k:List Go.Item} {cs:List Frame} {ds:List Deferred}
theorem FB {b:Nat} {v:Value} {w':World} (hr:K.round=some b) (he:(Instr.endRound b (some .ret)).run P w=.ok v w') {fr':Frame} {cs':List Frame}
 (hd:(Go.doReturn P true (K.fr tmps (.code .ret::k) ds .run) cs none v w').bare=.go {frame:=fr',callers:=cs',status:=.running,dying:=none} w'):
 Go.step P (lone (K.fr tmps (.code .ret::k) ds .run) cs w)=.next (lone fr' cs' w'):=by
 refine step_lone_go ?_;simp only[CK.fr,hr]at hd⊢;simp[stepG,stepG.exec,he,hd]
theorem FC {b:Nat} {v:Value} {w':World} (hr:K.round=some b) (he:(Instr.endRound b none).run P w=.ok v w') {fr':Frame} {cs':List Frame}
 (hd:(Go.doReturn P true (K.fr tmps [] ds .run) cs none v w').bare=.go {frame:=fr',callers:=cs',status:=.running,dying:=none} w'):
 Go.step P (lone (K.fr tmps [] ds .run) cs w)=.next (lone fr' cs' w'):=by
 refine step_lone_go ?_;simp only[CK.fr,hr]at hd⊢;simp[stepG,stepG.exec,he,hd]
theorem FD {b id:Nat} {v:Value} {w':World} (hx:Go.exitTo id k=none) (hr:K.round=some b) (he:(Instr.endRound b (some (.exit id))).run P w=.ok v w') {fr':Frame} {cs':List Frame}
 (hd:(Go.doReturn P true (K.fr tmps (.code (.exit id)::k) ds .run) cs none v w').bare=.go {frame:=fr',callers:=cs',status:=.running,dying:=none} w'):
 Go.step P (lone (K.fr tmps (.code (.exit id)::k) ds .run) cs w)=.next (lone fr' cs' w'):=by
 refine step_lone_go ?_;simp only[CK.fr,hr]at hd⊢;simp[stepG,stepG.exec,hx,he,hd]
end leaves
theorem aS.FE (s:aS C U Λ h ls w) (A B:ak) (a b:IC ak):aS C U Λ ((h.alloc A).alloc B) (⟨h.next.succ,a,b⟩::ls) w:=by
 have d:=(s.ghost A).ghost B;have D:xE ls (⟨h.next.succ,a,b⟩::ls):=fun x y hx=>by
  have F:=s.gS x y hx;simp only[eX];have:(h.next.succ).beq x=false:=by
   rw[l2];intro j;have:=(Pa.beq_iff _ _).1 j;subst this;rw[Pa.gm]at F;omega
  rw[this];exact hx
 have G:((h.alloc A).alloc B).next.toNat=h.next.toNat+2:=by
  show h.next.succ.succ.toNat=_;rw[Pa.gm,Pa.gm]
 exact{fQ:=d.fQ,aw:=fun x L hx I=>(by obtain⟨c,o,aj⟩:=d.aw x L hx I;exact⟨c,o,aj.mono (AM.le_refl U) D rfl⟩),inj:=d.inj,live:=d.live,wr:=d.wr,low:=d.low,size:=d.size,still:=d.still,fresh:=d.fresh,
       gS:=fun x y hx=>(by
        simp only[eX]at hx;cases j:(h.next.succ).beq x with
        |true=>
         have:=(Pa.beq_iff _ _).1 j;subst this;rw[G,Pa.gm];omega
        |false=>
         rw[j]at hx;have:=s.gS x y hx;omega)}
theorem FF (az:lE C F) (hN:mq C.P) {j:FK} {e:T V} {tmps:Array Value} {todo:List Item} {bg:List Go.Item} {defs:List Def} {ds:List Deferred} (hk:KR U j K) (hd:ed U defs ds) (he:eG U e tmps) (an:j.nt<=tmps.size)
 (ht:eI C.P U j.nt (bT C.P j.fn) todo bg) (s:aS C U Λ h ls w) (hm:m<=h.next.toNat) {cs:List Fr} {ccs:List Frame} (aK:fc C.P U bh f0 m j.deferred j.fn cs ccs) (f:Operand) (ps:Array Tmp) (a b:Code) (am:ps.toList.all (fun t=>Nat.blt t j.nt)=true):
 ee C bh f0 (lone (K.fr tmps (.code (.rangeFunc f ps a b)::bg) ds .run) ccs w)
  (hZ F j e todo defs cs h ls (.rangeFunc (cO f) (ps.toList.map pa) (cn C.P j.nt (bT C.P j.fn) a) (cn C.P j.nt (bT C.P j.fn) b))):=by
 simp only[hZ];have Q:=hk.round;cases hr:j.round with
 |some l=>trivial
 |none=>
  rw[hr]at Q;have Q:K.round=none:=Q;simp only;have W:=sp he f;cases hv:(cO f).ev e<;>(try trivial)
  rename_i g a2;simp only;rcases az.split g with M|⟨aR,M,_⟩|⟨aQ,M,hc⟩
  ·rw[M];trivial
  ·rw[M];trivial
  ·rw[M];simp only;rw[hv]at W;generalize aC:cJ tmps f=aP at W;cases W with
   |fn _ _ cc aA=>
    obtain⟨fn,code,o,aj,ay⟩:=sw hN hc;obtain⟨A,R⟩:∃A:World,A={w with heap:=w.heap.push (.deferred (some []))}:=⟨_,rfl⟩
    obtain⟨X,D⟩:∃X:Loop,X={state:=.ready,pending:=none,fn:=K.fn,tmps,params:=ps,assign:=a,body:=b,defers:=w.heap.size}:=⟨_,rfl⟩
    obtain⟨B,ab⟩:∃B:World,B={A with heap:=A.heap.push (.loop X)}:=⟨_,rfl⟩
    have aV:A.heap.size=w.heap.size+1:=by rw[R];simp
    have ar:iQ w A:=by rw[R];exact iQ.push w _
    have au:iQ A B:=by rw[ab];exact iQ.push A _
    have ae:=s.FE (.c4 true) (.loop {state:=.ready,pending:=none,fn:=j.fn,nt:=j.nt,env:=e,params:=ps.toList.map pa}) (cn C.P j.nt (bT C.P j.fn) a) (cn C.P j.nt (bT C.P j.fn) b);generalize aI:(⟨h.next.succ,cn C.P j.nt (bT C.P j.fn) a,cn C.P j.nt (bT C.P j.fn) b⟩::ls:List LE)=aU at ae;generalize Y:((h.alloc (.c4 true)).alloc (.loop {state:=.ready,pending:=none,fn:=j.fn,nt:=j.nt,env:=e,params:=ps.toList.map pa}))=h' at ae;have Z:h.next≠h.next.succ:=fun I=>by have:=congrArg Pa.toNat I;rw[Pa.gm]at this;omega
    have av:h'.get h.next=some (.c4 true):=by
     rw[<-Y];simp[bn.alloc,bn.get,T.ft,Ne.symm Z]
    have aw:h'.get h.next.succ=some (.loop {state:=.ready,pending:=none,fn:=j.fn,nt:=j.nt,env:=e,params:=ps.toList.map pa}):=by
     rw[<-Y];simp[bn.alloc,bn.get,T.ft]
    have aT:h'.next.toNat=h.next.toNat+2:=by
     rw[<-Y];show h.next.succ.succ.toNat=_;rw[Pa.gm,Pa.gm]
    have ak:=s.iP;have aH:=AM.iO (U:=U) (a:=h.next) (L:=⟨w.heap.size,0,0,false⟩) ak;have aO:=ae.fill (top:=0) (md:=false) ak av ar (by show A.heap[w.heap.size]? =_;rw[R];simp);have al:(U.put h.next ⟨w.heap.size,0,0,false⟩) h.next.succ=none:=by
     simp only[AM.put,Ne.symm Z,if_false];cases hx:U h.next.succ with
     |none=>rfl
     |some L=>have:=s.fQ _ _ hx;rw[Pa.gm]at this;omega
    have ai:=AM.iO (U:=U.put h.next ⟨w.heap.size,0,0,false⟩) (a:=h.next.succ) (L:=⟨A.heap.size,0,0,false⟩) al;have G:=AM.le_trans aH ai;have ao:=aO.fill (top:=0) (md:=false) (w':=B) al aw au (by
     refine⟨X,by show B.heap[A.heap.size]? =_;rw[ab];simp,by rw[D],by rw[D];trivial,by rw[D];exact hk.fn.symm,by rw[D];exact he.mono G,by rw[D];exact an,by rw[D],?_,
      ⟨h.next.succ,cn C.P j.nt (bT C.P j.fn) a,cn C.P j.nt (bT C.P j.fn) b⟩,?_,by rw[D],by rw[D]⟩
     ·rw[D];intro t aL;rw[eU]at am;exact kl (jV t) (eT (am t aL))
     ·rw[<-aI];simp only[eX];rw[(Pa.beq_iff _ _).2 rfl];(try rfl))
    generalize ac:(U.put h.next ⟨w.heap.size,0,0,false⟩).put h.next.succ ⟨A.heap.size,0,0,false⟩=O at ao ai G;have ap:O h.next=some ⟨w.heap.size,0,0,false⟩:=by rw[<-ac];simp[AM.put,Z]
    have ag:O h.next.succ=some ⟨A.heap.size,0,0,false⟩:=by rw[<-ac];simp[AM.put]
    have aF:∀x,x.toNat<m->U x=none->O x=none:=fun x hx hn=>by
     have n1:x≠h.next:=fun I=>by subst I;omega
     have aM:x≠h.next.succ:=fun I=>by subst I;rw[Pa.gm]at hx;omega
     rw[<-ac];simp[AM.put,n1,aM,hn]
    have S:=pA (U:=O) (h:=h') (m:=h'.next.toNat) hc (args:=.fp h.next.succ::a2) (ce:=.func (.yield A.heap.size) #[] #[]::cc) (.cons _ _ _ _ (.fp h.next.succ _ ag) (bd.mono G aA)) false;refine⟨_,.one (step_lone_go (fr':=Frame.enter C.P g (.func (.yield A.heap.size) #[] #[]::cc).toArray .normal)
     (cs':=K.fr tmps (.inRangeFunc A.heap.size::bg) ({target:=.collected w.heap.size,args:=#[]}::ds) .run::ccs) (w':=B) ?_),⟨O,_,B,h'.next.toNat,_,_,rfl,ao,aB _,S.1,?_⟩⟩
    ·have aE:(Instr.enterLoop K.fn tmps ps a b none).run C.P w=.ok (A.heap.size,[{target:=.collected w.heap.size,args:=#[]}]) B:=by
      rw[ab,D,R];simp[Instr.enterLoop,newObj,Sem.run];rfl
     have aJ:(do let d<-resolve (cJ tmps) {callee:=.value f,args:=#[.const (.func (.yield A.heap.size) #[] #[])],argTypes:=#[]} 0;invoke d.target d.args:Sem Next).run C.P B=.ok (.enter g (.func (.yield A.heap.size) #[] #[]::cc).toArray) B:=by
      have I:(#[]++#[Value.func (.yield A.heap.size) #[] #[]]++(⟨cc⟩:Array Value))=(.func (.yield A.heap.size) #[] #[]::cc).toArray:=by
       apply qh.1;simp
      have aD:∀v,cJ tmps (.const v)=v:=fun _=>rfl;simp only[resolve,l4,eD,l6,aC,aD,Deferred.ofValue,Sem.run_bind,Sem.run_pure,Result.andThen_ok,invoke,I];exact su o aj ay _ B
     have ah:=CK.eval K tmps (.inRangeFunc A.heap.size::bg) ({target:=.collected w.heap.size,args:=#[]}::ds) .run;simp only[CK.fr,Q]at ah⊢;simp only[stepG,stepG.exec,Sem.runT_eq,aE,GStep.bare_after,List.singleton_append,ah];simp[stepG.apply,aJ]
    ·rw[S.2.1,S.2.2];exact .cons h' (.rf (hk.mono G) (.mark ap (hd.mono G)) (he.mono G) an (ht.mono G) ag) (by omega) (aB _) (aK.mono G aF)
theorem FG (S:qN C.P) (D:lE C F) (hN:mq C.P) {d:FK} {e:T V} {tmps:Array Value} {todo:List Item} {bg:List Go.Item} {defs:List Def} {ds:List Deferred} (hk:KR U d K) (hd:ed U defs ds) (he:eG U e tmps) (j:d.nt<=tmps.size)
 (ht:eI C.P U d.nt (bT C.P d.fn) todo bg) (s:aS C U Λ h ls w) (hm:m<=h.next.toNat) {cs:List Fr} {ccs:List Frame} (A:fc C.P U bh f0 m d.deferred d.fn cs ccs) (c:Code):
 ee C bh f0 (lone (K.fr tmps (.code c::bg) ds .run) ccs w) (hZ F d e todo defs cs h ls (cn C.P d.nt (bT C.P d.fn) c)):=by
 have go:∀{M:Machine} {co:Frame} {w':World} {fr:Fr},fr.k=d->Steps C.P M (lone co ccs w')->aS C U Λ h ls w'->mo C.P U h m fr co->ee C bh f0 M (.go fr cs h ls):=
  fun O G s' Q=>⟨_,G,⟨U,Λ,_,m,_,_,rfl,s',hm,Q,by rw[O];exact A⟩⟩
 have push:∀(c:Code) (k:List Item) (ck:List Go.Item),eI C.P U d.nt (bT C.P d.fn) k ck->ee C bh f0 (lone (K.fr tmps (.code c::ck) ds .run) ccs w) (.go ⟨d,e,eF (cn C.P d.nt (bT C.P d.fn) c) k,defs,.run⟩ cs h ls):=fun c k ck R=>by
  obtain⟨co,w',o,aj,B⟩:=ve S (m:=m) (ccs:=ccs) hk hd he j c k ck w s R;exact go rfl o aj B
 cases c with
 |skip=>exact go rfl (.one yv) s (.run hk hd he j ht)
 |label l=>exact go rfl (.one yw) s (.run hk hd he j ht)
 |seq a b=>exact .of_steps (.one yx) (push a _ _ (.cons (.code b) ht))
 |region id ops draw=>
  have o:=push (.region id ops draw) todo bg ht;cases draw with
  |false=>exact o
  |true=>
   have hc:cn C.P d.nt (bT C.P d.fn) (.region id ops true)=drawn C.P d.nt (bT C.P d.fn) ops (dZ C.P d.nt ops ops.toList 0 []):=rfl;rw[hc]at o⊢;unfold drawn at o⊢;cases I:(C.P.follows .mixedOrders&&(pt ops (dZ C.P d.nt ops ops.toList 0 [])&&qz (bT C.P d.fn) (dZ C.P d.nt ops ops.toList 0 [])))with
   |true=>rw[I]at o;exact o
   |false=>trivial
 |cond c a b=>
  show ee C bh f0 _ (hZ F d e todo defs cs h ls (.cond (cO c) (cn C.P d.nt (bT C.P d.fn) a) (cn C.P d.nt (bT C.P d.fn) b)));simp only[hZ];have hc:=sp he c;cases hv:(cO c).ev e<;>(try trivial)
  rename_i t;rw[hv]at hc;have L:cJ tmps c=.bool t:=by generalize cJ tmps c=y at hc;cases hc;rfl
  refine .of_steps (.one (E7 L)) ?_;cases t with
  |true=>exact push a _ _ ht
  |false=>exact push b _ _ ht
 |block id b=>exact .of_steps (.one E8) (push b _ _ (.cons (.inBlock id) ht))
 |loop b=>exact .of_steps (.one E9) (push b _ _ (.cons (.inLoop b) ht))
 |exit id=>
  show ee C bh f0 _ (hZ F d e todo defs cs h ls (.exit id));simp only[hZ];cases hx:exitTo id todo with
  |none=>
   exact vi hk hd he s hm A (some (.exit id)) (fun _ hj=>absurd rfl (hj id)) (fun b v w' hr o fr' cs' aj=>FD ((vc ht).2 hx) hr o aj)
  |some k'=>
   obtain⟨Y,o,aj⟩:=(vc ht).1 hx;exact go rfl (.one (Fb o)) s (.run hk hd he j aj)
 |ret=>
  show ee C bh f0 _ (hZ F d e todo defs cs h ls .ret);exact vi hk hd he s hm A (some .ret) (fun hr _=>Fc hr) (fun b v w' hr o fr' cs' aj=>FB hr o aj)
 |scope b=>trivial
 |goto l=>trivial
 |refuse y=>trivial
 |rangeFunc f ps a b=>
  simp only[cn];cases W:ps.toList.all (fun t=>Nat.blt t d.nt)with
  |false=>trivial
  |true=>exact FF F D hN hk hd he j ht s hm A f ps a b W
theorem FH {P:Program} {U:AM} {nt:Nat} {bZ:List Nat} {j:Option k6} {c:Option Code} (h:uA j c) {k:List Item} {ck:List Go.Item} (ht:eI P U nt bZ k ck):eI P U nt bZ (r2 j++k) ((c.map Go.Item.code).toList++ck):=by
 cases j with
 |none=>
  cases c with
  |none=>exact ht
  |some c=>exact h.elim
 |some j=>
  cases j with
  |ret=>
   cases c with
   |none=>exact h.elim
   |some c=>cases c<;>first|exact h.elim|exact .cons (.code .ret) ht
  |exit id=>
   cases c with
   |none=>exact h.elim
   |some c=>
    cases c<;>first|exact h.elim|(have d:id=_:=h;subst d;exact .cons (.code (.exit _)) ht)
theorem FI (au:qN C.P) (al:lE C F) (hN:mq C.P) {fr:Fr} {cs:List Fr} {M:Machine} (hr:Rel C bh f0 fr cs h ls M):ee C bh f0 M (step F fr cs h ls):=by
 obtain⟨U,Λ,w,m,co,ccs,rfl,s,hm,aF,A⟩:=hr.it;cases aF with
 | @out d K e tmps todo bg defs ds md d6 hk hd he ar=>
   have aJ:step F ⟨d,e,todo,defs,md⟩ cs h ls=unwind F ⟨d,e,todo,defs,md⟩ cs h ls:=by cases ar<;>rfl
   rw[aJ];exact Fo F al hN hk hd he ar s hm A
 | @run d K e tmps todo bg defs ds hk hd he B ht=>
   cases ht with
   |nil=>exact vi hk hd he s hm A none (fun hr _=>Fe hr) (fun b v w' hr o fr' cs' aj=>FC hr o aj)
   | @cons i c k ck hi ht=>
     cases hi with
     |code c=>exact FG F au al hN hk hd he B ht s hm A c
     |inBlock id=>exact⟨_,.one E6,⟨U,Λ,w,m,_,_,rfl,s,hm,.run hk hd he B ht,A⟩⟩
     |inLoop c=>
      obtain⟨co,w',o,aj,D⟩:=ve au (m:=m) (ccs:=ccs) hk hd he B c (.inLoop (cn C.P d.nt (bT C.P d.fn) c)::k) (.inLoop c::ck) w s (.cons (.inLoop c) ht);exact⟨_,.head Fa o,⟨U,Λ,w',m,_,_,rfl,aj,hm,D,A⟩⟩
     |gQ l L hl=>trivial
     |j2 l L hl=>
      show ee C bh f0 _ (hG F d e k defs cs h ls (.j2 l));simp only[hG];cases G:h.get l with
      |none=>trivial
      |some b=>
       cases b<;>(try trivial)
       rename_i r;simp only;obtain⟨an,X,S,W,O,Y,Z,ab,ae,ag,y,ah⟩:=vh s hl G;have fin:r.state≠.busy->ee C bh f0 (lone (K.fr tmps (.endRangeFunc L.aw::ck) ds .run) ccs w) (.go ⟨d,e,r2 r.pending++k,defs,.run⟩ cs (h.put l (.loop {r with state:=.exhausted})) ls):=fun aH=>by
        obtain⟨w',ao,ap,t3⟩:=FA (P:=C.P) S (by rw[W];exact aH);have s':=s.oe (b':=.loop {r with state:=.exhausted}) hl an G rfl rfl ap ⟨_,t3,rfl,O,Y,Z,ab,ae,ag,y,ah⟩;refine⟨_,.one (step_lone_go (fr':=K.fr tmps ((X.pending.map Go.Item.code).toList++ck) ds .run) (cs':=ccs) (w':=w') ?_),⟨U,Λ,w',m,_,_,rfl,s',hm,.run hk hd he B (FH O ht),A⟩⟩;simp[stepG,stepG.exec,CK.fr,ao]
       cases am:r.state with
       |busy=>trivial
       |ready=>exact fin (by rw[am];simp)
       |done=>exact fin (by rw[am];simp)
       |exhausted=>exact fin (by rw[am];simp)
     |begin=>
      show ee C bh f0 _ (hG F d e k defs cs h ls .begin);simp only[hG];have Q:=hk.round;cases hr:d.round with
      |none=>trivial
      |some l=>
       rw[hr]at Q;obtain⟨L,hl,Q⟩:=Q;simp only;cases G:h.get l with
       |none=>trivial
       |some b=>
        cases b<;>(try trivial)
        rename_i r;simp only;cases aI:r.state<;>(try trivial)
        obtain⟨an,X,S,W,O,Y,Z,ab,ae,ag,y,ah⟩:=vh s hl G;obtain⟨w',ao,ap,t3⟩:=Fy (P:=C.P) S (by rw[W];exact aI);have s':=s.oe (b':=.loop {r with state:=.busy}) hl an G rfl rfl ap ⟨_,t3,rfl,O,Y,Z,ab,ae,ag,y,ah⟩;refine⟨_,.one (step_lone_go (fr':=K.fr tmps ck ds .run) (cs':=ccs) (w':=w') ?_),⟨U,Λ,w',m,_,_,rfl,s',hm,.run hk hd he B ht,A⟩⟩;simp[stepG,stepG.exec,stepG.apply,CK.fr,Q,ao,Frame.finish]
 | @cI d K e tmps todo bg defs ds ops chks rs L p hk hd hw hp ha he B ht=>
   show ee C bh f0 _ (match fq (chks.map .bX++rs) e h with
    |.fin e h=>.go ⟨d,e,todo,defs,.run⟩ cs h ls
    |.nj c I rs e h=>nk F d e I rs todo defs cs h ls c
    |.bad n=>.bad n d.fn)
   rcases vb (rs:=rs) (e:=e) (h:=h) chks with⟨n,aC⟩|⟨aD,aE⟩
   ·rw[aC];trivial
   ·rw[aE];have R:=E4 (K:=K) (ds:=ds) (k:=bg) (cs:=ccs) (m:=m) hw U Λ h w e tmps s hm B he (fun j hj=>(hp j hj).ok aD) ha;cases av:fq rs e h with
    |bad n=>trivial
    |fin e' h'=>
     rw[av]at R;obtain⟨ac,ay,w',aK,o,aj,D,ai,ak⟩:=R;refine⟨_,o,⟨ac,ay,w',m,_,_,rfl,D,by have:=aj.next;omega,.run (hk.mono aj.le) (hd.mono aj.le) ai ak (ht.mono aj.le),A.mono aj.le aj.bL⟩⟩
    |nj c I d0 e' h'=>
     rw[av]at R;rcases R with⟨n,rfl⟩|⟨ac,ay,w',aK,i,L',oi,f,o,aj,D,ai,ak,rfl,az,aL,aA,aB⟩
     ·trivial
     ·exact .of_steps o (Fu F al hN (hk.mono aj.le) (hd.mono aj.le) ai (ht.mono aj.le) D (by have:=aj.next;omega) (A.mono aj.le aj.bL) az ak aA aB)
theorem sx (j:qN C.P) (d:lE C F) (hN:mq C.P):∀(n:Nat) {fr:Fr} {cs:List Fr} {h:Hp} {ls:List LE} {M:Machine},Rel C bh f0 fr cs h ls M->ee C bh f0 M (run F n fr cs h ls)
 |0,fr,cs,h,ls,M,hr=>⟨M,.refl _ _,hr⟩
 |n+1,fr,cs,h,ls,M,hr=>by
  have o:=FI F j d hN hr;have h0:run F (n+1) fr cs h ls=Nx.rec (motive:=fun _=>Nx) (fun fr cs h ls=>run F n fr cs h ls) (fun v h=>.done v h) (fun a b=>.bad a b) (step F fr cs h ls):=rfl;rw[h0];cases hs:step F fr cs h ls with
  |go fr' cs' h' D=>
   rw[hs]at o;obtain⟨B,aj,A⟩:=o;exact .of_steps aj (sx j d hN n A)
  |done v h'=>rw[hs]at o;exact o
  |bad a b=>trivial
def Kept (w w':World):Prop:=w.heap.size<=w'.heap.size/\(∀i,i<w.heap.size->w'.heap[i]? =w.heap[i]?)/\w'.os=w.os/\w'.output=w.output
end Go.Ev
namespace Go.Ev
variable{P:Program} {nt:Nat} {ops:Array Oper}
theorem kD (s i j:Nat):(Nat.lor s (2^i)).testBit j=true↔s.testBit j=true\/j=i:=by
 show(s|||2^i).testBit j=true↔_;rw[Nat.testBit_or,Nat.testBit_two_pow];simp only[cx,aR];constructor
 ·rintro(h|h)
  ·exact .inl h
  ·exact .inr h.symm
 ·rintro(h|h)
  ·exact .inl h
  ·exact .inr h.symm
theorem vj (done:Nat) (d:b8):lj done d=true↔∀j,d.pred.testBit j=true->done.testBit j=true:=by
 unfold lj;rw[Nat.beq_eq];show(d.pred&&&done)=d.pred↔_;constructor
 ·intro h j hj;have:(d.pred&&&done).testBit j=true:=by rw[h];exact hj
  rw[Nat.testBit_and,be]at this;exact this.2
 ·intro h;apply Nat.eq_of_testBit_eq;intro j;rw[Nat.testBit_and];cases hp:d.pred.testBit j with
  |false=>rfl
  |true=>rw[h j hp];(try rfl)
theorem sy (I:Oper) (j:Nat):(pr I).testBit j=true↔∃e∈I.after.toList,Region.binds .any e=true/\e.on=j:=by
 unfold pr;have:∀(es:List Edge) (s:Nat),(es.foldl uu s).testBit j=true↔s.testBit j=true\/∃e∈es,Region.binds .any e=true/\e.on=j:=by
  intro es
  induction es with
  |nil=>intro s;simp
  |cons e es d=>
   intro s;simp only[gK,d,bS,exists_eq_or_imp];unfold uu;cases o:Region.binds .any e with
   |false=>simp
   |true=>
    simp only[aE,kD,true_and];constructor
    ·rintro((h|h)|h)
     ·exact .inl h
     ·exact .inr (.inl h.symm)
     ·exact .inr (.inr h)
    ·rintro(h|h|h)
     ·exact .inl (.inl h)
     ·exact .inl (.inr h.symm)
     ·exact .inr h
 rw[this];simp
theorem FJ (d:List Nat) (I:Oper) (j:Nat) (h:(ni d I).testBit j=true):∃e∈I.after.toList,Region.binds .any e=true/\(e.on=j\/(d.getD e.on 0).testBit j=true):=by
 unfold ni at h;have:∀(es:List Edge) (s:Nat),(es.foldl (uv d) s).testBit j=true->s.testBit j=true\/∃e∈es,Region.binds .any e=true/\(e.on=j\/(d.getD e.on 0).testBit j=true):=by
  intro es
  induction es with
  |nil=>intro s hs;exact .inl hs
  |cons e es B=>
   intro s hs;simp only[gK]at hs;rcases B _ hs with o|⟨e',o,aj⟩
   ·unfold uv at o;cases A:Region.binds .any e with
    |false=>rw[A]at o;exact .inl o
    |true=>
     rw[A]at o;simp only[aE]at o;change (s|||(2^e.on|||d.getD e.on 0)).testBit j=true at o;rw[Nat.testBit_or,Nat.testBit_or,Nat.testBit_two_pow]at o;simp only[cx,aR]at o;rcases o with o|o|o
     ·exact .inl o
     ·exact .inr ⟨e,by simp,A,.inl o⟩
     ·exact .inr ⟨e,by simp,A,.inr o⟩
   ·exact .inr ⟨e',by simp[o],aj⟩
 rcases this _ 0 h with o|o
 ·simp at o
 ·exact o
theorem vk:∀(r:List Oper) (i:Nat) (d:List Nat) (k:Nat),(dZ P nt ops r i d)[k]? =(r[k]?).map fun I=>
 ⟨i+k,I,pr I,ni (d++((dZ P nt ops r i d).take k).map (·.gk)) I,!(j0 P nt ops I)⟩
 |[],i,d,k=>by simp[dZ]
 |I::r,i,d,0=>by simp[dZ]
 |I::r,i,d,k+1=>by
  simp only[dZ,dF,List.take_succ_cons,eD];rw[vk r (i+1) (d++[ni d I]) k];cases r[k]? with
  |none=>rfl
  |some h=>simp;omega
structure pC (P:Program) (nt:Nat) (ops:Array Oper) (l:List b8):Prop where
 get:∀d∈l,ops[d.i]? =some d.I/\d.pred=pr d.I/\d.dY=!(j0 P nt ops d.I)/\l[d.i]? =some d
 all:∀(i:Nat) I,ops[i]? =some I->∃d∈l,d.i=i/\d.I=I
 gk:∀d∈l,∀j,d.gk.testBit j=true->∃e∈d.I.after.toList,Region.binds .any e=true/\(e.on=j\/∃d'∈l,d'.i=e.on/\d'.i<d.i/\d'.gk.testBit j=true)
theorem FL:pC P nt ops (dZ P nt ops ops.toList 0 []):=by
 have D:=vk (P:=P) (nt:=nt) (ops:=ops) ops.toList 0 [];simp only[eV,fo,p9]at D;generalize dZ P nt ops ops.toList 0 []=l at D;have key:∀d∈l,∃I,ops[d.i]? =some I/\l[d.i]? =some d/\d=⟨d.i,I,pr I,ni ((l.take d.i).map (·.gk)) I,!(j0 P nt ops I)⟩:=by
  intro d hd;obtain⟨k,hk⟩:=List.mem_iff_getElem?.1 hd;have:=D k;rw[hk]at this;cases ho:ops[k]? with
  |none=>rw[ho]at this;simp at this
  |some I=>
   rw[ho]at this;simp only[dM,aL]at this;have hi:d.i=k:=by rw[this]
   exact⟨I,by rw[hi];exact ho,by rw[hi];exact hk,by rw[hi];exact this⟩
 refine⟨fun d hd=>?_,fun i I ho=>?_,fun d hd j hj=>?_⟩
 ·obtain⟨I,o,aj,B⟩:=key d hd;rw[B];rw[B]at aj;exact⟨o,rfl,rfl,aj⟩
 ·have:=D i;rw[ho]at this;simp only[dM]at this;exact⟨_,km this,rfl,rfl⟩
 ·obtain⟨I,o,aj,B⟩:=key d hd;have ha:d.gk=ni ((l.take d.i).map (·.gk)) I:=by rw[B]
  have F:d.I=I:=by rw[B]
  rw[ha]at hj;obtain⟨e,G,L,h⟩:=FJ _ _ _ hj;refine⟨e,by rw[F];exact G,L,h.imp id fun h=>?_⟩;rw[List.getD_eq_getElem?_getD,k1,jv]at h;split at h
  ·rename_i M;cases hl:l[e.on]? with
   |none=>rw[hl]at h;simp at h
   |some d'=>
    rw[hl]at h;simp only[dM,kq]at h;have hm:=km hl;obtain⟨R,O,k2,Q⟩:=key d' hm;have A:=D e.on;rw[hl]at A;have hi:d'.i=e.on:=by
     cases ho:ops[e.on]? with
     |none=>rw[ho]at A;simp at A
     |some S=>rw[ho]at A;simp only[dM,aL]at A;rw[A]
    exact⟨d',hm,hi,by omega,h⟩
  ·simp at h
theorem sz {l:List b8} (hl:pC P nt ops l) {X:Nat->Prop} (h:∀d∈l,X d.i->∀j,d.pred.testBit j=true->X j):∀(n:Nat) (d:b8),d.i<n->d∈l->(∀j,d.pred.testBit j=true->X j)->
 ∀j,d.gk.testBit j=true->X j
 |0,d,hn,_,_,_,_=>absurd hn (qj _)
 |n+1,d,hn,hd,hp,j,hj=>by
  obtain⟨e,o,aj,D⟩:=hl.gk d hd j hj;have A:X e.on:=hp e.on (by rw[(hl.get d hd).2.1];exact(sy _ _).2 ⟨e,o,aj,rfl⟩);rcases D with rfl|⟨d',B,k2,G,F⟩
  ·exact A
  ·exact sz hl h n d' (by omega) B (h d' B (by rw[k2];exact A)) j F
inductive nx (ops:Array Oper):Array Bool->List Nat->Prop
 |nil {listed:Array Bool} (h:Region.ready .any ops listed=[]):nx ops listed []
 |cons {listed:Array Bool} {i:Nat} {L:List Nat} (h:i∈Region.ready .any ops listed) (t:nx ops (listed.setIfInBounds i true) L):nx ops listed (i::L)
theorem count_set:∀(l:List Bool) (i:Nat),l[i]? =some false->(l.set i true).count false+1=l.count false
 |[],i,hv=>by simp at hv
 |b::l,0,hv=>by simp at hv;subst hv;simp
 |b::l,i+1,hv=>by
  simp at hv;have:=count_set l i hv;simp only[List.set_cons_succ,List.count_cons];omega
theorem yG {listed:Array Bool} {i:Nat} (h:listed.getD i true=false):(listed.setIfInBounds i true).toList.count false+1=listed.toList.count false:=by
 have d:i<listed.size:=by
  rcases kr i listed.size with o|o
  ·exact o
  ·simp[o]at h
 have hv:listed.toList[i]? =some false:=by
  simp[d]at h⊢;exact h
 rw[Array.toList_setIfInBounds];exact count_set _ _ hv
theorem yH:∀(fuel t:Nat) (listed:Array Bool),listed.toList.count false<=fuel->nx ops listed (Region.linearise.go .any ops fuel t listed [])
 |0,t,listed,d=>by
  have h0:Region.ready .any ops listed=[]:=by
   cases hr:Region.ready .any ops listed with
   |nil=>rfl
   |cons i r=>
    have hm:i∈Region.ready .any ops listed:=by rw[hr];simp
    have:=yG (mem_ready.1 hm).1;omega
  simpa[Region.linearise.go]using nx.nil h0
 |fuel+1,t,listed,d=>by
  simp only[Region.linearise.go];change nx ops listed (match(Region.ready .any ops listed)[t%(Region.ready .any ops listed).length]? with
   |some i=>Region.linearise.go .any ops fuel (t/(Region.ready .any ops listed).length) (listed.setIfInBounds i true) [i]
   |none=>[].reverse)
  cases hi:(Region.ready .any ops listed)[t%(Region.ready .any ops listed).length]? with
  |none=>
   have j:Region.ready .any ops listed=[]:=by
    cases hr:Region.ready .any ops listed with
    |nil=>rfl
    |cons x xs=>
     rw[hr]at hi;have h:t%(x::xs).length<(x::xs).length:=Nat.mod_lt _ (by simp);simp at hi;simp at h;omega
   exact .nil j
  |some i=>
   simp only[];rw[linearise_go_acc,List.reverse_singleton,List.singleton_append];have hm:=km hi;have:=yG (mem_ready.1 hm).1;exact .cons hm (yH fuel _ _ (by omega))
theorem vl {p:b8->Bool}:∀{l:List b8},iL p l=none->∀x∈l,p x=false
 |[],_,x,hx=>by cases hx
 |d::l,h,x,hx=>by
  simp only[iL]at h;cases hd:p d with
  |true=>simp[hd]at h
  |false=>
   simp only[hd,bw]at h;cases ht:iL p l with
   |some q=>obtain⟨y,r⟩:=q;simp[ht]at h
   |none=>
    cases hx with
    |head=>exact hd
    |tail _ hx=>exact vl ht x hx
theorem vm {p:b8->Bool}:∀{l:List b8} {d:b8} {r:List b8},iL p l=some (d,r)->p d=true/\(∀x,x∈l↔x=d\/x∈r)/\r.length+1=l.length/\
 ((l.map (·.i)).Nodup->d.i∉r.map (·.i)/\(r.map (·.i)).Nodup)
 |[],d,r,h=>by simp[iL]at h
 |y::l,d,r,h=>by
  simp only[iL]at h;cases j:p y with
  |true=>
   simp only[j,aE,aL,dH]at h;obtain⟨rfl,rfl⟩:=h;exact⟨j,fun x=>by simp,rfl,fun hn=>by simpa using hn⟩
  |false=>
   simp only[j,bw]at h;cases ht:iL p l with
   |none=>simp[ht]at h
   |some q=>
    obtain⟨z,G⟩:=q;simp only[ht,aL,dH]at h;obtain⟨rfl,rfl⟩:=h;obtain⟨o,aj,A,B⟩:=vm ht;refine⟨o,fun x=>?_,by simp[A],fun hn=>?_⟩
    ·simp only[bS,aj x];constructor
     ·rintro(h|h|h)
      ·exact .inr (.inl h)
      ·exact .inl h
      ·exact .inr (.inr h)
     ·rintro(h|h|h)
      ·exact .inr (.inl h)
      ·exact .inl h
      ·exact .inr (.inr h)
    ·simp only[eD,List.nodup_cons]at hn⊢;obtain⟨F,k2⟩:=B hn.2;refine⟨?_,?_,k2⟩
     ·simp only[bS,not_or];refine⟨fun e=>hn.1 (nZ.2 ⟨z,(aj z).2 (.inl rfl),e⟩),F⟩
     ·intro hm;obtain⟨x,hx,D⟩:=nZ.1 hm;exact hn.1 (nZ.2 ⟨x,(aj x).2 (.inr hx),D⟩)
def dy (listed:Array Bool) (i:Nat):Prop:=listed.getD i true=true
structure Inv (P:Program) (nt:Nat) (ops:Array Oper) (l:List b8) (done:Nat) (ci rem:List b8) (listed:Array Bool):Prop where
 size:listed.size=ops.size
 part:∀d∈l,(d∈ci/\done.testBit d.i=true)\/(d∈rem/\done.testBit d.i=false)
 pl:∀d∈ci,d∈l
 rl:∀d∈rem,d∈l
 sA:(rem.map (·.i)).Nodup
 rb:∀d∈rem,done.testBit d.i=false
 sd:∀i,i<ops.size->dy listed i->done.testBit i=true
 dY:∀d∈ci,d.dY=true->dy listed d.i
 sc:∀d∈l,dy listed d.i->∀j,d.pred.testBit j=true->dy listed j
 mi:∀d∈ci,∀j,d.pred.testBit j=true->done.testBit j=true
structure ot (P:Program) (nt:Nat) (ops:Array Oper) (l:List b8):Prop where
 ok:pC P nt ops l
 vn:∀d∈l,∀j,d.pred.testBit j=true->j<d.i
 self:∀d∈l,d.dY=false->∀t,d.I.dst=some t->t∉dP ops d.I
 pair:∀x∈l,∀y∈l,x.i≠y.i->∀t,x.I.dst=some t->y.I.dst≠some t/\(x.dY=false->t∈dP ops y.I->y.gk.testBit x.i=true)
def ik (done:Nat) (listed:Array Bool) (j:Nat):Prop:=done.testBit j=true/\listed.getD j true=false
theorem sB {l:List Nat} {t:Nat}:n5 l t=true↔t∈l:=by
 unfold n5;rw[List.any_eq_true];constructor
 ·rintro⟨u,o,aj⟩;have:=dG aj;subst this;exact o
 ·intro h;exact⟨t,h,qm t⟩
theorem FM {l:List b8} (hl:pC P nt ops l) (h:pt ops l=true):ot P nt ops l:=by
 unfold pt at h;rw[eU]at h;refine⟨hl,fun d hd j hj=>?_,fun d hd he t ht hn=>?_,fun x hx y G F t ht=>?_⟩
 ·have:=h d hd;simp only[be]at this;have o:=this.1;unfold xy at o;rw[eU]at o;rw[(hl.get d hd).2.1,sy]at hj;obtain⟨e,I,k2,rfl⟩:=hj;have:=o e I;rw[k2]at this;simp only[l5,jw]at this;exact kl (jV _) (eT this)
 ·have:=h d hd;simp only[be]at this;have o:=this.2.1;unfold xx at o;rw[ht]at o;simp only[he,jw,c3]at o;have:=sB.2 hn;rw[o]at this;cases this
 ·have:=h x hx;simp only[be]at this;have o:=this.2.2;rw[eU]at o;have aj:=o y G;have B:Nat.beq x.i y.i=false:=by
   cases B:Nat.beq x.i y.i with
   |false=>rfl
   |true=>exact absurd (dG B) F
  rw[B]at aj;simp only[jw]at aj;unfold xw at aj;rw[ht]at aj;simp only[be,c3]at aj;obtain⟨A,D⟩:=aj;refine⟨fun e=>?_,fun he hn=>?_⟩
  ·unfold xv at A;rw[e]at A;simp at A
  ·rw[he,sB.2 hn]at D;simpa using D
theorem yI {listed:Array Bool} {i:Nat} (h:listed.getD i true=false):i<listed.size:=by
 rcases kr i listed.size with o|o
 ·exact o
 ·simp[o]at h
theorem jA {listed:Array Bool} {i j:Nat}:dy (listed.setIfInBounds i true) j↔dy listed j\/j=i:=by
 unfold dy;by_cases d:i=j
 ·subst d;constructor
  ·intro _;exact .inr rfl
  ·intro _;rcases kr i listed.size with o|o
   ·simp[o]
   ·simp[o]
 ·rw[getD_set_ne true d];exact⟨.inl,fun h=>h.resolve_right (fun e=>d e.symm)⟩
theorem jB {listed:Array Bool} {i:Nat}:listed.getD i true=false↔¬dy listed i:=by
 unfold dy;cases listed.getD i true<;>simp
theorem sC {l:List b8} (hs:ot P nt ops l) {listed:Array Bool} (B:listed.size=ops.size) (h:Region.ready .any ops listed=[]):∀(n i:Nat),i<n->i<ops.size->dy listed i
 |0,i,hn,_=>absurd hn (qj _)
 |n+1,i,hn,hi=>by
  by_cases hL:dy listed i
  ·exact hL
  ·exfalso;have hm:i∈Region.ready .any ops listed:=by
    rw[mem_ready];refine⟨jB.2 hL,ops[i],by simp[hi],fun e he j=>?_⟩;obtain⟨d,hd,rfl,A⟩:=hs.ok.all i ops[i] (by simp[hi]);have o:d.pred.testBit e.on=true:=by
     rw[(hs.ok.get d hd).2.1,sy,A];exact⟨e,by simpa using he,j,rfl⟩
    have D:=hs.vn d hd _ o;have:=sC hs B h n e.on (by omega) (by omega);unfold dy at this;have aj:e.on<listed.size:=by omega
    simp[aj]at this⊢;exact this
   rw[h]at hm;cases hm
theorem sD {l:List b8} (hs:ot P nt ops l) {listed:Array Bool} (M:listed.size=ops.size) {i:Nat} (h:i∈Region.ready .any ops listed):
 ∃d∈l,d.i=i/\ops[i]? =some d.I/\¬dy listed i/\∀j,d.pred.testBit j=true->dy listed j/\j<ops.size:=by
 obtain⟨o,I,aj,B⟩:=mem_ready.1 h;obtain⟨d,hd,hi,A⟩:=hs.ok.all i I aj;refine⟨d,hd,hi,by rw[A];exact aj,jB.1 o,fun j hj=>?_⟩;have L:=hs.vn d hd j hj;have G:=(gI.1 aj).1;rw[(hs.ok.get d hd).2.1,sy,A]at hj;obtain⟨e,F,k2,rfl⟩:=hj;have:=B e (by simpa using F) k2;have D:e.on<listed.size:=by omega
 refine⟨?_,by omega⟩;unfold dy;simp[D]at this⊢;exact this
end Go.Ev
namespace Go.Ev
variable{P:Program} {nt:Nat} {ops:Array Oper} {l:List b8}
theorem pC.uniq (hl:pC P nt ops l) {x y:b8} (hx:x∈l) (d:y∈l) (h:x.i=y.i):x=y:=by
 have o:=(hl.get x hx).2.2.2;have aj:=(hl.get y d).2.2.2;rw[h,aj]at o;exact(rU o).symm
theorem sE {done:Nat} {ci rem:List b8} {listed:Array Bool} (hs:ot P nt ops l) (hi:Inv P nt ops l done ci rem listed) {j:Nat} {oj:Oper} (hp:ik done listed j) (hj:ops[j]? =some oj):
 ∃x∈ci,x∈l/\x.i=j/\x.I=oj/\x.dY=false:=by
 obtain⟨x,o,aj,h⟩:=hs.ok.all j oj hj;rcases hi.part x o with⟨d,k2⟩|⟨d,k2⟩
 ·refine⟨x,d,o,aj,h,?_⟩;cases he:x.dY with
  |false=>rfl
  |true=>
   have:=hi.dY x d he;rw[aj]at this;exact absurd this (jB.1 hp.2)
 ·rw[aj,hp.1]at k2;cases k2
theorem yJ {done:Nat} {ci rem:List b8} {listed:Array Bool} (hs:ot P nt ops l) (hi:Inv P nt ops l done ci rem listed) {d:b8} (hd:d∈l) (G:∀j,d.pred.testBit j=true->dy listed j)
 {j:Nat} {oj:Oper} {t:Nat} (hp:ik done listed j) (hj:ops[j]? =some oj) (ht:oj.dst=some t) (F:j≠d.i):t∉dP ops d.I/\d.I.dst≠some t/\d.gk.testBit j=false:=by
 obtain⟨x,o,aj,h,B,D⟩:=sE hs hi hp hj;have A:d.gk.testBit j=false:=by
  cases ha:d.gk.testBit j with
  |false=>rfl
  |true=>exact absurd (sz hs.ok (X:=dy listed) hi.sc (d.i+1) d (jV _) hd G j ha) (jB.1 hp.2)
 obtain⟨L,M⟩:=hs.pair x aj d hd (by rw[h];exact F) t (by rw[B];exact ht);refine⟨fun hn=>?_,L,A⟩;have:=M D hn;rw[h,A]at this;cases this
theorem Inv.fill {done:Nat} {ci rem:List b8} {listed:Array Bool} (hs:ot P nt ops l) (hi:Inv P nt ops l done ci rem listed) {i:Nat} (hr:i∈Region.ready .any ops listed) (hd:done.testBit i=true):
 Inv P nt ops l done ci rem (listed.setIfInBounds i true):=by
 obtain⟨d,o,aj,B,D,A⟩:=sD hs hi.size hr;refine⟨by simp[hi.size],hi.part,hi.pl,hi.rl,hi.sA,hi.rb,fun j hj hL=>?_,fun x hx he=>jA.2 (.inl (hi.dY x hx he)),fun x hx hL j hj=>?_,hi.mi⟩
 ·rcases jA.1 hL with h|rfl
  ·exact hi.sd j hj h
  ·exact hd
 ·rcases jA.1 hL with h|h
  ·exact jA.2 (.inl (hi.sc x hx h j hj))
  ·have:=hs.ok.uniq hx o (by rw[h,aj]);subst this;exact jA.2 (.inl (A j hj).1)
theorem yK (x:b8):∀(ci:List b8),∃D:List (RO ak),n9 P nt ops x ci=D.map .bX/\
 ∀y∈ci,y.dY=false->x.gk.testBit y.i=false->eW P nt ops y.I∈D\/(hX y.I.op=false/\∀d,x.I.dst=some d->d∉dP ops y.I)
 |[]=>⟨[],rfl,fun y j=>by cases j⟩
 |z::r=>by
  obtain⟨D,o,aj⟩:=yK x r;simp only[n9];cases he:z.dY with
  |true=>
   refine⟨D,o,fun y j B A=>?_⟩;cases j with
   |head=>rw[he]at B;cases B
   |tail _ j=>exact aj y j B A
  |false=>
   simp only[bw];cases ha:x.gk.testBit z.i with
   |true=>
    refine⟨D,o,fun y j B A=>?_⟩;cases j with
    |head=>rw[ha]at A;cases A
    |tail _ j=>exact aj y j B A
   |false=>
    simp only[bw];cases F:(hX z.I.op||(match x.I.dst with|some d=>n5 (dP ops z.I) d|none=>false))with
    |true=>
     refine⟨eW P nt ops z.I::D,by simp[o],fun y j B A=>?_⟩;cases j with
     |head=>exact .inl (by simp)
     |tail _ j=>exact(aj y j B A).imp (fun h=>by simp[h]) id
    |false=>
     refine⟨D,o,fun y j B A=>?_⟩;cases j with
     |head=>
      simp only[cg]at F;refine .inr ⟨F.1,fun d hd hn=>?_⟩;have:=F.2;rw[hd]at this;simp only at this;rw[sB.2 hn]at this;cases this
     |tail _ j=>exact aj y j B A
theorem FN {I:Oper} (h:j0 P nt ops I=true):∃d,I.dst=some d:=by
 unfold j0 at h;split at h
 ·cases h
 ·split at h
  ·split at h
   ·exact⟨_,by assumption⟩
   ·cases h
  ·split at h
   ·exact⟨_,by assumption⟩
   ·cases h
  ·cases h
  ·cases h
theorem Inv.next {done:Nat} {ci rem B:List b8} {listed:Array Bool} (hi:Inv P nt ops l done ci rem listed) {d:b8} (R:d∈l) (S:lj done d=true) (F:∀x,x∈rem↔x=d\/x∈B)
 (G:d.i∉B.map (·.i)/\(B.map (·.i)).Nodup) {A:Array Bool} (U:A.size=ops.size) (o:∀j,dy listed j->dy A j) (aj:∀j,j<ops.size->dy A j->dy listed j\/j=d.i)
 (O:d.dY=true->dy A d.i) (Q:∀x∈l,dy A x.i->∀j,x.pred.testBit j=true->dy A j):Inv P nt ops l (Nat.lor done (2^d.i)) (d::ci) B A:=by
 refine⟨U,fun x hx=>?_,fun x hx=>?_,fun x hx=>hi.rl x ((F x).2 (.inr hx)),G.2,fun x hx=>?_,fun i L hL=>?_,fun x hx he=>?_,Q,fun x hx j hj=>?_⟩
 ·rcases hi.part x hx with⟨I,k2⟩|⟨I,k2⟩
  ·exact .inl ⟨by simp[I],(kD _ _ _).2 (.inl k2)⟩
  ·rcases(F x).1 I with rfl|M
   ·exact .inl ⟨by simp,(kD _ _ _).2 (.inr rfl)⟩
   ·refine .inr ⟨M,?_⟩;rw[l2];intro D;rcases(kD _ _ _).1 D with h|h
    ·rw[k2]at h;cases h
    ·exact G.1 (nZ.2 ⟨x,M,h⟩)
 ·cases hx with
  |head=>exact R
  |tail _ hx=>exact hi.pl x hx
 ·rw[l2];intro D;rcases(kD _ _ _).1 D with h|h
  ·rw[hi.rb x ((F x).2 (.inr hx))]at h;cases h
  ·exact G.1 (nZ.2 ⟨x,hx,h⟩)
 ·rcases aj i L hL with h|rfl
  ·exact(kD _ _ _).2 (.inl (hi.sd i L h))
  ·exact(kD _ _ _).2 (.inr rfl)
 ·cases hx with
  |head=>exact O he
  |tail _ hx=>exact o _ (hi.dY x hx he)
 ·cases hx with
  |head=>exact(kD _ _ _).2 (.inl ((vj _ _).1 S j hj))
  |tail _ hx=>exact(kD _ _ _).2 (.inl (hi.mi x hx j hj))
theorem FO {A:Nat->Prop} (hs:ot P nt ops l) (aO:∀d∈l,d.dY=false->∀t,d.I.dst=some t->A t):∀(N f done:Nat) (ci rem:List b8) (listed:Array Bool) (L:List Nat),rem.length+L.length<=N->rem.length<=f->Inv P nt ops l done ci rem listed->nx ops listed L->
 gT P nt ops A (ll P nt ops f done ci rem) L (ik done listed):=by
 intro N
 induction N with
 |zero=>
  intro f done ci rem listed L hN ak hi hL;have hr:rem=[]:=e8 (by omega);have hl:L=[]:=e8 (by omega);subst hr;subst hl;cases hL with
  |nil h=>
   have:ll P nt ops f done ci []=[]:=by cases f<;>simp[ll,iL]
   rw[this];refine .done fun j hp=>?_;have D:=yI hp.2;rw[hi.size]at D;exact jB.1 hp.2 (sC hs hi.size h (j+1) j (jV _) D)
 |succ N ar=>
  intro f done ci rem listed L hN ak hi hL;have fill:∀i L',L=i::L'->i∈Region.ready .any ops listed->nx ops (listed.setIfInBounds i true) L'->done.testBit i=true->gT P nt ops A (ll P nt ops f done ci rem) (i::L') (ik done listed):=by
   intro i L' aP hr U hd;subst aP;obtain⟨d,o,aj,R,ah,S⟩:=sD hs hi.size hr;have hp:ik done listed i:=⟨hd,jB.2 ah⟩
   obtain⟨x,aI,ag,aw,aJ,aK⟩:=sE hs hi hp R;have ap:x=d:=hs.ok.uniq ag o (by rw[aw,aj]);subst ap;refine .fill (q:=ik done (listed.setIfInBounds i true)) i x.I R hp (fun j oj t hj G ht=>?_) (fun j=>?_) (ar f done ci rem _ L' (by simp at hN;omega) ak (hi.fill hs hr hd) U)
   ·by_cases aB:j=i
    ·subst aB;rw[R]at G;cases G;exact hs.self x o aK t ht
    ·exact(yJ hs hi o (fun j hj=>(S j hj).1) hj G ht (by rw[aj];exact aB)).1
   ·unfold ik;rw[jB,jB,jA];constructor
    ·rintro⟨M,O⟩;exact⟨fun e=>O (.inr e),M,fun h=>O (.inl h)⟩
    ·rintro⟨M,O,a8⟩;exact⟨O,fun h=>h.elim a8 M⟩
  cases rem with
  |nil=>
   have aR:∀i I,ops[i]? =some I->done.testBit i=true:=fun i I ho=>by
    obtain⟨d,o,aj,R⟩:=hs.ok.all i I ho;rcases hi.part d o with⟨_,k⟩|⟨k,_⟩
    ·rw[<-aj];exact k
    ·cases k
   cases hL with
   |nil h=>
    have:ll P nt ops f done ci []=[]:=by cases f<;>simp[ll,iL]
    rw[this];refine .done fun j hp=>?_;have D:=yI hp.2;rw[hi.size]at D;exact jB.1 hp.2 (sC hs hi.size h (j+1) j (jV _) D)
   | @cons _ i L' hr U=>
     obtain⟨d,o,aj,R,ah,S⟩:=sD hs hi.size hr;exact fill i L' rfl hr U (aR i d.I R)
  |cons av rest=>
   generalize aD:av::rest=rem at hi hN ak fill;have Z:rem≠[]:=by rw[<-aD];simp
   cases f with
   |zero=>exact absurd (e8 (by omega)) Z
   |succ f=>
    simp only[ll]at fill⊢;cases an:iL (fun d=>!d.dY&&lj done d) rem with
    |some q=>
     obtain⟨d,ae⟩:=q;simp only;obtain⟨Q,W,t3,t4⟩:=vm an;simp only[be,c3]at Q;have Y:d∈rem:=(W d).2 (.inl rfl);have B:=hi.rl d Y;obtain⟨ac,a6,au,a7⟩:=hs.ok.get d B;have az:j0 P nt ops d.I=true:=by rw[Q.1]at au;simpa using au.symm
     obtain⟨t,ht⟩:=FN az;have F:done.testBit d.i=false:=hi.rb d Y;have D:d.i<ops.size:=(gI.1 ac).1;have al:¬dy listed d.i:=fun h=>by have:=hi.sd d.i D h;rw[F]at this;cases this
     refine .ghost (q:=ik (Nat.lor done (2^d.i)) listed) d.i t d.I ac az ht (hs.self d B Q.1 t ht) (aO d B Q.1 t ht) (fun h=>by rw[h.1]at F;cases F) (fun j oj hj G=>?_) (fun j=>?_)
      (ar f _ _ ae listed L (by omega) (by omega) (hi.next B Q.2 W (t4 hi.sA) hi.size (fun _ h=>h) (fun _ _ h=>.inl h) (fun h=>by rw[Q.1]at h;cases h) hi.sc) hL)
     ·obtain⟨x,aI,ag,aw,aJ,aK⟩:=sE hs hi hj G;have aU:d.i≠x.i:=fun e=>by rw[aw]at e;have o:=hj.1;rw[<-e,F]at o;cases o
      obtain⟨aF,aH⟩:=hs.pair d B x ag aU t ht;rw[aJ]at aF aH;refine⟨aF,fun hn=>?_⟩;have ha:=aH Q.1 hn;have:=sz hs.ok (X:=fun i=>done.testBit i=true) (fun y ab aT j hj=>by
       rcases hi.part y ab with⟨a1,_⟩|⟨_,k2⟩
       ·exact hi.mi y a1 j hj
       ·rw[aT]at k2;cases k2) (x.i+1) x (jV _) ag (hi.mi x aI) d.i ha
      rw[F]at this;cases this
     ·unfold ik;rw[kD];constructor
      ·rintro⟨o|o,aj⟩
       ·exact .inr ⟨o,aj⟩
       ·exact .inl o
      ·rintro(rfl|⟨o,aj⟩)
       ·exact⟨.inr rfl,jB.2 al⟩
       ·exact⟨.inl o,aj⟩
    |none=>
     simp only[an]at fill;simp only;have bd:=vl an;cases ao:iL (lj done) rem with
     |none=>
      exfalso;have aW:=vl ao;have none:∀(n:Nat) (d:b8),d.i<n->d∈rem->False:=by
       intro n
       induction n with
       |zero=>intro d hn;exact absurd hn (qj _)
       |succ n aZ=>
        intro d hn hd;have B:=hi.rl d hd;have aC:lj done d=true:=(vj _ _).2 fun j hj=>by
         have D:=hs.vn d B j hj;have bc:=(gI.1 (hs.ok.get d B).1).1;have aV:j<ops.size:=by omega
         obtain⟨y,ay,aL,aM⟩:=hs.ok.all j ops[j] (by simp[aV]);rcases hi.part y ay with⟨_,k⟩|⟨k,_⟩
         ·rw[<-aL];exact k
         ·exact(aZ y (by omega) k).elim
        rw[aW d hd]at aC;cases aC
      exact none (av.i+1) av (jV _) (by rw[<-aD];simp)
     |some q=>
      obtain⟨d,ae⟩:=q;simp only[ao]at fill;simp only;obtain⟨Q,W,t3,t4⟩:=vm ao;cases ai:ae.any (lj done)with
      |true=>simp only[aE];exact .stop 26 none
      |false=>
       simp only[ai,bw]at fill;simp only[bw];have Y:d∈rem:=(W d).2 (.inl rfl);have B:=hi.rl d Y;obtain⟨ac,a6,au,a7⟩:=hs.ok.get d B;have D:d.i<ops.size:=(gI.1 ac).1;have F:done.testBit d.i=false:=hi.rb d Y;have al:¬dy listed d.i:=fun h=>by have:=hi.sd d.i D h;rw[F]at this;cases this
       cases hL with
       |nil h=>exact absurd (sC hs hi.size h (d.i+1) d.i (jV _) D) al
       | @cons _ i L' hr U=>
         cases aA:done.testBit i with
         |true=>exact fill i L' rfl hr U aA
         |false=>
          obtain⟨x,o,aj,R,ah,S⟩:=sD hs hi.size hr;have aX:x∈rem:=by
           rcases hi.part x o with⟨_,k⟩|⟨k,_⟩
           ·rw[aj,aA]at k;cases k
           ·exact k
          have ap:x=d:=by
           rcases(W x).1 aX with h|h
           ·exact h
           ·rw[List.any_eq_false]at ai;exact absurd ((vj _ _).2 fun j hj=>hi.sd j (S j hj).2 (S j hj).1) (ai x h)
          subst ap;subst aj;obtain⟨bg,eH,Pf⟩:=yK (P:=P) (nt:=nt) (ops:=ops) x ci;rw[eH];have hp:ik (Nat.lor done (2^x.i)) (listed.setIfInBounds x.i true)=ik done listed:=by
           funext j;apply propext;unfold ik;rw[kD,jB,jB,jA];constructor
           ·rintro⟨M,O⟩;have Z:j≠x.i:=fun e=>O (.inr e);exact⟨M.resolve_right Z,fun h=>O (.inl h)⟩
           ·rintro⟨M,O⟩;refine⟨.inl M,fun h=>h.elim O fun e=>?_⟩;rw[e,F]at M;cases M
          have am:∀j,x.pred.testBit j=true->dy listed j:=fun j hj=>(S j hj).1;have Z:∀j,ik done listed j->j≠x.i:=fun j hj e=>by have o:=hj.1;rw[e,F]at o;cases o
          refine .dY x.i x.I R (fun j oj t hj G ht=>?_) (fun j oj hj G=>?_) ?_
          ·obtain⟨n1,a2,_⟩:=yJ hs hi o am hj G ht (Z j hj);exact⟨n1,a2⟩
          ·obtain⟨y,ay,aL,aM,ba,bb⟩:=sE hs hi hj G;have aS:x.gk.testBit y.i=false:=by
            cases ha:x.gk.testBit y.i with
            |false=>rfl
            |true=>
             rw[aM]at ha;exact absurd (sz hs.ok (X:=dy listed) hi.sc (x.i+1) x (jV _) o am j ha) (jB.1 hj.2)
           rw[<-ba];exact Pf y ay bb aS
          ·rw[<-hp];refine ar f _ _ ae _ L' (by simp at hN;omega) (by omega) (hi.next B Q W (t4 hi.sA) (by simp[hi.size]) (fun _ h=>jA.2 (.inl h)) (fun _ _ h=>jA.1 h) (fun _=>jA.2 (.inr rfl)) ?_) U;intro y ab aQ j hj;rcases jA.1 aQ with h|h
           ·exact jA.2 (.inl (hi.sc y ab h j hj))
           ·have:=hs.ok.uniq ab o h;subst this;exact jA.2 (.inl (am j hj))
theorem vo (P:Program):qN P:=by
 intro nt bZ ops rs t hd;unfold drawn at hd;cases B:(P.follows .mixedOrders&&(pt ops (dZ P nt ops ops.toList 0 [])&&qz bZ (dZ P nt ops ops.toList 0 [])))with
 |false=>rw[B]at hd;cases hd
 |true=>
  rw[B]at hd;simp only[aE]at hd;cases hd;simp only[be]at B;have d7:∀d∈dZ P nt ops ops.toList 0 [],d.dY=false->∀t,d.I.dst=some t->t∉bZ:=fun d hd he t ht hm=>by
   have o:=B.2.2;unfold qz at o;rw[eU]at o;have aj:=o d hd;rw[he,ht]at aj;simp only[jw]at aj;rw[sB.2 hm]at aj;cases aj
  have D:=FL (P:=P) (nt:=nt) (ops:=ops);have hs:=FM D B.2.1;have hlen:(dZ P nt ops ops.toList 0 []).length=ops.size:=by
   have:∀(r:List Oper) (i:Nat) (a:List Nat),(dZ P nt ops r i a).length=r.length:=by
    intro r
    induction r with
    |nil=>intro i a;rfl
    |cons I r M=>intro i a;simp[dZ,M]
   rw[this];simp
  have F:(dZ P nt ops ops.toList 0 []).map (·.i)=List.range ops.size:=by
   apply qc;intro k;rw[k1,vk,p9];rcases kr k ops.size with h|h
   ·simp[h]
   ·simp[h]
  have G:∀j,¬dy (Array.replicate ops.size false) j\/ops.size<=j:=fun j=>by
   rcases kr j ops.size with h|h
   ·left;unfold dy;simp[h]
   ·exact .inr h
  generalize dZ P nt ops ops.toList 0 []=l at D hs hlen F d7;have L:∀d∈l,d.i<ops.size:=fun d hd=>(gI.1 (D.get d hd).1).1;have hinv:Inv P nt ops l 0 [] l (Array.replicate ops.size false):=by
   exact{size:=by simp,part:=fun d hd=>.inr ⟨hd,by simp⟩,pl:=fun d hd=>(by cases hd),rl:=fun d hd=>hd,sA:=by rw[F];exact List.nodup_range,rb:=fun d _=>by simp,
         sd:=fun i hi hL=>absurd hL ((G i).resolve_right (by omega)),dY:=fun d hd=>(by cases hd),
         sc:=fun d hd hL=>absurd hL ((G d.i).resolve_right (by have:=L d hd;omega)),mi:=fun d hd=>(by cases hd)}
  have hw:=FO (A:=fun t=>t∉bZ) hs d7 (l.length+(Region.linearise .any ops t).length) ops.size 0 [] l (Array.replicate ops.size false) (Region.linearise .any ops t) (aB _) (by omega) hinv
   (yH ops.size t _ (by simp))
  have hp:ik 0 (Array.replicate ops.size false)=fun _=>False:=by
   funext j;apply propext;unfold ik;simp
  rw[hp]at hw;unfold Region.schedule;rw[B.1];simpa using hw
end Go.Ev
namespace Go.Ev
def ou (P:Program):Bool:=P.funcs.toList.all fun fn=>fn.body.isNone||!(fn.name== "runtime.NumGoroutine")
theorem vp {P:Program} (h:ou P=true):mq P:=by
 intro f fn c j d;unfold ou at h;rw[eU]at h;have:=h fn (by simpa using Array.mem_of_getElem? j);rw[d]at this;simpa using this
end Go.Ev
namespace Go.Ev
variable{C:Cx} {ls:List LE} {bh:List Frame} {f0:Nat} {U:AM} {Λ:Pa->Prop} {h h':Hp} {w:World}
structure St where
 fr:Fr
 cs:List Fr
 h:Hp
 ls:List LE
end Go.Ev
namespace Go.Ev
noncomputable section
def vq:Nat->List (RS ak)->List (RS ak)
 |0,l=>l
 |n+1,l=>match l with
  |[]=>[]
  |_::l=>vq n l
end
noncomputable def sF (P:Program) (f:Nat):St:=
 match ea P f with
 |some fn=>⟨enter fn f [] false,[],hI,[]⟩
 |none=>⟨⟨⟨f,0,false,none⟩,.E,[],[],.run⟩,[],hI,[]⟩
noncomputable def sG (P:Program) (f:Nat):Bool:=
 match ea P f with
 |some _=>true
 |none=>false
end Go.Ev
namespace Go.Ev
open Go.RowKit (Below)
variable{C:Cx} {ls:List LE} {U:AM} {Λ:Pa->Prop} {h:Hp} {w:World}
theorem aS.below {w':World} (s:aS C U Λ h ls w) (dl:C.sd=false) (d:Below w.heap.size w w'):aS C U Λ h ls w' where
 fQ:=s.fQ
 aw:=fun a L ha j=>let⟨b,o,aj⟩:=s.aw a L ha j;⟨b,o,aj.mono (AM.le_refl U) (fun _ _ h=>h) (d.block _ (s.lt ha j))⟩
 inj:=s.inj
 live:=s.live
 wr:=s.wr
 low:=fun i hi=>by rw[d.block i (kl hi s.size)];exact s.low i hi
 size:=fL s.size d.size
 still:=s.still.xF dl ⟨d.os,d.output⟩
 fresh:=s.fresh
 gS:=s.gS
theorem yL (l:List UInt8):∀n,nn l n=Go.Lib.repeatL l n
 |0=>rfl
 |n+1=>by rw[nn,Go.Lib.repeatL,yL l n]
theorem FP {P:Program} {f:Nat} (hc:∀(s:ByteArray) (c:Nat) (w:World),c<=9223372036854775807->s.size*c<=140737488355328->
 Calls P f #[.string s,.int .i64 c] w fun e w'=>e=.returned (.string ⟨(Go.Lib.repeatL s.data.toList c).toArray⟩)/\Below w.heap.size w w'):pB P f gR:=by
 intro C U Λ h ls w args ce v h' M dl s ha d;cases ha with
 |nil=>cases d
 |cons x I r j hx hr=>
  cases hx<;>simp only[gR]at d<;>(try(cases d;done))
  rename_i b;cases hr with
  |nil=>cases d
  |cons y L r j G hr=>
   cases hr with
   |cons=>cases d
   |nil=>
    cases G<;>simp only at d<;>(try(cases d;done))
    rename_i k i;cases k<;>simp only at d<;>(try(cases d;done))
    cases i with
    |negSucc n=>cases d
    |ofNat n=>
     simp only at d;cases o:Nat.ble n 9223372036854775807 with
     |false=>rw[o]at d;cases d
     |true=>
      cases aj:Nat.ble (Nat.mul b.data.toList.length n) 140737488355328 with
      |false=>rw[o,aj]at d;cases d
      |true=>
       rw[o,aj]at d;simp only[aE,aL,dH]at d;obtain⟨rfl,rfl⟩:=d;have B:b.size*n<=140737488355328:=by
        have:=eT aj;have A:b.data.toList.length=b.size:=Array.length_toList;rw[A]at this;exact this
       refine(hc b n w (eT o) B).mono fun e w' F=>?_;obtain⟨rfl,D⟩:=F;refine⟨_,U,Λ,rfl,AM.le_refl U,s.below dl D,?_,fun a o aj=>absurd o aj,aB _⟩;rw[yL];exact VR.str (U:=U) (⟨(Go.Lib.repeatL b.data.toList n).toArray⟩:ByteArray)
theorem yM {P:Program}:∀(l:List (Nat×(List V->Hp->Option (V×Hp)))),(∀p∈l,sG P p.1=true/\pB P p.1 p.2)->mr P (np P l)
 |[],_=>vg P
 |p::r,hl=>by
  have j:=yM r fun q hq=>hl q (cR _ hq);obtain⟨o,aj⟩:=hl p (by simp);have he:∀i,np P (p::r) i=bif Nat.beq p.1 i then some (.cA p.2)else np P r i:=fun _=>rfl
  refine⟨fun f i d=>?_,fun f g d=>?_⟩
  ·rw[he]at d;cases h:Nat.beq p.1 f with
   |true=>simp[h]at d
   |false=>simp only[h,bw]at d;exact j.code f i d
  ·rw[he]at d;cases h:Nat.beq p.1 f with
   |true=>
    have:=dG h;subst this;simp only[h,aE,aL,aP.cA.injEq]at d;subst d;refine⟨?_,aj⟩;unfold sG at o;split at o
    ·rename_i fn A;exact⟨fn,A⟩
    ·cases o
   |false=>simp only[h,bw]at d;exact j.cA f g d
end Go.Ev
namespace Go.Ev
variable{C:Cx} {ls:List LE} {U:AM} {Λ:Pa->Prop} {h:Hp} {w:World}
theorem aS.FQ (s:aS C U Λ h ls w) {a:Pa} {L:Loc} (ha:U a=some L) {I n:Nat} {l:List V} (hl:h.b1 a I n=some l):
 ∃cs:List Value,cs.length=n/\bd U l cs/\∀(j:Nat) (c:Value),cs[j]? =some c->w.cell? ⟨L.aw,L.base+I+j,none⟩=some c:=by
 unfold bn.b1 at hl;cases hc:h.cells a with
 |none=>simp[hc]at hl
 |some m=>
  simp only[hc,lq]at hl;obtain⟨o,aj⟩:=od hl;have M:=s.cells ha hc;have hlen:l.length=n:=by rw[aj];simp at o⊢;omega
  have O:∀(i:Nat) (v:V),l[i]? =some v->∃c,w.cell? ⟨L.aw,L.base+I+i,none⟩=some c/\VR U v c:=by
   intro i v hv;rw[aj,jv]at hv;split at hv
   ·rw[gJ]at hv;obtain⟨c,B,k2⟩:=M _ _ hv;exact⟨c,by rw[gg];exact B,k2⟩
   ·cases hv
  have:∀(m:List V) (A:Nat),(∀(i:Nat) (v:V),m[i]? =some v->∃c,w.cell? ⟨L.aw,A+i,none⟩=some c/\VR U v c)->
   ∃cs:List Value,cs.length=m.length/\bd U m cs/\∀(j:Nat) (c:Value),cs[j]? =some c->w.cell? ⟨L.aw,A+j,none⟩=some c:=by
   intro m
   induction m with
   |nil=>intro A _;exact⟨[],rfl,.nil,fun j c hj=>by simp at hj⟩
   |cons v m Q=>
    intro A hm;obtain⟨c,B,k2⟩:=hm 0 v (by simp);obtain⟨cs,D,R,S⟩:=Q (A+1) (fun i u hu=>by
     obtain⟨d,F,G⟩:=hm (i+1) u (by simpa using hu);exact⟨d,by rw[show A+1+i=A+(i+1)from by omega];exact F,G⟩)
    refine⟨c::cs,by simp[D],.cons _ _ _ _ k2 R,fun j d hd=>?_⟩;cases j with
    |zero=>simp at hd;subst hd;simpa using B
    |succ j=>simp at hd;rw[show A+(j+1)=A+1+j from by omega];exact S j d hd
  obtain⟨cs,B,k2,D⟩:=this l (L.base+I) O;exact⟨cs,by rw[B,hlen],k2,D⟩
theorem aS.FR (s:aS C U Λ h ls w) {a:Pa} {L:Loc} {l:List V} (ha:U a=some L) (d:h.get a=some (.cells l false)):
 Λ a/\∃cs el fr,w.heap[L.aw]? =some (.cells cs el fr)/\cs.size=L.top/\quietAt cs.size fr/\ky U l cs L.base/\uB L.dm fr:=by
 have j:Λ a:=by
  rcases s.live a L _ ha d with o|⟨m,o⟩
  ·exact o
  ·cases o
 obtain⟨b',o,aj⟩:=s.aw a L ha j;rw[d]at o;cases o;exact⟨j,aj⟩
theorem pD {U:Type} {n:Nat} {l:List U} (h:n<=l.length):takeN n l=some (l.take n):=by
 induction n generalizing l with
 |zero=>cases l<;>simp[takeN]
 |succ n d=>cases l with
  |nil=>simp at h
  |cons a l=>simp only[takeN];rw[d (by simpa using h)];simp
theorem yN {a:Pa} {I n:Nat} {m:List V} (hc:h.cells a=some m) (hn:I+n<=m.length):h.b1 a I n=some ((m.drop I).take n):=by
 unfold bn.b1;simp only[hc,lq];exact pD (by rw[bW];omega)
end Go.Ev
namespace Go.Ev
open Go.RowKit (Below)
variable{C:Cx} {ls:List LE} {U:AM} {Λ:Pa->Prop} {h:Hp} {w:World}
end Go.Ev
