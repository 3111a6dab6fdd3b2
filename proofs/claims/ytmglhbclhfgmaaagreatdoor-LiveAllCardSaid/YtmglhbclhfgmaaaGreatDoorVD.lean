/- A part of the proof of glacislaw13.LiveAll (made short by a program). -/
import Derived.Test.YtmglhbclhfgmaaaGreatDoorVC
import Derived.Orders
import Derived.Below
import Derived.Shelf.Strings.Repeat
import Derived.Laws.IdiomCopy
import Derived.Lib.Bytealg
import Derived.Lib.Join
namespace Go.Ev
variable{C:Cx} {K:CK} {ls:List LE} {m:Nat} {bh:List Frame} {f0:Nat} {U:AM} {Λ:Pa→Prop} {h:Hp} {w:World}
theorem FE {P:Program} {f:Nat} {i:hZ} (h:e9 P f=some i):∃fn c,P.funcs[f]? =some fn∧fn.body=some c∧nS P fn.results.toList=some i.res∧i.body=cS P fn.ntmps (b1 P f) c∧i.nt=fn.ntmps:=by
 unfold e9 at h;cases hf:P.funcs[f]? with
 |none=>simp[hf]at h
 |some fn=>
  simp only[hf]at h;cases hb:fn.body with
  |none=>simp[hb]at h
  |some c=>
   simp only[hb]at h;cases hr:nS P fn.results.toList with
   |none=>simp[hr]at h
   |some res=>
    simp only[hr,E8]at h;subst h;exact⟨fn,c,rfl,hb,hr,by simp[b1,hf],rfl⟩
theorem SL:∀(l:List V) (i:Pa) (e:T V) (p:Pa),(h2 l i e).get p=if i.toNat≤p.toNat∧p.toNat<i.toNat+l.length then l[p.toNat-i.toNat]? else e.get p
 |[],i,e,p=>by rw[pg (by simp)];(try rfl)
 |v::l,i,e,p=>by
  simp only[h2];rw[SL l i.succ (e.set v i) p,Pa.iB,T.gX];simp only[WW];by_cases Hw:i=p
  ·subst Hw;rw[pg (by omega),B4 rfl,B4 (by omega)];simp
  ·have bx:i.toNat≠p.toNat:=fun e=>Hw (Pa.toNat_inj e);rw[pg Hw];by_cases I:i.toNat+1≤p.toNat∧p.toNat<i.toNat+1+l.length
   ·rw[B4 I,B4 (by omega)];have:p.toNat-i.toNat=(p.toNat-(i.toNat+1))+1:=by omega
    rw[this];simp
   ·rw[pg I,pg (by omega)]
theorem ze {f:Nat} {i:hZ} (hc:e9 C.P f=some i) {args:List V} {cE:List Value} (ha:bd U args cE) (d:Bool):
 sO C.P U h m (enter i f args d) (Frame.enter C.P f cE.toArray (if d then .deferred else .normal))∧(enter i f args d).k.deferred=d∧(enter i f args d).k.fn=f:=by
 obtain⟨fn,c,I,J,h3,h4,h5⟩:=FE hc;refine⟨?_,rfl,rfl⟩;have pZ:Frame.enter C.P f cE.toArray (if d then .deferred else .normal)=
  (CK.mk f (if d then .deferred else .normal) none).fr (cE.toArray++Array.replicate (fn.ntmps-cE.toArray.size) undef) [.code c] [] .run:=by
  simp[Frame.enter,CK.fr,I,J]
 rw[pZ];have fm:enter i f args d=⟨⟨f,i.nt,d,none⟩,h2 args .z .E,[.code (cS C.P i.nt (b1 C.P f) c)],[],.run⟩:=by
  simp only[enter];rw[h4,h5]
 rw[fm];refine .run ⟨rfl,rfl,rfl⟩ .nil (fun p v hp=>?_) (by simp[h5];omega) (.cons (.code c) .nil);rw[SL]at hp;have hE:(T.E:T V).get p=none:=by cases p<;>rfl
 simp only[Pa.toNat,amu,true_and,ap7,Nat.sub_zero,hE]at hp;split at hp
 ·rename_i ap;obtain⟨c',k1,k2⟩:=ha.get hp;refine⟨c',?_,k2⟩;rw[lb0 (by have:=ha.length;simp;omega)];simpa using k1
 ·cases hp
theorem FF {P:Program} {f:Nat} {fn:Func} {c:Code} (hf:P.funcs[f]? =some fn) (hb:fn.body=some c) (hn:(fn.name== "runtime.NumGoroutine")=false) (args:Array Value) (w:World):
 (callFunc f args).run P w=.ok (.enter f args) w:=by
 have pV:¬fn.name= "runtime.NumGoroutine" :=by simpa using hn
 simp[callFunc,hf,hb,pV]
def sP (P:Program):Prop:=∀(f:Nat) (fn:Func) (c:Code),P.funcs[f]? =some fn→fn.body=some c→(fn.name== "runtime.NumGoroutine")=false
theorem ael {P:Program} {o:Oper} {f:T V→lj} (hc:cR P o.op=.ed f):
 (∃n,f=fun _=>.bad n)∨(∃c x,o.op=.call c∧c.callee=.value x∧((∃g,x=.func g∧f=fun e=>.call g (ea e (c.args.toList.map cO)))∨
   f=fun e=>match(cO x).ev e with|.fn g bf=>.call g (ea e (c.args.toList.map cO)++bf)|.gV l=>.yield l (ea e (c.args.toList.map cO))|_=>.bad 59))∨
 (∃c x,o.op=.defer c∧c.callee=.value x∧f=fun e=>match(cO x).ev e with|.fn g bf=>.defer (.call g (ea e (c.args.toList.map cO)++bf))|_=>.bad 60)∨
 (∃c,o.op=.call c∧c.callee=.builtin .recover∧f=fun _=>.recover)∨
 (∃x,(o.op=.panic x∨∃c,o.op=.call c∧c.callee=.builtin .panic∧c.args.toList=[x])∧f=fun e=>match(cO x).ev e with|.iface t v=>.panic (.iface t v)|_=>.bad 61):=by
 have bad:∀n,(a6 n:bz)=.ed f→∃n,f=fun _=>.bad n:=fun n hb=>by unfold a6 at hb;cases hb;exact⟨n,rfl⟩
 cases aS:o.op<;>rw[aS]at hc<;>simp only[cR]at hc<;>(try(exact .inl (bad _ hc)))<;>(try(cases hc;done))
 case alloc t=>split at hc<;>first|(exact .inl (bad _ hc))|(cases hc;done)
 case build t ps=>repeat' (first|(exact .inl (bad _ hc))|(cases hc;done)|split at hc)
 case buildSlice t len ps=>repeat' (first|(exact .inl (bad _ hc))|(cases hc;done)|split at hc)
 case load t a=>split at hc<;>first|(exact .inl (bad _ hc))|(cases hc;done)
 case store t a v=>split at hc<;>first|(exact .inl (bad _ hc))|(cases hc;done)
 case binOp op t x y yt=>
  split at hc
  ·cases d1:(ft x||ft y)<;>rw[d1]at hc<;>first|(exact .inl (bad _ hc))|(cases hc;done)
  ·cases hc
 case convert s d x=>
  unfold qD at hc
  repeat' (first|(exact .inl (bad _ hc))|(cases hc;done)|split at hc)
  all_goals (cases hb:Nat.beq s d<;>rw[hb]at hc<;>first|(exact .inl (bad _ hc))|(cases hc;done))
 case makeInterface t x=>repeat' (first|(exact .inl (bad _ hc))|(cases hc;done)|split at hc)
 case makeFunc fn first bf=>
  cases fn<;>simp only at hc<;>repeat' (first|(exact .inl (bad _ hc))|(cases hc;done)|split at hc)
 case makeMap t r=>cases r<;>first|(exact .inl (bad _ hc))|(cases hc;done)
 case makeSlice t l c=>repeat' (first|(exact .inl (bad _ hc))|(cases hc;done)|split at hc)
 case slice t x lo hi mx=>
  split at hc
  ·cases mx with
   |none=>simp only at hc;split at hc<;>first|(exact .inl (bad _ hc))|(cases hc;done)
   |some m=>exact .inl (bad _ hc)
  ·cases mx<;>first|(exact .inl (bad _ hc))|(cases hc;done)
  ·split at hc
   ·cases hm:(mx.isSome&&hi.isNone)<;>rw[hm]at hc<;>first|(exact .inl (bad _ hc))|(cases hc;done)
   ·exact .inl (bad _ hc)
  ·exact .inl (bad _ hc)
 case fieldAddr t x k=>repeat' (first|(exact .inl (bad _ hc))|(cases hc;done)|split at hc)
 case field t x k=>repeat' (first|(exact .inl (bad _ hc))|(cases hc;done)|split at hc)
 case indexAddr t x i=>repeat' (first|(exact .inl (bad _ hc))|(cases hc;done)|split at hc)
 case index t x i=>repeat' (first|(exact .inl (bad _ hc))|(cases hc;done)|split at hc)
 case lookup t x i ok=>
  split at hc
  ·rename_i k el hu;split at hc
   ·cases hq:dJ (a7 P k)<;>rw[hq]at hc<;>first|(exact .inl (bad _ hc))|(cases hc;done)
   ·exact .inl (bad _ hc)
  ·exact .inl (bad _ hc)
 case mapUpdate t m k v=>
  split at hc
  ·rename_i kt el hu;cases hq:dJ (a7 P kt)<;>rw[hq]at hc<;>first|(exact .inl (bad _ hc))|(cases hc;done)
  ·exact .inl (bad _ hc)
 case mapEntry t m k=>
  split at hc
  ·rename_i kt el hu;split at hc
   ·cases hq:dJ (a7 P kt)<;>rw[hq]at hc<;>first|(exact .inl (bad _ hc))|(cases hc;done)
   ·exact .inl (bad _ hc)
  ·exact .inl (bad _ hc)
 case typeAssert x xt t ok=>repeat' (first|(exact .inl (bad _ hc))|(cases hc;done)|split at hc)
 case panic x=>cases hc;exact .inr (.inr (.inr (.inr ⟨x,.inl rfl,rfl⟩)))
 case call c=>
  split at hc
  ·rename_i b hb;cases b<;>simp only[pn]at hc
   case recover=>cases hc;exact .inr (.inr (.inr (.inl ⟨c,rfl,hb,rfl⟩)))
   case panic=>
    split at hc
    ·rename_i x hx;obtain⟨y,hy,rfl⟩:=pr hx;cases hc;exact .inr (.inr (.inr (.inr ⟨y,.inr ⟨c,rfl,hb,hy⟩,rfl⟩)))
    ·exact .inl (bad _ hc)
   all_goals repeat' (first|(exact .inl (bad _ hc))|(cases hc;done)|split at hc)
  ·rename_i x hx;refine .inr (.inl ⟨c,x,rfl,hx,?_⟩);cases x<;>simp only at hc<;>cases hc
   ·exact .inr rfl
   ·exact .inr rfl
   ·exact .inr rfl
   ·exact .inl ⟨_,rfl,rfl⟩
  ·exact .inl (bad _ hc)
 case defer c=>
  split at hc
  ·rename_i x hx;cases hc;exact .inr (.inr (.inl ⟨c,x,rfl,hx,rfl⟩))
  ·exact .inl (bad _ hc)
end Go.Ev
namespace Go.Ev
variable{C:Cx} {K:CK} {ls:List LE} {m:Nat} {bh:List Frame} {f0:Nat} {U:AM} {Λ:Pa→Prop} {h:Hp} {w:World}
theorem aem {P:Program} (s:aP C U Λ h ls w) {n:Option Nat} {t:TypeId} (hn:kb P t=some n) {x v:V} {c:Value} (hx:VR U x c) (hv:fH h n x=some v):
 ∃c',(do loadVar t (←asAddr c):Sem Value).run P w=.ok c' w∧VR U v c':=by
 obtain⟨a,d,rfl,I,J⟩:=RK (P:=P) s hn hx hv;exact⟨d,by simp[asAddr,I],J⟩
theorem c8.slot {e:T V} {tmps:Array Value} {X:Nat→Prop} (he:c8 U e tmps X) {t:Nat} (ht:¬X t):VR U (e.val (pa t)) (de tmps (.tmp t)):=by
 have I:fJ U (Ev.bR e [t]) tmps:=he.bR (fun u hu=>by simp at hu;subst hu;exact ht);have J:=FB I (.tmp t);have h3:(Ev.bR e [t]).get (pa t)=e.get (pa t):=by rw[FA,B4 (by rw[gY];simp)]
 simpa only[cO,Od.ev,T.val,h3]using J
theorem LM {P:Program} (s:aP C U Λ h ls w) {e:T V} {tmps:Array Value}:∀(Hx:List ResultVar) (res:List (Pa×Option (Option Nat))) (l:List V),c8 U e tmps (fun t=>t∉slotsOf Hx)→nS P Hx=some res→kf e h res=some l→
 ∃cs:List Value,bd U l cs∧(Hx.mapM (fun(r:ResultVar)=>match r with
  |.tmp t=>(pure (tmps.getD t undef):Sem Value)
  |.cell a t=>do loadVar t (←asAddr (tmps.getD a undef)))).run P w=.ok cs w
 |[],res,l,_,I,J=>by
  simp[nS]at I;subst I;simp[kf]at J;subst J;exact⟨[],.nil,by simp⟩
 |.tmp t::r,res,l,he,I,J=>by
  simp only[nS]at I;cases hr:nS P r with
  |none=>simp[hr]at I
  |some Aa=>
   simp only[hr,E8]at I;subst I;simp only[kf]at J;cases hl:kf e h Aa with
   |none=>simp[hl]at J
   |some l'=>
    simp only[hl,E8]at J;subst J;obtain⟨cs,k1,k2⟩:=LM s r Aa l' (he.LK fun u hu=>by simp only[slotsOf,Ro,not_or]at hu;exact hu.2) hr hl;have:=he.slot (t:=t) (by simp[slotsOf]);refine⟨de tmps (.tmp t)::cs,.cons _ _ _ _ this k1,?_⟩;simp only[List.mapM_cons,Sem.run_bind,Sem.run_pure,Result.andThen_ok,k2];rfl
 |.cell a t::r,res,l,he,I,J=>by
  simp only[nS]at I;cases zU:kb P t with
  |none=>simp[zU]at I
  |some n=>
   simp only[zU]at I;cases hr:nS P r with
   |none=>simp[hr]at I
   |some Aa=>
    simp only[hr,E8]at I;subst I;simp only[kf]at J;cases hv:fH h n (e.val (pa a))with
    |none=>simp[hv]at J
    |some v=>
     simp only[hv]at J;cases hl:kf e h Aa with
     |none=>simp[hl]at J
     |some l'=>
      simp only[hl,E8]at J;subst J;obtain⟨cs,k1,k2⟩:=LM s r Aa l' (he.LK fun u hu=>by simp only[slotsOf,Ro,not_or]at hu;exact hu.2) hr hl;have:=he.slot (t:=a) (by simp[slotsOf]);obtain⟨c',q1,q2⟩:=aem (P:=P) s zU this hv;refine⟨c'::cs,.cons _ _ _ _ q2 k1,?_⟩;simp only[de]at q1;simp only[List.mapM_cons,Sem.run_bind,q1,Result.andThen_ok,k2,Sem.run_pure]
theorem aen {l:List V} {cs:List Value} (h:bd U l cs):VR U (oneOf l) (if h:cs.toArray.size=1 then cs.toArray[0]else .tuple cs.toArray):=by
 cases h with
 |nil=>exact .aM _ _ .nil
 |cons v c l cs h hs=>
  cases hs with
  |nil=>simpa[oneOf]using h
  |cons v' c' l' cs' h' jZ=>simpa[oneOf]using VR.aM _ _ (.cons _ _ _ _ h (.cons _ _ _ _ h' jZ))
theorem aeo (s:aP C U Λ h ls w) {e:T V} {tmps:Array Value} {fn:Func} (he:c8 U e tmps (fun t=>t∉Ch fn)) {res:List (Pa×Option (Option Nat))} {l:List V} (I:nS C.P fn.results.toList=some res) (J:kf e h res=some l):
 ∃c,(results fn tmps).run C.P w=.ok c w∧VR U (oneOf l) c:=by
 obtain⟨cs,k1,k2⟩:=LM (P:=C.P) s _ _ _ he I J;refine⟨_,?_,aen k1⟩;unfold results;simp only[Sem.run_bind];have:(fn.results.mapM (fun(r:ResultVar)=>match r with
  |.tmp t=>(pure (tmps.getD t undef):Sem Value)
  |.cell a t=>do loadVar t (←asAddr (tmps.getD a undef)))).run C.P w=.ok cs.toArray w:=by
  rw[Array.mapM_eq_mapM_toList];simp only[map_eq_pure_bind,Sem.run_bind,k2,Result.andThen_ok,Sem.run_pure]
 exact Eq.trans (congrArg (fun r:Result (Array Value)=>r.andThen _) this) rfl
end Go.Ev
namespace Go.Ev
variable{C:Cx} {K:CK} {ls:List LE} {m:Nat} {bh:List Frame} {f0:Nat} {U:AM} {Λ:Pa→Prop} {h:Hp} {w:World}
theorem Cy {fk:FK} {e:T V} {tmps:Array Value} {todo:List Item} {bg:List Go.Item} {defs:List Def} {ds:List Deferred} {ops:Array Oper} {o:RO al} {rs:List (RS al)} {i:Nat} {L:List Nat} {oi:Oper}
 (hk:KR U fk K) (hd:fc U defs ds) {m':Nat} {h0:Hp} (hw:nU C.P fk.nt ops (kA C.P fk.fn) m' U e h0 tmps o rs i L oi) (ht:fL C.P U fk.nt (b1 C.P fk.fn) todo bg) (hn:h0.next.toNat≤h.next.toNat) {v:V} {c:Value} (hv:VR U v c):
 sO C.P U h m' ⟨fk,e.put v o.dst,.dc rs::todo,defs,.run⟩ (K.fr (lE tmps oi.dst c) (.inRegion ops L::bg) ds .run):=by
 obtain⟨chks,vy,p,rfl,J,h3,h4,h5,h6,h7⟩:=hw.rest;obtain⟨g,f5⟩:=hw.ro;have pY:o.dst=oi.dst.map pa:=by rw[f5]
 rw[pY];exact .dc hk hd J (fun j hj=>(h3 j hj).put (fun oj t q1 q2=>h6 j oj t hj q1 q2) (fun oj g9=>h7 j oj hj g9) (fun _ _ h=>h) hn v) (h4.put h6 v) (h5.put hv (fun d hd=>aqB (hw.lt d hd) hw.size)) (by rw[Cp];exact hw.size) ht
theorem SM {m':Nat} {h0:Hp} {c:Fr} {cc:Frame} (hc:uP C.P U h0 m' false c cc) (hn:h0.next.toNat≤h.next.toNat) {v:V} {xV:Value} (hv:VR U v xV) (cs:List Fr) (ls:List LE):
 ∃fr',finish c v cs h ls=.go fr' cs h ls∧sO C.P U h m' fr' (cc.finish xV)∧fr'.k=c.k:=by
 cases hc with
 |wait hk hd hw ht=>exact⟨_,rfl,by rw[Cq hw.at_];exact Cy hk hd hw ht hn hv,rfl⟩
 | @Cv k K e tmps todo bg ds Ds l L hk hd he hs ht hl=>
   refine⟨_,rfl,?_,rfl⟩;have:(K.fr tmps (.inRangeFunc L.aw::bg) Ds .run).finish xV=K.fr tmps (.endRangeFunc L.aw::bg) Ds .run:=by simp[Frame.finish,CK.fr]
   rw[this];exact .run hk hd he hs (.cons (.nT l L hl) ht)
def FG (c:Frame):Frame:=
 match c.mode with
 |.panicking ({recovered:=true,..}::Xx)=>
  match Xx.dropWhile (!·.goexit)with
  |[]=>{c with mode:=.returning}
  |rest=>{c with mode:=.panicking rest}
 |_=>c
theorem SN {fk:FK} (hk:KR U fk K) {v:V} {c:Value} (hv:VR U v c) (s:aP C U Λ h ls w) (hm:m≤h.next.toNat) {cs:List Fr} {ccs:List Frame} (aj:gA C.P U bh f0 m fk.deferred fk.fn cs ccs) {M:Machine}
 (hn:K.kind=.normal→∀cc r,ccs=cc::r→Steps C.P M (lone (cc.finish c) r w)) (hb:K.kind=.deferred→∀cc r,ccs=cc::r→Steps C.P M (lone (FG cc) r w))
 (hz:fk.round=none→K.kind=.normal→∃dQ,Steps C.P M (lone dQ ccs w)∧dQ.fn=K.fn∧dQ.leaving C.P w (.returned c)):
 fe C bh f0 M (doReturn fk cs h ls v):=by
 obtain⟨q1,q2,q3⟩:=hk;generalize hd:fk.deferred=d at*;generalize Ab:fk.fn=f at*;cases aj with
 |nil=>
  simp only[doReturn,hd,KL];cases hr:fk.round with
  |some l=>trivial
  |none=>
   obtain⟨dQ,z1,z2,z3⟩:=hz hr (by rw[q2];(try rfl));exact⟨dQ,w,c,U,Λ,ls,z1,by rw[z2,←q1],z3,s,hv⟩
 | @cons _ m' _ _ dQ cc cs ccs h0 hc I J hs=>
   cases d with
   |false=>
    simp only[doReturn,hd,KL];obtain⟨fr',e1,e2,e3⟩:=SM (h:=h) hc (by omega) hv cs ls;rw[e1];exact⟨_,hn (by rw[q2];(try rfl)) cc ccs rfl,⟨U,Λ,w,m',_,_,rfl,s,by omega,e2,by rw[e3];exact hs⟩⟩
   |true=>
    simp only[doReturn,hd,E7];cases hc with
    | @out k' K' e' g8 Xy tC Hy nj md mb dZ jy ca rD=>
      have aj:=hb (by rw[q2];(try rfl)) _ _ rfl;cases rD with
      |ret=>
       have e1:FG (K'.fr g8 tC nj .returning)=K'.fr g8 tC nj .returning:=rfl;rw[e1]at aj;exact⟨_,aj,⟨U,Λ,w,m',_,_,rfl,s,by omega,.out dZ jy ca .ret,hs⟩⟩
      | @pw v' c' r Ac=>
        cases r with
        |true=>
         have e1:FG (K'.fr g8 tC nj (.panicking [{v:=c',recovered:=true,goexit:=false}]))=K'.fr g8 tC nj .returning:=rfl;rw[e1]at aj;exact⟨_,aj,⟨U,Λ,w,m',_,_,rfl,s,by omega,.out dZ jy ca .ret,hs⟩⟩
        |false=>
         have e1:FG (K'.fr g8 tC nj (.panicking [{v:=c',recovered:=false,goexit:=false}]))=K'.fr g8 tC nj (.panicking [{v:=c',recovered:=false,goexit:=false}]):=rfl;rw[e1]at aj;exact⟨_,aj,⟨U,Λ,w,m',_,_,rfl,s,by omega,.out dZ jy ca (.pw false Ac),hs⟩⟩
theorem FH {P:Program} (hN:sP P) {f:Nat} {i:hZ} (hc:e9 P f=some i):∃fn c,P.funcs[f]? =some fn∧fn.body=some c∧(fn.name== "runtime.NumGoroutine")=false:=by
 obtain⟨fn,c,I,J,_⟩:=FE hc;exact⟨fn,c,I,J,hN f fn c I J⟩
def zf (P:Program) (f:Nat) (g:List V→Hp→Option (V×Hp)):Prop:=
 ∀(C:Cx) (U:AM) (Λ:Pa→Prop) (h:Hp) (ls:List LE) (w:World) (args:List V) (cE:List Value) (v:V) (h':Hp),C.P=P→C.sd=false→aP C U Λ h ls w→bd U args cE→g args h=some (v,h')→
  Calls P f cE.toArray w fun j2 w'=>∃c aA dh,j2=.returned c∧U.le aA∧aP C aA dh h' ls w'∧VR aA v c∧(∀a,U a=none→aA a≠none→h.next.toNat≤a.toNat)∧h.next.toNat≤h'.next.toNat
structure sQ (P:Program) (F:Nat→Option aN):Prop where
 code:∀f i,F f=some (.code i)→e9 P f=some i
 c7:∀f g,F f=some (.c7 g)→(∃i,e9 P f=some i)∧zf P f g
def qS (C:Cx) (F:Nat→Option aN):Prop:=sQ C.P F∧∀f g,F f=some (.c7 g)→C.sd=false
theorem qS.split {C:Cx} {F:Nat→Option aN} (h:qS C F) (f:Nat):F f=none∨(∃g,F f=some (.c7 g)∧(∃i,e9 C.P f=some i)∧zf C.P f g∧C.sd=false)∨∃i,F f=some (.code i)∧e9 C.P f=some i:=by
 cases hf:F f with
 |none=>exact .inl rfl
 |some x=>cases x with
  |code i=>exact .inr (.inr ⟨i,rfl,h.1.code f i hf⟩)
  |c7 g=>exact .inr (.inl ⟨g,rfl,(h.1.c7 f g hf).1,(h.1.c7 f g hf).2,h.2 f g hf⟩)
theorem sQ.c {C:Cx} {F:Nat→Option aN} (h:sQ C.P F) (hs:C.sd=false):qS C F:=⟨h,fun _ _ _=>hs⟩
theorem LN (P:Program):sQ P fun i=>(e9 P i).map .code where
 code:=fun f i h=>by
  cases hc:e9 P f with
  |none=>simp[hc]at h
  |some j=>simp[hc]at h;rw[h]
 c7:=fun f g h=>by
  cases hc:e9 P f with
  |none=>simp[hc]at h
  |some j=>simp[hc]at h
variable(F:Nat→Option aN)
theorem aep {P:Program} {b:Nat} (hb:w.heap[b]? =some (.deferred (some []))):∃w',(Instr.takeDeferred b).run P w=.ok [] w'∧iR w w' b∧w'.heap[b]? =some (.deferred none):=by
 have ap:=(lb1.1 hb).1;refine⟨{w with heap:=w.heap.setIfInBounds b (.deferred none)},?_,⟨by simp,fun i hi=>lb3 (Ne.symm hi),rfl,rfl,rfl,B5 _⟩,lb4 ap⟩;simp[Instr.takeDeferred,getObj,setObj,Sem.run,hb]
theorem aeq (hF:qS C F) (hN:sP C.P) {fk:FK} {e:T V} {tmps:Array Value} {todo:List Item} {bg:List Go.Item} {defs:List Def} {ds:List Deferred} {md:Mode} {mb:FrameMode} (hk:KR U fk K) (hd:fc U defs ds)
 (he:c8 U e tmps (kA C.P fk.fn)) (tD:uO U md mb) (s:aP C U Λ h ls w) (hm:m≤h.next.toNat) {cs:List Fr} {ccs:List Frame} (aj:gA C.P U bh f0 m fk.deferred fk.fn cs ccs):
 fe C bh f0 (lone (K.fr tmps bg ds mb) ccs w) (unwind F ⟨fk,e,todo,defs,md⟩ cs h ls):=by
 cases hd with
 | @mark a L A' Hy nj ha Hz=>
   simp only[unwind];cases hg:h.get a with
   |none=>trivial
   |some b=>
    cases b<;>(try trivial)
    rename_i l;cases l with
    |false=>trivial
    |true=>
     have bn:Λ a:=by
      rcases s.live a L _ ha hg with I|⟨m,I⟩
      ·exact I
      ·cases I
     obtain⟨b',g1,g2⟩:=s.aw a L ha bn;rw[hg]at g1;cases g1;obtain⟨w',t1,t2,t3⟩:=aep (P:=C.P) g2;have s':=s.w5 (b':=.dH false) ha bn hg rfl rfl t2 t3;refine⟨_,.one (step_lone_go (fr':=K.fr tmps bg nj mb) (cs':=ccs) (w':=w') ?_),⟨U,Λ,w',m,_,_,rfl,s',hm,.out hk Hz he tD,aj⟩⟩;cases tD<;>simp[stepG,Go.unwind,CK.fr,t1]
 | @call f args A' Hy nj bf ha Hz=>
   simp only[unwind];rcases hF.split f with dF|⟨g,dF,_⟩|⟨i,dF,hc⟩
   ·rw[dF];trivial
   ·rw[dF];trivial
   ·rw[dF];simp only;obtain⟨fn,c,I,J,h3⟩:=FH hN hc;have fm:=ze (U:=U) (h:=h) (m:=h.next.toNat) hc ha true;have cJ:(invoke (.fn (.func f) ⟨bf⟩) A').run C.P w=.ok (.enter f (A'.toList++bf).toArray) w:=by
     have e1:(A'++(⟨bf⟩:Array Value))=(A'.toList++bf).toArray:=by
      apply lb8.1;simp
     simp only[invoke,e1];exact FF I J h3 _ w
    refine⟨_,.one (step_lone_go (fr':=Frame.enter C.P f (A'.toList++bf).toArray .deferred) (cs':=K.fr tmps bg nj mb::ccs) (w':=w) ?_),⟨U,Λ,w,h.next.toNat,_,_,rfl,s,B5 _,fm.1,?_⟩⟩
    ·cases tD<;>simp[stepG,Go.unwind,CK.fr,callDeferred,cJ]
    ·rw[fm.2.1,fm.2.2];exact .cons h (.out hk Hz he tD) hm (B5 _) aj
 |nil=>
  cases tD with
  |ret=>
   simp only[unwind];rcases hF.split fk.fn with dF|⟨g,dF,_⟩|⟨i,dF,hc⟩
   ·rw[dF];trivial
   ·rw[dF];trivial
   ·rw[dF];simp only;cases hr:kf e h i.res with
    |none=>trivial
    |some l=>
     obtain⟨fn,c,I,J,h3,h4,h5⟩:=FE hc;have rB:b1 C.P fk.fn=Ch fn:=by simp[b1,I]
     have ca:c8 U e tmps (fun t=>t∉Ch fn):=by rw[←rB];exact he
     obtain⟨xV,k1,k2⟩:=aeo s ca h3 hr;rw[hk.fn]at I;refine SN hk k2 s hm aj (fun hn cc r e1=>?_) (fun hb cc r e1=>?_) (fun _ hn=>⟨_,.refl _ _,rfl,rfl,rfl,hn,fn,I,k1⟩)
     ·subst e1;exact .one (step_leave_returned ⟨rfl,rfl,hn,fn,I,k1⟩)
     ·subst e1;refine .one (step_lone_go ?_);simp[stepG,Go.unwind,CK.fr,I,k1,Go.doReturn,hb];rfl
  | @pw v c r hv=>
    simp only[unwind];cases r with
    |true=>trivial
    |false=>
     simp only[KL];have Xz:F fk.fn=none∨∃x i,F fk.fn=some x∧e9 C.P fk.fn=some i:=by
      rcases hF.split fk.fn with dF|⟨g,dF,⟨i,hi⟩,_⟩|⟨i,dF,hc⟩
      ·exact .inl dF
      ·exact .inr ⟨_,i,dF,hi⟩
      ·exact .inr ⟨_,i,dF,hc⟩
     rcases Xz with dF|⟨x,i,dF,hc⟩
     ·rw[dF];trivial
     ·rw[dF];simp only;obtain⟨fn,cc,I,_⟩:=FE hc;rw[hk.fn]at I;generalize p0:fk.deferred=d at aj;cases aj with
      |nil=>trivial
      | @cons _ m' _ _ dQ cc cs ccs h0 hc lm J hs=>
        have eZ:∀fr',Frame.raise cc [{v:=c,recovered:=false,goexit:=false}]=fr'→Steps C.P (lone (K.fr tmps bg [] (.panicking [{v:=c,recovered:=false,goexit:=false}])) (cc::ccs) w) (lone fr' ccs w):=fun fr' e1=>by
         subst e1;exact .one (step_lone_go (by simp[stepG,Go.unwind,CK.fr,Frame.catches,I]))
        cases hc with
        |wait dZ jy XA XB=>
         obtain⟨chks,vy,p,q1,q2,q3,Dr,HA,q6⟩:=XA.rest;exact⟨_,eZ _ rfl,⟨U,Λ,w,m',_,_,rfl,s,by omega,.out dZ jy (SE q3 HA) (.pw false hv),hs⟩⟩
        |Cv dZ jy ca jZ XB NP=>exact⟨_,eZ _ rfl,⟨U,Λ,w,m',_,_,rfl,s,by omega,.out dZ jy (ca.X _) (.pw false hv),hs⟩⟩
        |out dZ jy ca rD=>cases rD<;>trivial
end Go.Ev
namespace Go.Ev
variable{C:Cx} {K:CK} {ls:List LE} {m:Nat} {bh:List Frame} {f0:Nat} {U:AM} {Λ:Pa→Prop} {h:Hp} {w:World}
variable(F:Nat→Option aN)
theorem SO {P:Program} {ρ:Operand→Value} {e e0:T V} (ho:iC U e0 ρ) {c:Call} {x:Operand} (hx:c.callee=.value x) (hs:ic e0 e c.operands.toList) (ty:TypeId) {g:Nat} {bf:List V} (hv:(cO x).ev e=.fn g bf):
 ∃(cc:List Value) (A:List Value),(resolve ρ c ty).run P w=.ok {target:=.fn (.func g) ⟨cc⟩,args:=⟨A⟩} w∧bd U (ea e (c.args.toList.map cO)++bf) (A++cc):=by
 have I:(cO x).ev e0=(cO x).ev e:=hs x (by simp[Call.operands,hx]);have J:=ho x;rw[I,hv]at J;have h3:ea e0 (c.args.toList.map cO)=ea e (c.args.toList.map cO):=Fv fun y hy=>hs y (by simp only[Call.operands,hx];simp at hy⊢;exact .inr hy);have h4:=ho.list c.args.toList;rw[h3]at h4;generalize hr:ρ x=y at J;cases J with
 |fn _ _ cc d1=>
  refine⟨cc,c.args.toList.map ρ,?_,h4.append d1⟩;simp only[resolve,hx,hr,Deferred.ofValue,Sem.run_pure];congr 2;apply lb8.1;simp
theorem SP (hF:qS C F) (hN:sP C.P) {fk:FK} {e:T V} {tmps:Array Value} {todo:List Item} {bg:List Go.Item} {defs:List Def} {ds:List Deferred} {ops:Array Oper} {o:RO al} {rs:List (RS al)} {i:Nat} {L:List Nat} {oi:Oper}
 (hk:KR U fk K) (hd:fc U defs ds) (hw:nU C.P fk.nt ops (kA C.P fk.fn) m U e h tmps o rs i L oi) (ht:fL C.P U fk.nt (b1 C.P fk.fn) todo bg) (s:aP C U Λ h ls w) (hm:m≤h.next.toNat) {cs:List Fr} {ccs:List Frame} (aj:gA C.P U bh f0 m fk.deferred fk.fn cs ccs)
 (i7:Region.wanted oi (yielded ops tmps)=true) {c:Call} {x:Operand} (aS:oi.op=.call c) (hx:c.callee=.value x) {e0:T V} (ho:iC U e0 (de tmps)) (hs:ic e0 e oi.op.operands.toList) {g:Nat} {bf:List V} (hv:(cO x).ev e=.fn g bf):
 fe C bh f0 (lone (K.fr tmps (.inRegion ops (i::L)::bg) ds .run) ccs w) (mJ F ⟨fk,e,.dc (.op o::rs)::todo,defs,.run⟩ cs h ls g (ea e (c.args.toList.map cO)++bf)):=by
 rw[aS]at hs;obtain⟨cc,A,r1,r2⟩:=SO (w:=w) (P:=C.P) ho hx hs oi.type hv;unfold mJ;rcases hF.split g with dF|⟨N3,dF,⟨i5,hc⟩,ab,d3⟩|⟨i5,dF,hc⟩
 ·rw[dF];trivial
 ·rw[dF];simp only;obtain⟨fn,code,I,J,h3⟩:=FH hN hc;have cJ:(execOp (de tmps) oi).run C.P w=.ok (.enter g (A++cc).toArray) w:=by
   have e1:((⟨A⟩:Array Value)++(⟨cc⟩:Array Value))=(A++cc).toArray:=by
    apply lb8.1;simp
   simp only[execOp,aS,Sem.run_bind,r1,Result.andThen_ok,invoke,e1];exact FF I J h3 _ w
  cases hg:N3 (ea e (c.args.toList.map cO)++bf) h with
  |none=>trivial
  |some p=>
   obtain⟨v,h'⟩:=p;simp only;obtain⟨j2,w',fr,⟨xV,aA,dh,rfl,ac,s',Dv,xU,b3⟩,XC,Ab,Dw⟩:=ab C U Λ h ls w _ _ v h' rfl d3 s r2 hg (K.fr tmps (.inRegion ops (i::L)::bg) ds .run::ccs);have ge:∀a,a.toNat<h.next.toNat→U a=none→aA a=none:=fun a ha hn=>by
    cases pU:aA a with
    |none=>rfl
    |some L=>have:=xU a hn (by rw[pU];simp);omega
   obtain⟨fr',q1,q2,q3⟩:=SM (h:=h') (.wait (hk.mono ac) (hd.mono ac) (hw.mono ac ge) (ht.mono ac)) b3 Dv cs ls;rw[q1];refine⟨_,.head (m₁:=lone (Frame.enter C.P g (A++cc).toArray .normal) (K.fr tmps (.inRegion ops (i::L)::bg) ds .run::ccs) w) ?_ (Steps.trans XC (.one (step_leave_returned Dw))),⟨aA,dh,w',m,_,_,rfl,s',by omega,q2,by rw[q3];exact aj.mono ac (fun a ha hn=>ge a (by omega) hn)⟩⟩;refine step_lone_go (fr':=Frame.enter C.P g (A++cc).toArray .normal) (cs':=K.fr tmps (.inRegion ops (i::L)::bg) ds .run::ccs) (w':=w) ?_;rw[xa hw.at_ i7 (.inr fun c' fT=>by rw[aS]at fT;cases fT)];simp[stepG.apply,cJ,CK.fr]
 ·rw[dF];simp only;obtain⟨fn,code,I,J,h3⟩:=FH hN hc;have fm:=ze (U:=U) (h:=h) (m:=h.next.toNat) hc r2 false;have cJ:(execOp (de tmps) oi).run C.P w=.ok (.enter g (A++cc).toArray) w:=by
   have e1:((⟨A⟩:Array Value)++(⟨cc⟩:Array Value))=(A++cc).toArray:=by
    apply lb8.1;simp
   simp only[execOp,aS,Sem.run_bind,r1,Result.andThen_ok,invoke,e1];exact FF I J h3 _ w
  refine⟨_,.one (step_lone_go (fr':=Frame.enter C.P g (A++cc).toArray .normal) (cs':=K.fr tmps (.inRegion ops (i::L)::bg) ds .run::ccs) (w':=w) ?_),⟨U,Λ,w,h.next.toNat,_,_,rfl,s,B5 _,fm.1,?_⟩⟩
  ·rw[xa hw.at_ i7 (.inr fun c' fT=>by rw[aS]at fT;cases fT)];simp[stepG.apply,cJ,CK.fr]
  ·rw[fm.2.1,fm.2.2];exact .cons h (.wait hk hd hw ht) hm (B5 _) aj
theorem aer {fk:FK} (i9:fk.round=none) {e:T V} {tmps:Array Value} {todo:List Item} {bg:List Go.Item} {defs:List Def} {ds:List Deferred} {ops:Array Oper} {o:RO al} {rs:List (RS al)} {i:Nat} {L:List Nat} {oi:Oper}
 (hk:KR U fk K) (hd:fc U defs ds) (hw:nU C.P fk.nt ops (kA C.P fk.fn) m U e h tmps o rs i L oi) (ht:fL C.P U fk.nt (b1 C.P fk.fn) todo bg) (s:aP C U Λ h ls w) (hm:m≤h.next.toNat) {cs:List Fr} {ccs:List Frame} (aj:gA C.P U bh f0 m fk.deferred fk.fn cs ccs)
 (i7:Region.wanted oi (yielded ops tmps)=true) {c:Call} {x:Operand} (aS:oi.op=.defer c) (hx:c.callee=.value x) {e0:T V} (ho:iC U e0 (de tmps)) (hs:ic e0 e oi.op.operands.toList) {g:Nat} {bf:List V} (hv:(cO x).ev e=.fn g bf):
 fe C bh f0 (lone (K.fr tmps (.inRegion ops (i::L)::bg) ds .run) ccs w) (.go ⟨fk,e.put dm o.dst,.dc rs::todo,.call g (ea e (c.args.toList.map cO)++bf)::defs,.run⟩ cs h ls):=by
 rw[aS]at hs;obtain⟨cc,A,r1,r2⟩:=SO (w:=w) (P:=C.P) ho hx hs oi.type hv;have cJ:(execOp (de tmps) oi).run C.P w=.ok (.defer {target:=.fn (.func g) ⟨cc⟩,args:=⟨A⟩}) w:=by
  simp only[execOp,aS,Sem.run_bind,r1,Result.andThen_ok,Sem.run_pure]
 refine⟨_,.one (step_lone_go (fr':=K.fr (lE tmps oi.dst undef) (.inRegion ops L::bg) ({target:=.fn (.func g) ⟨cc⟩,args:=⟨A⟩}::ds) .run) (cs':=ccs) (w':=w) ?_),
  ⟨U,Λ,w,m,_,_,rfl,s,hm,Cy hk (.call cc (by simpa using r2) hd) hw ht (B5 _) (w9 U),aj⟩⟩
 have gO:K.round=none:=by have:=hk.round;rw[i9]at this;exact this
 rw[xa hw.at_ i7 (.inl gO),←Cq hw.at_];simp only[stepG.apply,Sem.runT_eq,cJ,GStep.bare_after];simp[CK.fr]
theorem SQ:∀(ps:List Nat) (args:List V) (cE:List Value) (env e1:T V) (tmps:Array Value) (n:Nat),fJ U env tmps→bd U args cE→sG (ps.map pa) args env=some e1→(∀t∈ps,t<n)→n≤tmps.size→
 fJ U e1 ((ps.zip cE).foldl (fun(tmps:Array Value) (ta:Nat×Value)=>tmps.setIfInBounds ta.1 ta.2) tmps)∧ps.length=cE.length∧n≤((ps.zip cE).foldl (fun(tmps:Array Value) (ta:Nat×Value)=>tmps.setIfInBounds ta.1 ta.2) tmps).size
 |[],args,cE,env,e1,tmps,n,he,ha,hs,hp,hn=>by
  cases args with
  |nil=>cases ha;simp[sG]at hs;subst hs;exact⟨he,rfl,hn⟩
  |cons v args=>simp[sG]at hs
 |t::ps,args,cE,env,e1,tmps,n,he,ha,hs,hp,hn=>by
  cases args with
  |nil=>simp[sG]at hs
  |cons v args=>
   cases ha with
   |cons _ c _ cs h jZ=>
    simp only[ap3,sG]at hs;have ht:t<n:=hp t (by simp);obtain⟨I,J,h3⟩:=SQ ps args cs (env.set v (pa t)) e1 (tmps.setIfInBounds t c) n (he.set h (by omega)) jZ hs (fun u hu=>hp u (by simp[hu])) (by simpa using hn);exact⟨I,by simp[J],h3⟩
theorem aes {fk:FK} {e:T V} {tmps:Array Value} {todo:List Item} {bg:List Go.Item} {defs:List Def} {ds:List Deferred} {ops:Array Oper} {o:RO al} {rs:List (RS al)} {i:Nat} {L:List Nat} {oi:Oper}
 (hk:KR U fk K) (hd:fc U defs ds) (hw:nU C.P fk.nt ops (kA C.P fk.fn) m U e h tmps o rs i L oi) (ht:fL C.P U fk.nt (b1 C.P fk.fn) todo bg) (s:aP C U Λ h ls w) (hm:m≤h.next.toNat) {cs:List Fr} {ccs:List Frame} (aj:gA C.P U bh f0 m fk.deferred fk.fn cs ccs)
 (i7:Region.wanted oi (yielded ops tmps)=true) {c:Call} {x:Operand} (aS:oi.op=.call c) (hx:c.callee=.value x) {e0:T V} (ho:iC U e0 (de tmps)) (hs:ic e0 e oi.op.operands.toList) {l:Pa} (hv:(cO x).ev e=.gV l):
 fe C bh f0 (lone (K.fr tmps (.inRegion ops (i::L)::bg) ds .run) ccs w) (w0 ⟨fk,e,.dc (.op o::rs)::todo,defs,.run⟩ cs h ls l (ea e (c.args.toList.map cO))):=by
 rw[aS]at hs;have I:(cO x).ev e0=(cO x).ev e:=hs x (by simp[Op.operands,Call.operands,hx]);have J:=ho x;rw[I,hv]at J;have h3:ea e0 (c.args.toList.map cO)=ea e (c.args.toList.map cO):=Fv fun y hy=>hs y (by simp only[Op.operands,Call.operands,hx];simp at hy⊢;exact .inr hy);have h4:=ho.list c.args.toList;rw[h3]at h4;unfold w0;cases hg:h.get l with
 |none=>trivial
 |some b=>
  cases b<;>(try trivial)
  rename_i r;simp only;cases cI:sG r.params (ea e (c.args.toList.map cO)) r.env with
  |none=>trivial
  |some e1=>
   simp only;cases ac:gb l ls with
   |none=>trivial
   |some y=>
    simp only;generalize XD:de tmps x=xV at J;cases J with
    |gV _ Ll ha=>
     have bn:Λ l:=by
      rcases s.live l Ll _ ha hg with I|⟨m,I⟩
      ·exact I
      ·cases I
     obtain⟨b',g1,g2⟩:=s.aw l Ll ha bn;rw[hg]at g1;cases g1;obtain⟨X,ci,eq,f7,g0,f9,oF,tE,tF,y',rE,N4,HB⟩:=g2;rw[ac]at rE;cases rE;rw[tE]at cI;obtain⟨p1,p2,HC⟩:=SQ X.params.toList _ _ r.env e1 X.tmps r.nt f9 h4 cI tF oF;have cJ:(execOp (de tmps) oi).run C.P w=.ok (.round Ll.aw X.fn ((X.params.zip (c.args.map (de tmps))).foldl (fun tmps (t,a)=>tmps.setIfInBounds t a) X.tmps) X.assign X.body) w:=by
      have ab:(Instr.getLoop Ll.aw).run C.P w=.ok X w:=by simp[Instr.getLoop,getObj,Sem.run,ci]
      have bJ:¬((c.args.map (de tmps)).size≠X.params.size):=by
       have e2:X.params.size=(List.map (de tmps) c.args.toList).length:=p2;simp at e2⊢;omega
      have XE:(#[]++c.args.map (de tmps))=c.args.map (de tmps):=by simp
      simp only[execOp,aS,resolve,hx,XD,Deferred.ofValue,Sem.run_bind,Sem.run_pure,Result.andThen_ok,invoke,XE,Instr.yield,ab,pg bJ]
     have XF:(X.params.zip (c.args.map (de tmps))).foldl (fun tmps (t,a)=>tmps.setIfInBounds t a) X.tmps=
      (X.params.toList.zip (c.args.toList.map (de tmps))).foldl (fun(tmps:Array Value) (ta:Nat×Value)=>tmps.setIfInBounds ta.1 ta.2) X.tmps:=by
      rw[←Array.foldl_toList,Array.toList_zip,lb9]
     rw[XF]at cJ;generalize (X.params.toList.zip (c.args.toList.map (de tmps))).foldl (fun(tmps:Array Value) (ta:Nat×Value)=>tmps.setIfInBounds ta.1 ta.2) X.tmps=T at cJ p1 HC;refine⟨_,.one (step_lone_go (fr':=(CK.mk X.fn .normal (some Ll.aw)).fr T [.code X.assign,.beginRound,.code X.body] [] .run) (cs':=K.fr tmps (.inRegion ops (i::L)::bg) ds .run::ccs) (w':=w) ?_),
      ⟨U,Λ,w,h.next.toNat,_,_,rfl,s,B5 _,.run (K:=CK.mk X.fn .normal (some Ll.aw)) ⟨g0.symm,rfl,Ll,ha,rfl⟩ .nil p1 HC ?_,.cons h (.wait hk hd hw ht) hm (B5 _) aj⟩⟩
     ·rw[xa hw.at_ i7 (.inr fun c' fT=>by rw[aS]at fT;cases fT)];simp[stepG.apply,cJ,CK.fr,Frame.round]
     ·rw[N4,HB];exact .cons (.code _) (.cons .begin (.cons (.code _) .nil))
theorem aet {fk:FK} {e:T V} {tmps:Array Value} {todo:List Item} {bg:List Go.Item} {defs:List Def} {ds:List Deferred} {ops:Array Oper} {o:RO al} {rs:List (RS al)} {i:Nat} {L:List Nat} {oi:Oper}
 (hk:KR U fk K) (hd:fc U defs ds) (hw:nU C.P fk.nt ops (kA C.P fk.fn) m U e h tmps o rs i L oi) (ht:fL C.P U fk.nt (b1 C.P fk.fn) todo bg) (s:aP C U Λ h ls w) (hm:m≤h.next.toNat) {cs:List Fr} {ccs:List Frame} (aj:gA C.P U bh f0 m fk.deferred fk.fn cs ccs)
 (i7:Region.wanted oi (yielded ops tmps)=true) {c:Call} (aS:oi.op=.call c) (hx:c.callee=.builtin .recover):
 fe C bh f0 (lone (K.fr tmps (.inRegion ops (i::L)::bg) ds .run) ccs w) (uG F fk e o rs todo defs cs h ls .recover):=by
 simp only[uG];have cJ:(execOp (de tmps) oi).run C.P w=.ok .recover w:=by
  simp only[execOp,aS,resolve,hx,Sem.run_bind,Sem.run_pure,Result.andThen_ok,invoke,builtin]
 have vC:=Cq (K:=K) (tmps:=tmps) (ds:=ds) (k:=bg) (rest:=L) hw.at_;generalize p0:fk.deferred=d at aj;cases aj with
 |nil=>trivial
 | @cons _ m' _ _ dQ cc cs ccs h0 hc I J hs=>
   simp only;cases d with
   |false=>trivial
   |true=>
    simp only[E7];cases hr:fk.round with
    |some l=>trivial
    |none=>
     have gO:K.round=none:=by have:=hk.round;rw[hr]at this;exact this
     have HD:K.kind=.deferred:=by rw[hk.kind,p0];(try rfl)
     simp only;have eZ:∀(v:Value) (Dx:Frame),(tryRecover (K.fr tmps (.inRegion ops (i::L)::bg) ds .run) (cc::ccs)=some (v,Dx::ccs)∨(tryRecover (K.fr tmps (.inRegion ops (i::L)::bg) ds .run) (cc::ccs)=none∧v=.nilIface∧Dx=cc))→
      Steps C.P (lone (K.fr tmps (.inRegion ops (i::L)::bg) ds .run) (cc::ccs) w) (lone (K.fr (lE tmps oi.dst v) (.inRegion ops L::bg) ds .run) (Dx::ccs) w):=fun v Dx Ad=>by
      refine .one (step_lone_go ?_);rw[xa hw.at_ i7 (.inr fun c' fT=>by rw[aS]at fT;cases fT),←vC];have f5:(K.fr tmps (.inRegion ops (i::L)::bg) ds .run).roundOf=none:=gO;rcases Ad with Ad|⟨Ad,rfl,rfl⟩
      ·simp[stepG.apply,cJ,f5,Ad]
      ·simp[stepG.apply,cJ,f5,Ad]
     cases hc with
     | @out k' K' e' g8 Xy tC Hy nj md mb dZ jy ca rD=>
       cases rD with
       |ret=>
        exact⟨_,eZ .nilIface _ (.inr ⟨by simp[tryRecover,CK.fr,HD],rfl,rfl⟩),⟨U,Λ,w,m,_,_,rfl,s,hm,Cy hk hd hw ht (B5 _) .Ff,by
         show gA C.P U bh f0 m fk.deferred fk.fn _ _;rw[p0];exact .cons h0 (.out dZ jy ca .ret) I J hs⟩⟩
       | @pw v' c' r Ac=>
         cases r with
         |true=>
          simp only[E7];exact⟨_,eZ .nilIface _ (.inr ⟨by simp[tryRecover,CK.fr,HD],rfl,rfl⟩),⟨U,Λ,w,m,_,_,rfl,s,hm,Cy hk hd hw ht (B5 _) .Ff,by
           show gA C.P U bh f0 m fk.deferred fk.fn _ _;rw[p0];exact .cons h0 (.out dZ jy ca (.pw true Ac)) I J hs⟩⟩
         |false=>
          simp only[KL];exact⟨_,eZ c' (K'.fr g8 tC nj (.panicking [{v:=c',recovered:=true,goexit:=false}])) (.inl (by simp[tryRecover,CK.fr,HD])),⟨U,Λ,w,m,_,_,rfl,s,hm,Cy hk hd hw ht (B5 _) Ac,by
           show gA C.P U bh f0 m fk.deferred fk.fn _ _;rw[p0];exact .cons h0 (.out dZ jy ca (.pw true Ac)) I J hs⟩⟩
theorem aeu {fk:FK} {e:T V} {tmps:Array Value} {todo:List Item} {bg:List Go.Item} {defs:List Def} {ds:List Deferred} {ops:Array Oper} {o:RO al} {rs:List (RS al)} {i:Nat} {L:List Nat} {oi:Oper}
 (hk:KR U fk K) (hd:fc U defs ds) (hw:nU C.P fk.nt ops (kA C.P fk.fn) m U e h tmps o rs i L oi) (s:aP C U Λ h ls w) (hm:m≤h.next.toNat) {cs:List Fr} {ccs:List Frame} (aj:gA C.P U bh f0 m fk.deferred fk.fn cs ccs)
 (i7:Region.wanted oi (yielded ops tmps)=true) {x:Operand} (aS:oi.op=.panic x∨∃c,oi.op=.call c∧c.callee=.builtin .panic∧c.args.toList=[x]) {e0:T V} (ho:iC U e0 (de tmps)) (hs:ic e0 e oi.op.operands.toList) {t:Nat} {v:V} (hv:(cO x).ev e=.iface t v):
 fe C bh f0 (lone (K.fr tmps (.inRegion ops (i::L)::bg) ds .run) ccs w) (.go ⟨fk,e,.dc (.op o::rs)::todo,defs,.panicking (.iface t v) false⟩ cs h ls):=by
 have Ae:x∈oi.op.operands.toList:=by
  rcases aS with I|⟨c,I,J,h3⟩
  ·simp[I,Op.operands]
  ·simp[I,Op.operands,Call.operands,J,za h3]
 have I:(cO x).ev e0=(cO x).ev e:=hs x Ae;have J:=ho x;rw[I,hv]at J;generalize hr:de tmps x=y at J;have cJ:(execOp (de tmps) oi).run C.P w=.halt (.panic y) w:=by
  cases J with
  |iface _ _ c' fT=>
   rcases aS with I|⟨c,I,J,h3⟩
   ·simp only[execOp,I,hr];simp[Instr.panic,goPanic,Sem.run]
   ·simp only[execOp,I,resolve,J,za h3,Sem.run_bind,Sem.run_pure,Result.andThen_ok,invoke,builtin,aqQ,ap3,aqS,hr];simp[Instr.panic,goPanic]
 obtain⟨chks,vy,p,q1,q2,q3,Dr,HA,q6⟩:=hw.rest;refine⟨_,.one (step_lone_go (fr':=K.fr tmps (.inRegion ops (i::L)::bg) ds (.panicking [{v:=y,recovered:=false,goexit:=false}])) (cs':=ccs) (w':=w) ?_),⟨U,Λ,w,m,_,_,rfl,s,hm,.out hk hd (SE q3 HA) (.pw false J),aj⟩⟩;have pW:∀c,oi.op≠.defer c:=fun c' fT=>by
  rcases aS with I|⟨c,I,_⟩
  ·rw[I]at fT;cases fT
  ·rw[I]at fT;cases fT
 rw[xa hw.at_ i7 (.inr pW)];simp[stepG.apply,cJ,CK.fr,Frame.raise]
theorem aev (hF:qS C F) (hN:sP C.P) {fk:FK} {e:T V} {tmps:Array Value} {todo:List Item} {bg:List Go.Item} {defs:List Def} {ds:List Deferred} {ops:Array Oper} {o:RO al} {rs:List (RS al)} {i:Nat} {L:List Nat} {oi:Oper}
 (hk:KR U fk K) (hd:fc U defs ds) (hw:nU C.P fk.nt ops (kA C.P fk.fn) m U e h tmps o rs i L oi) (ht:fL C.P U fk.nt (b1 C.P fk.fn) todo bg) (s:aP C U Λ h ls w) (hm:m≤h.next.toNat) {cs:List Fr} {ccs:List Frame} (aj:gA C.P U bh f0 m fk.deferred fk.fn cs ccs)
 (i7:Region.wanted oi (yielded ops tmps)=true) {f:T V→lj} (HE:cR C.P oi.op=.ed f) {e0:T V} (ho:iC U e0 (de tmps)) (hs:ic e0 e oi.op.operands.toList):
 fe C bh f0 (lone (K.fr tmps (.inRegion ops (i::L)::bg) ds .run) ccs w) (uG F fk e o rs todo defs cs h ls (f e)):=by
 rcases ael HE with⟨n,rfl⟩|⟨c,x,aS,hx,hf⟩|⟨c,x,aS,hx,rfl⟩|⟨c,aS,hx,rfl⟩|⟨x,aS,rfl⟩
 ·trivial
 ·rcases hf with⟨g,rfl,rfl⟩|rfl
  ·have:=SP F hF hN hk hd hw ht s hm aj i7 aS hx ho hs (g:=g) (bf:=[]) rfl;simpa[uG]using this
  ·simp only;cases hv:(cO x).ev e<;>(try trivial)
   ·exact SP F hF hN hk hd hw ht s hm aj i7 aS hx ho hs hv
   ·exact aes hk hd hw ht s hm aj i7 aS hx ho hs hv
 ·simp only;cases hv:(cO x).ev e<;>(try trivial)
  simp only[uG];cases hr:fk.round with
  |some l=>trivial
  |none=>exact aer hr hk hd hw ht s hm aj i7 aS hx ho hs hv
 ·exact aet F hk hd hw ht s hm aj i7 aS hx
 ·simp only;cases hv:(cO x).ev e<;>(try trivial)
  exact aeu hk hd hw s hm aj i7 aS ho hs hv
end Go.Ev
namespace Go.Ev
variable{C:Cx} {K:CK} {ls:List LE} {m:Nat} {bh:List Frame} {f0:Nat} {U:AM} {Λ:Pa→Prop} {h:Hp} {w:World}
variable(F:Nat→Option aN)
def Cz:Option qv→Option Code
 |none=>none
 |some .ret=>some .ret
 |some (.exit id)=>some (.exit id)
theorem aew (j:Option qv):K8 j (Cz j):=by
 cases j with
 |none=>trivial
 |some j=>cases j with
  |ret=>trivial
  |exit id=>rfl
theorem aex {P:Program} {b:Nat} {X:Loop} (hb:w.heap[b]? =some (.loop X)) (j:Option Code):
 ∃w',(Instr.endRound b j).run P w=.ok (.bool j.isNone) w'∧iR w w' b∧w'.heap[b]? =some (.loop {X with state:=if j.isNone then .ready else .done,pending:=j}):=by
 have ap:=(lb1.1 hb).1;refine⟨{w with heap:=w.heap.setIfInBounds b (.loop {X with state:=if j.isNone then .ready else .done,pending:=j})},?_,⟨by simp,fun i hi=>lb3 (Ne.symm hi),rfl,rfl,rfl,B5 _⟩,lb4 ap⟩;simp[Instr.endRound,Instr.getLoop,getObj,setObj,Sem.run,hb]
theorem aey {P:Program} {b:Nat} {X:Loop} (hb:w.heap[b]? =some (.loop X)) (hr:X.state=.ready):
 ∃w',(Instr.beginRound b).run P w=.ok () w'∧iR w w' b∧w'.heap[b]? =some (.loop {X with state:=.busy}):=by
 have ap:=(lb1.1 hb).1;refine⟨{w with heap:=w.heap.setIfInBounds b (.loop {X with state:=.busy})},?_,⟨by simp,fun i hi=>lb3 (Ne.symm hi),rfl,rfl,rfl,B5 _⟩,lb4 ap⟩;simp[Instr.beginRound,Instr.getLoop,getObj,setObj,Sem.run,hb,hr]
theorem aez {P:Program} {b:Nat} {X:Loop} (hb:w.heap[b]? =some (.loop X)) (hr:X.state≠.busy):
 ∃w',(Instr.endLoop b).run P w=.ok X.pending w'∧iR w w' b∧w'.heap[b]? =some (.loop {X with state:=.exhausted}):=by
 have ap:=(lb1.1 hb).1;refine⟨{w with heap:=w.heap.setIfInBounds b (.loop {X with state:=.exhausted})},?_,⟨by simp,fun i hi=>lb3 (Ne.symm hi),rfl,rfl,rfl,B5 _⟩,lb4 ap⟩;simp[Instr.endLoop,Instr.getLoop,getObj,setObj,Sem.run,hb,hr]
theorem LO (s:aP C U Λ h ls w) {l:Pa} {L:Loc} (ha:U l=some L) {r:sB} (hg:h.get l=some (.loop r)):Λ l∧BR C.P U ls l (.loop r) L w:=by
 have bn:Λ l:=by
  rcases s.live l L _ ha hg with I|⟨m,I⟩
  ·exact I
  ·cases I
 obtain⟨b',g1,g2⟩:=s.aw l L ha bn;rw[hg]at g1;cases g1;exact⟨bn,g2⟩
theorem LP {fk:FK} {e:T V} {tmps:Array Value} {todo:List Item} {defs:List Def} {ds:List Deferred} {bg:List Go.Item} (hk:KR U fk K) (hd:fc U defs ds) (he:fJ U e tmps)
 (s:aP C U Λ h ls w) (hm:m≤h.next.toNat) {cs:List Fr} {ccs:List Frame} (aj:gA C.P U bh f0 m fk.deferred fk.fn cs ccs) (j:Option qv)
 (I:K.round=none→(∀id,j≠some (.exit id))→Go.step C.P (lone (K.fr tmps bg ds .run) ccs w)=.next (lone (K.fr tmps bg ds .returning) ccs w))
 (J:∀b v w',K.round=some b→(Instr.endRound b (Cz j)).run C.P w=.ok v w'→∀fr' cs',(Go.doReturn C.P true (K.fr tmps bg ds .run) ccs none v w').bare=.go {frame:=fr',callers:=cs',status:=.running,dying:=none} w'→
   Go.step C.P (lone (K.fr tmps bg ds .run) ccs w)=.next (lone fr' cs' w')):
 fe C bh f0 (lone (K.fr tmps bg ds .run) ccs w) (uH ⟨fk,e,todo,defs,.run⟩ cs h ls j):=by
 simp only[uH];have gO:=hk.round;cases hr:fk.round with
 |none=>
  rw[hr]at gO;have ab:(∀id,j≠some (.exit id))→fe C bh f0 (lone (K.fr tmps bg ds .run) ccs w) (.go ⟨fk,e,todo,defs,.returning⟩ cs h ls):=fun hj=>
   ⟨_,.one (I gO hj),⟨U,Λ,w,m,_,_,rfl,s,hm,.out hk hd (he.X _) .ret,aj⟩⟩
  cases j with
  |none=>exact ab (fun id h=>by cases h)
  |some j=>cases j with
   |ret=>exact ab (fun id h=>by cases h)
   |exit id=>trivial
 |some l=>
  rw[hr]at gO;obtain⟨L,ha,gO⟩:=gO;simp only;cases hg:h.get l with
  |none=>trivial
  |some b=>
   cases b<;>(try trivial)
   rename_i r;simp only;cases hd with
   |mark=>trivial
   |call=>trivial
   |nil=>
    simp only;obtain⟨bn,X,ci,eq,f7,g0,f9,oF,tE,tF,y,rE⟩:=LO s ha hg;obtain⟨w',t1,t2,t3⟩:=aex (P:=C.P) ci (Cz j);have ox:(Cz j).isNone=(match(generalizing:=false) j with|none=>true|some _=>false):=by
     cases j with
     |none=>rfl
     |some j=>cases j<;>rfl
    have s':aP C U Λ (h.put l (.loop {r with state:=match(generalizing:=false) j with|none=>.ready|some _=>.done,pending:=j})) ls w':=by
     refine s.w5 ha bn hg rfl rfl t2 ⟨_,t3,?_,aew j,g0,f9,oF,tE,tF,y,rE⟩;cases j with
     |none=>rfl
     |some j=>cases j<;>rfl
    refine SN (c:=.bool (Cz j).isNone) hk (by rw[ox];exact .bool _) s' hm aj (fun hn cc rest e1=>?_) (fun hb cc rest e1=>?_) (fun Af=>by rw[hr]at Af;cases Af)
    ·subst e1;refine .one (J _ _ _ gO t1 _ _ ?_);simp[Go.doReturn,CK.fr,hn]
    ·subst e1;refine .one (J _ _ _ gO t1 _ _ ?_);simp[Go.doReturn,CK.fr,hb];rfl
section leaves
variable{P:Program} {tmps:Array Value} {k:List Go.Item} {cs:List Frame} {ds:List Deferred}
theorem aeA {b:Nat} {v:Value} {w':World} (hr:K.round=some b) (he:(Instr.endRound b (some .ret)).run P w=.ok v w') {fr':Frame} {cs':List Frame}
 (hd:(Go.doReturn P true (K.fr tmps (.code .ret::k) ds .run) cs none v w').bare=.go {frame:=fr',callers:=cs',status:=.running,dying:=none} w'):
 Go.step P (lone (K.fr tmps (.code .ret::k) ds .run) cs w)=.next (lone fr' cs' w'):=by
 refine step_lone_go ?_;simp only[CK.fr,hr]at hd⊢;simp[stepG,stepG.exec,he,hd]
theorem aeB {b:Nat} {v:Value} {w':World} (hr:K.round=some b) (he:(Instr.endRound b none).run P w=.ok v w') {fr':Frame} {cs':List Frame}
 (hd:(Go.doReturn P true (K.fr tmps [] ds .run) cs none v w').bare=.go {frame:=fr',callers:=cs',status:=.running,dying:=none} w'):
 Go.step P (lone (K.fr tmps [] ds .run) cs w)=.next (lone fr' cs' w'):=by
 refine step_lone_go ?_;simp only[CK.fr,hr]at hd⊢;simp[stepG,stepG.exec,he,hd]
theorem aeC {b id:Nat} {v:Value} {w':World} (hx:Go.exitTo id k=none) (hr:K.round=some b) (he:(Instr.endRound b (some (.exit id))).run P w=.ok v w') {fr':Frame} {cs':List Frame}
 (hd:(Go.doReturn P true (K.fr tmps (.code (.exit id)::k) ds .run) cs none v w').bare=.go {frame:=fr',callers:=cs',status:=.running,dying:=none} w'):
 Go.step P (lone (K.fr tmps (.code (.exit id)::k) ds .run) cs w)=.next (lone fr' cs' w'):=by
 refine step_lone_go ?_;simp only[CK.fr,hr]at hd⊢;simp[stepG,stepG.exec,hx,he,hd]
end leaves
theorem aP.aeD (s:aP C U Λ h ls w) (ci eq:al) (a b:IC al):aP C U Λ ((h.alloc ci).alloc eq) (⟨h.next.succ,a,b⟩::ls) w:=by
 have s2:=(s.ghost ci).ghost eq;have XG:RE ls (⟨h.next.succ,a,b⟩::ls):=fun x y hx=>by
  have ap:=s.jj x y hx;simp only[gb];have:(h.next.succ).beq x=false:=by
   rw[aqO];intro hb;have:=(Pa.beq_iff _ _).1 hb;subst this;rw[Pa.iB]at ap;omega
  rw[this];exact hx
 have b3:((h.alloc ci).alloc eq).next.toNat=h.next.toNat+2:=by
  show h.next.succ.succ.toNat=_;rw[Pa.iB,Pa.iB]
 exact{ia:=s2.ia,aw:=fun x L hx bn=>(by obtain⟨c,I,J⟩:=s2.aw x L hx bn;exact⟨c,I,J.mono (AM.le_refl U) XG rfl⟩),inj:=s2.inj,live:=s2.live,wr:=s2.wr,low:=s2.low,size:=s2.size,still:=s2.still,fresh:=s2.fresh,
       jj:=fun x y hx=>(by
        simp only[gb]at hx;cases hb:(h.next.succ).beq x with
        |true=>
         have:=(Pa.beq_iff _ _).1 hb;subst this;rw[b3,Pa.iB];omega
        |false=>
         rw[hb]at hx;have:=s.jj x y hx;omega)}
theorem aeE (hF:qS C F) (hN:sP C.P) {fk:FK} {e:T V} {tmps:Array Value} {todo:List Item} {bg:List Go.Item} {defs:List Def} {ds:List Deferred} (hk:KR U fk K) (hd:fc U defs ds) (he:fJ U e tmps) (bJ:fk.nt≤tmps.size)
 (ht:fL C.P U fk.nt (b1 C.P fk.fn) todo bg) (s:aP C U Λ h ls w) (hm:m≤h.next.toNat) {cs:List Fr} {ccs:List Frame} (aj:gA C.P U bh f0 m fk.deferred fk.fn cs ccs) (f:Operand) (ps:Array Tmp) (a b:Code) (jx:ps.toList.all (fun t=>Nat.blt t fk.nt)=true):
 fe C bh f0 (lone (K.fr tmps (.code (.rangeFunc f ps a b)::bg) ds .run) ccs w)
  (kg F fk e todo defs cs h ls (.rangeFunc (cO f) (ps.toList.map pa) (cS C.P fk.nt (b1 C.P fk.fn) a) (cS C.P fk.nt (b1 C.P fk.fn) b))):=by
 simp only[kg];have gO:=hk.round;cases hr:fk.round with
 |some l=>trivial
 |none=>
  rw[hr]at gO;have gO:K.round=none:=gO;simp only;have eW:=FB he f;cases hv:(cO f).ev e<;>(try trivial)
  rename_i g bf;simp only;rcases hF.split g with dF|⟨N3,dF,_⟩|⟨i5,dF,hc⟩
  ·rw[dF];trivial
  ·rw[dF];trivial
  ·rw[dF];simp only;rw[hv]at eW;generalize XH:de tmps f=aig at eW;cases eW with
   |fn _ _ cc d1=>
    obtain⟨fn,code,I,J,h3⟩:=FH hN hc;obtain⟨w1,dP⟩:∃w1:World,w1={w with heap:=w.heap.push (.deferred (some []))}:=⟨_,rfl⟩
    obtain⟨X,hX⟩:∃X:Loop,X={state:=.ready,pending:=none,fn:=K.fn,tmps,params:=ps,assign:=a,body:=b,defers:=w.heap.size}:=⟨_,rfl⟩
    obtain⟨w2,cw⟩:∃w2:World,w2={w1 with heap:=w1.heap.push (.loop X)}:=⟨_,rfl⟩
    have z1:w1.heap.size=w.heap.size+1:=by rw[dP];simp
    have g1:lC w w1:=by rw[dP];exact lC.push w _
    have g2:lC w1 w2:=by rw[cw];exact lC.push w1 _
    have HF:=s.aeD (.dH true) (.loop {state:=.ready,pending:=none,fn:=fk.fn,nt:=fk.nt,env:=e,params:=ps.toList.map pa}) (cS C.P fk.nt (b1 C.P fk.fn) a) (cS C.P fk.nt (b1 C.P fk.fn) b);generalize XI:(⟨h.next.succ,cS C.P fk.nt (b1 C.P fk.fn) a,cS C.P fk.nt (b1 C.P fk.fn) b⟩::ls:List LE)=pm at HF;generalize rg:((h.alloc (.dH true)).alloc (.loop {state:=.ready,pending:=none,fn:=fk.fn,nt:=fk.nt,env:=e,params:=ps.toList.map pa}))=h' at HF;have bx:h.next≠h.next.succ:=fun e1=>by have:=congrArg Pa.toNat e1;rw[Pa.iB]at this;omega
    have XJ:h'.get h.next=some (.dH true):=by
     rw[←rg];simp[bm.alloc,bm.get,T.gX,Ne.symm bx]
    have XK:h'.get h.next.succ=some (.loop {state:=.ready,pending:=none,fn:=fk.fn,nt:=fk.nt,env:=e,params:=ps.toList.map pa}):=by
     rw[←rg];simp[bm.alloc,bm.get,T.gX]
    have b3:h'.next.toNat=h.next.toNat+2:=by
     rw[←rg];show h.next.succ.succ.toNat=_;rw[Pa.iB,Pa.iB]
    have N5:=s.lB;have XL:=AM.lA (U:=U) (a:=h.next) (L:=⟨w.heap.size,0,0,false⟩) N5;have s1:=HF.fill (top:=0) (md:=false) N5 XJ g1 (by show w1.heap[w.heap.size]? =_;rw[dP];simp);have N6:(U.put h.next ⟨w.heap.size,0,0,false⟩) h.next.succ=none:=by
     simp only[AM.put,Ne.symm bx,if_false];cases hx:U h.next.succ with
     |none=>rfl
     |some L=>have:=s.ia _ _ hx;rw[Pa.iB]at this;omega
    have eJ:=AM.lA (U:=U.put h.next ⟨w.heap.size,0,0,false⟩) (a:=h.next.succ) (L:=⟨w1.heap.size,0,0,false⟩) N6;have ac:=AM.le_trans XL eJ;have s2:=s1.fill (top:=0) (md:=false) (w':=w2) N6 XK g2 (by
     refine⟨X,by show w2.heap[w1.heap.size]? =_;rw[cw];simp,by rw[hX],by rw[hX];trivial,by rw[hX];exact hk.fn.symm,by rw[hX];exact he.mono ac,by rw[hX];exact bJ,by rw[hX],?_,
      ⟨h.next.succ,cS C.P fk.nt (b1 C.P fk.fn) a,cS C.P fk.nt (b1 C.P fk.fn) b⟩,?_,by rw[hX],by rw[hX]⟩
     ·rw[hX];intro t XM;rw[ap6]at jx;exact aqB (aqy t) (ap5 (jx t XM))
     ·rw[←XI];simp only[gb];rw[(Pa.beq_iff _ _).2 rfl];(try rfl))
    generalize HG:(U.put h.next ⟨w.heap.size,0,0,false⟩).put h.next.succ ⟨w1.heap.size,0,0,false⟩=Ag at s2 eJ ac;have bs:Ag h.next=some ⟨w.heap.size,0,0,false⟩:=by rw[←HG];simp[AM.put,bx]
    have a2:Ag h.next.succ=some ⟨w1.heap.size,0,0,false⟩:=by rw[←HG];simp[AM.put]
    have xU:∀x,x.toNat<m→U x=none→Ag x=none:=fun x hx hn=>by
     have n1:x≠h.next:=fun e1=>by subst e1;omega
     have n2:x≠h.next.succ:=fun e1=>by subst e1;rw[Pa.iB]at hx;omega
     rw[←HG];simp[AM.put,n1,n2,hn]
    have fm:=ze (U:=Ag) (h:=h') (m:=h'.next.toNat) hc (args:=.gV h.next.succ::bf) (cE:=.func (.yield w1.heap.size) #[] #[]::cc) (.cons _ _ _ _ (.gV h.next.succ _ a2) (bd.mono ac d1)) false;refine⟨_,.one (step_lone_go (fr':=Frame.enter C.P g (.func (.yield w1.heap.size) #[] #[]::cc).toArray .normal)
     (cs':=K.fr tmps (.inRangeFunc w1.heap.size::bg) ({target:=.collected w.heap.size,args:=#[]}::ds) .run::ccs) (w':=w2) ?_),⟨Ag,_,w2,h'.next.toNat,_,_,rfl,s2,B5 _,fm.1,?_⟩⟩
    ·have XN:(Instr.enterLoop K.fn tmps ps a b none).run C.P w=.ok (w1.heap.size,[{target:=.collected w.heap.size,args:=#[]}]) w2:=by
      rw[cw,hX,dP];simp[Instr.enterLoop,newObj,Sem.run];rfl
     have XO:(do let d←resolve (de tmps) {callee:=.value f,args:=#[.const (.func (.yield w1.heap.size) #[] #[])],argTypes:=#[]} 0;invoke d.target d.args:Sem Next).run C.P w2=.ok (.enter g (.func (.yield w1.heap.size) #[] #[]::cc).toArray) w2:=by
      have e1:(#[]++#[Value.func (.yield w1.heap.size) #[] #[]]++(⟨cc⟩:Array Value))=(.func (.yield w1.heap.size) #[] #[]::cc).toArray:=by
       apply lb8.1;simp
      have XP:∀v,de tmps (.const v)=v:=fun _=>rfl;simp only[resolve,aqQ,ap3,aqS,XH,XP,Deferred.ofValue,Sem.run_bind,Sem.run_pure,Result.andThen_ok,invoke,e1];exact FF I J h3 _ w2
     have N7:=CK.eval K tmps (.inRangeFunc w1.heap.size::bg) ({target:=.collected w.heap.size,args:=#[]}::ds) .run;simp only[CK.fr,gO]at N7⊢;simp only[stepG,stepG.exec,Sem.runT_eq,XN,GStep.bare_after,List.singleton_append,N7];simp[stepG.apply,XO]
    ·rw[fm.2.1,fm.2.2];exact .cons h' (.Cv (hk.mono ac) (.mark bs (hd.mono ac)) (he.mono ac) bJ (ht.mono ac) a2) (by omega) (B5 _) (aj.mono ac xU)
theorem aeF (dE:Cw C.P) (hF:qS C F) (hN:sP C.P) {fk:FK} {e:T V} {tmps:Array Value} {todo:List Item} {bg:List Go.Item} {defs:List Def} {ds:List Deferred} (hk:KR U fk K) (hd:fc U defs ds) (he:fJ U e tmps) (bJ:fk.nt≤tmps.size)
 (ht:fL C.P U fk.nt (b1 C.P fk.fn) todo bg) (s:aP C U Λ h ls w) (hm:m≤h.next.toNat) {cs:List Fr} {ccs:List Frame} (aj:gA C.P U bh f0 m fk.deferred fk.fn cs ccs) (c:Code):
 fe C bh f0 (lone (K.fr tmps (.code c::bg) ds .run) ccs w) (kg F fk e todo defs cs h ls (cS C.P fk.nt (b1 C.P fk.fn) c)):=by
 have go:∀{M:Machine} {dQ:Frame} {w':World} {fr:Fr},fr.k=fk→Steps C.P M (lone dQ ccs w')→aP C U Λ h ls w'→sO C.P U h m fr dQ→fe C bh f0 M (.go fr cs h ls):=
  fun XQ hM s' pZ=>⟨_,hM,⟨U,Λ,_,m,_,_,rfl,s',hm,pZ,by rw[XQ];exact aj⟩⟩
 have push:∀(c:Code) (k:List Item) (cQ:List Go.Item),fL C.P U fk.nt (b1 C.P fk.fn) k cQ→fe C bh f0 (lone (K.fr tmps (.code c::cQ) ds .run) ccs w) (.go ⟨fk,e,fI (cS C.P fk.nt (b1 C.P fk.fn) c) k,defs,.run⟩ cs h ls):=fun c k cQ dZ=>by
  obtain⟨dQ,w',I,J,h3⟩:=LL dE (m:=m) (ccs:=ccs) hk hd he bJ c k cQ w s dZ;exact go rfl I J h3
 cases c with
 |skip=>exact go rfl (.one SF) s (.run hk hd he bJ ht)
 |label l=>exact go rfl (.one SG) s (.run hk hd he bJ ht)
 |seq a b=>exact .of_steps (.one SI) (push a _ _ (.cons (.code b) ht))
 |region id ops draw=>
  have I:=push (.region id ops draw) todo bg ht;cases draw with
  |false=>exact I
  |true=>
   have hc:cS C.P fk.nt (b1 C.P fk.fn) (.region id ops true)=drawn C.P fk.nt (b1 C.P fk.fn) ops (e8 C.P fk.nt ops ops.toList 0 []):=rfl;rw[hc]at I⊢;unfold drawn at I⊢;cases hb:(C.P.follows .mixedOrders&&(y7 ops (e8 C.P fk.nt ops ops.toList 0 [])&&Cg (b1 C.P fk.fn) (e8 C.P fk.nt ops ops.toList 0 [])))with
   |true=>rw[hb]at I;exact I
   |false=>trivial
 |cond c a b=>
  show fe C bh f0 _ (kg F fk e todo defs cs h ls (.cond (cO c) (cS C.P fk.nt (b1 C.P fk.fn) a) (cS C.P fk.nt (b1 C.P fk.fn) b)));simp only[kg];have hc:=FB he c;cases hv:(cO c).ev e<;>(try trivial)
  rename_i t;rw[hv]at hc;have d1:de tmps c=.bool t:=by generalize de tmps c=y at hc;cases hc;rfl
  refine .of_steps (.one (aeb d1)) ?_;cases t with
  |true=>exact push a _ _ ht
  |false=>exact push b _ _ ht
 |block id b=>exact .of_steps (.one aec) (push b _ _ (.cons (.inBlock id) ht))
 |loop b=>exact .of_steps (.one aed) (push b _ _ (.cons (.inLoop b) ht))
 |exit id=>
  show fe C bh f0 _ (kg F fk e todo defs cs h ls (.exit id));simp only[kg];cases hx:exitTo id todo with
  |none=>
   exact LP hk hd he s hm aj (some (.exit id)) (fun _ hj=>absurd rfl (hj id)) (fun b v w' hr I fr' cs' J=>aeC ((LJ ht).2 hx) hr I J)
  |some k'=>
   obtain⟨z8,I,J⟩:=(LJ ht).1 hx;exact go rfl (.one (aef I)) s (.run hk hd he bJ J)
 |ret=>
  show fe C bh f0 _ (kg F fk e todo defs cs h ls .ret);exact LP hk hd he s hm aj (some .ret) (fun hr _=>aeg hr) (fun b v w' hr I fr' cs' J=>aeA hr I J)
 |scope b=>trivial
 |goto l=>trivial
 |refuse y=>trivial
 |rangeFunc f ps a b=>
  simp only[cS];cases jx:ps.toList.all (fun t=>Nat.blt t fk.nt)with
  |false=>trivial
  |true=>exact aeE F hF hN hk hd he bJ ht s hm aj f ps a b jx
theorem aeG {P:Program} {U:AM} {nt:Nat} {ce:List Nat} {j:Option qv} {c:Option Code} (h:K8 j c) {k:List Item} {cQ:List Go.Item} (ht:fL P U nt ce k cQ):fL P U nt ce (Fe j++k) ((c.map Go.Item.code).toList++cQ):=by
 cases j with
 |none=>
  cases c with
  |none=>exact ht
  |some c=>exact h.elim
 |some j=>
  cases j with
  |ret=>
   cases c with
   |none=>exact h.elim
   |some c=>cases c<;>first|exact h.elim|exact .cons (.code .ret) ht
  |exit id=>
   cases c with
   |none=>exact h.elim
   |some c=>
    cases c<;>first|exact h.elim|(have e1:id=_:=h;subst e1;exact .cons (.code (.exit _)) ht)
theorem aeH (dE:Cw C.P) (hF:qS C F) (hN:sP C.P) {fr:Fr} {cs:List Fr} {M:Machine} (hr:Rel C bh f0 fr cs h ls M):fe C bh f0 M (step F fr cs h ls):=by
 obtain⟨U,Λ,w,m,dQ,ccs,rfl,s,hm,pZ,aj⟩:=hr.it;cases pZ with
 | @out fk K e tmps todo bg defs ds md mb hk hd he tD=>
   have eZ:step F ⟨fk,e,todo,defs,md⟩ cs h ls=unwind F ⟨fk,e,todo,defs,md⟩ cs h ls:=by cases tD<;>rfl
   rw[eZ];exact aeq F hF hN hk hd he tD s hm aj
 | @run fk K e tmps todo bg defs ds hk hd he bJ ht=>
   cases ht with
   |nil=>exact LP hk hd he s hm aj none (fun hr _=>aeh hr) (fun b v w' hr I fr' cs' J=>aeB hr I J)
   | @cons i c k cQ hi ht=>
     cases hi with
     |code c=>exact aeF F dE hF hN hk hd he bJ ht s hm aj c
     |inBlock id=>exact⟨_,.one aea,⟨U,Λ,w,m,_,_,rfl,s,hm,.run hk hd he bJ ht,aj⟩⟩
     |inLoop c=>
      obtain⟨dQ,w',I,J,h3⟩:=LL dE (m:=m) (ccs:=ccs) hk hd he bJ c (.inLoop (cS C.P fk.nt (b1 C.P fk.fn) c)::k) (.inLoop c::cQ) w s (.cons (.inLoop c) ht);exact⟨_,.head aee I,⟨U,Λ,w',m,_,_,rfl,J,hm,h3,aj⟩⟩
     |jh l L hl=>trivial
     |nT l L hl=>
      show fe C bh f0 _ (jN F fk e k defs cs h ls (.nT l));simp only[jN];cases hg:h.get l with
      |none=>trivial
      |some b=>
       cases b<;>(try trivial)
       rename_i r;simp only;obtain⟨bn,X,ci,eq,f7,g0,f9,oF,tE,tF,y,rE⟩:=LO s hl hg;have fin:r.state≠.busy→fe C bh f0 (lone (K.fr tmps (.endRangeFunc L.aw::cQ) ds .run) ccs w) (.go ⟨fk,e,Fe r.pending++k,defs,.run⟩ cs (h.put l (.loop {r with state:=.exhausted})) ls):=fun oG=>by
        obtain⟨w',t1,t2,t3⟩:=aez (P:=C.P) ci (by rw[eq];exact oG);have s':=s.w5 (b':=.loop {r with state:=.exhausted}) hl bn hg rfl rfl t2 ⟨_,t3,rfl,f7,g0,f9,oF,tE,tF,y,rE⟩;refine⟨_,.one (step_lone_go (fr':=K.fr tmps ((X.pending.map Go.Item.code).toList++cQ) ds .run) (cs':=ccs) (w':=w') ?_),⟨U,Λ,w',m,_,_,rfl,s',hm,.run hk hd he bJ (aeG f7 ht),aj⟩⟩;simp[stepG,stepG.exec,CK.fr,t1]
       cases HH:r.state with
       |busy=>trivial
       |ready=>exact fin (by rw[HH];simp)
       |done=>exact fin (by rw[HH];simp)
       |exhausted=>exact fin (by rw[HH];simp)
     |begin=>
      show fe C bh f0 _ (jN F fk e k defs cs h ls .begin);simp only[jN];have gO:=hk.round;cases hr:fk.round with
      |none=>trivial
      |some l=>
       rw[hr]at gO;obtain⟨L,hl,gO⟩:=gO;simp only;cases hg:h.get l with
       |none=>trivial
       |some b=>
        cases b<;>(try trivial)
        rename_i r;simp only;cases Dy:r.state<;>(try trivial)
        obtain⟨bn,X,ci,eq,f7,g0,f9,oF,tE,tF,y,rE⟩:=LO s hl hg;obtain⟨w',t1,t2,t3⟩:=aey (P:=C.P) ci (by rw[eq];exact Dy);have s':=s.w5 (b':=.loop {r with state:=.busy}) hl bn hg rfl rfl t2 ⟨_,t3,rfl,f7,g0,f9,oF,tE,tF,y,rE⟩;refine⟨_,.one (step_lone_go (fr':=K.fr tmps cQ ds .run) (cs':=ccs) (w':=w') ?_),⟨U,Λ,w',m,_,_,rfl,s',hm,.run hk hd he bJ ht,aj⟩⟩;simp[stepG,stepG.exec,stepG.apply,CK.fr,gO,t1,Frame.finish]
 | @dc fk K e tmps todo bg defs ds ops chks rs L p hk hd hw hp ha he bJ ht=>
   show fe C bh f0 _ (match gW (chks.map .cf++rs) e h with
    |.fin e h=>.go ⟨fk,e,todo,defs,.run⟩ cs h ls
    |.uF c o rs e h=>uG F fk e o rs todo defs cs h ls c
    |.bad n=>.bad n fk.fn)
   rcases LI (rs:=rs) (e:=e) (h:=h) chks with⟨n,hb⟩|⟨oD,oE⟩
   ·rw[hb];trivial
   ·rw[oE];have cJ:=ad8 (K:=K) (ds:=ds) (k:=bg) (cs:=ccs) (m:=m) hw U Λ h w e tmps s hm bJ he (fun j hj=>(hp j hj).ok oD) ha;cases f5:gW rs e h with
    |bad n=>trivial
    |fin e' h'=>
     rw[f5]at cJ;obtain⟨aA,dh,w',g8,I,J,h3,h4,h5⟩:=cJ;refine⟨_,I,⟨aA,dh,w',m,_,_,rfl,h3,by have:=J.next;omega,.run (hk.mono J.le) (hd.mono J.le) h4 h5 (ht.mono J.le),aj.mono J.le J.bR⟩⟩
    |uF c o hH e' h'=>
     rw[f5]at cJ;rcases cJ with⟨n,rfl⟩|⟨aA,dh,w',g8,i,L',oi,f,I,J,h3,h4,h5,rfl,h7,e0,h8,h9⟩
     ·trivial
     ·exact .of_steps I (aev F hF hN (hk.mono J.le) (hd.mono J.le) h4 (ht.mono J.le) h3 (by have:=J.next;omega) (aj.mono J.le J.bR) h7 h5 h8 h9)
theorem FI (dE:Cw C.P) (hF:qS C F) (hN:sP C.P):∀(n:Nat) {fr:Fr} {cs:List Fr} {h:Hp} {ls:List LE} {M:Machine},Rel C bh f0 fr cs h ls M→fe C bh f0 M (run F n fr cs h ls)
 |0,fr,cs,h,ls,M,hr=>⟨M,.refl _ _,hr⟩
 |n+1,fr,cs,h,ls,M,hr=>by
  have I:=aeH F dE hF hN hr;have h0:run F (n+1) fr cs h ls=Nx.rec (motive:=fun _=>Nx) (fun fr cs h ls=>run F n fr cs h ls) (fun v h=>.done v h) (fun a b=>.bad a b) (step F fr cs h ls):=rfl;rw[h0];cases hs:step F fr cs h ls with
  |go fr' cs' h' pm=>
   rw[hs]at I;obtain⟨M',J,h3⟩:=I;exact .of_steps J (FI dE hF hN n h3)
  |done v h'=>rw[hs]at I;exact I
  |bad a b=>trivial
def Kept (w w':World):Prop:=w.heap.size≤w'.heap.size∧(∀i,i<w.heap.size→w'.heap[i]? =w.heap[i]?)∧w'.os=w.os∧w'.output=w.output
end Go.Ev
namespace Go.Ev
variable{P:Program} {nt:Nat} {ops:Array Oper}
theorem px (s i j:Nat):(Nat.lor s (2^i)).testBit j=true↔s.testBit j=true∨j=i:=by
 show(s|||2^i).testBit j=true↔_;rw[Nat.testBit_or,Nat.testBit_two_pow];simp only[amt,G6];constructor
 ·rintro(h|h)
  ·exact .inl h
  ·exact .inr h.symm
 ·rintro(h|h)
  ·exact .inl h
  ·exact .inr h.symm
theorem LQ (done:Nat) (d:cv):qE done d=true↔∀j,d.pred.testBit j=true→done.testBit j=true:=by
 unfold qE;rw[Nat.beq_eq];show(d.pred&&&done)=d.pred↔_;constructor
 ·intro h j hj;have:(d.pred&&&done).testBit j=true:=by rw[h];exact hj
  rw[Nat.testBit_and,G7]at this;exact this.2
 ·intro h;apply Nat.eq_of_testBit_eq;intro j;rw[Nat.testBit_and];cases hp:d.pred.testBit j with
  |false=>rfl
  |true=>rw[h j hp];(try rfl)
theorem FJ (o:Oper) (j:Nat):(y6 o).testBit j=true↔∃e∈o.after.toList,Region.binds .any e=true∧e.on=j:=by
 unfold y6;have:∀(es:List Edge) (s:Nat),(es.foldl K2 s).testBit j=true↔s.testBit j=true∨∃e∈es,Region.binds .any e=true∧e.on=j:=by
  intro es
  induction es with
  |nil=>intro s;simp
  |cons e es ih=>
   intro s;simp only[aqk,ih,Ro,exists_eq_or_imp];unfold K2;cases hb:Region.binds .any e with
   |false=>simp
   |true=>
    simp only[E7,px,true_and];constructor
    ·rintro((h|h)|h)
     ·exact .inl h
     ·exact .inr (.inl h.symm)
     ·exact .inr (.inr h)
    ·rintro(h|h|h)
     ·exact .inl (.inl h)
     ·exact .inl (.inr h.symm)
     ·exact .inr h
 rw[this];simp
theorem aeI (f2:List Nat) (o:Oper) (j:Nat) (h:(uE f2 o).testBit j=true):∃e∈o.after.toList,Region.binds .any e=true∧(e.on=j∨(f2.getD e.on 0).testBit j=true):=by
 unfold uE at h;have:∀(es:List Edge) (s:Nat),(es.foldl (K3 f2) s).testBit j=true→s.testBit j=true∨∃e∈es,Region.binds .any e=true∧(e.on=j∨(f2.getD e.on 0).testBit j=true):=by
  intro es
  induction es with
  |nil=>intro s hs;exact .inl hs
  |cons e es ih=>
   intro s hs;simp only[aqk]at hs;rcases ih _ hs with I|⟨e',I,J⟩
   ·unfold K3 at I;cases hb:Region.binds .any e with
    |false=>rw[hb]at I;exact .inl I
    |true=>
     rw[hb]at I;simp only[E7]at I;change (s|||(2^e.on|||f2.getD e.on 0)).testBit j=true at I;rw[Nat.testBit_or,Nat.testBit_or,Nat.testBit_two_pow]at I;simp only[amt,G6]at I;rcases I with I|I|I
     ·exact .inl I
     ·exact .inr ⟨e,by simp,hb,.inl I⟩
     ·exact .inr ⟨e,by simp,hb,.inr I⟩
   ·exact .inr ⟨e',by simp[I],J⟩
 rcases this _ 0 h with I|I
 ·simp at I
 ·exact I
theorem LR:∀(r:List Oper) (i:Nat) (f2:List Nat) (k:Nat),(e8 P nt ops r i f2)[k]? =(r[k]?).map fun o=>
 ⟨i+k,o,y6 o,uE (f2++((e8 P nt ops r i f2).take k).map (·.iA)) o,!(nR P nt ops o)⟩
 |[],i,f2,k=>by simp[e8]
 |o::r,i,f2,0=>by simp[e8]
 |o::r,i,f2,k+1=>by
  simp only[e8,apX,List.take_succ_cons,ap3];rw[LR r (i+1) (f2++[uE f2 o]) k];cases r[k]? with
  |none=>rfl
  |some o'=>simp;omega
structure zg (P:Program) (nt:Nat) (ops:Array Oper) (l:List cv):Prop where
 get:∀d∈l,ops[d.i]? =some d.o∧d.pred=y6 d.o∧d.e7=!(nR P nt ops d.o)∧l[d.i]? =some d
 all:∀(i:Nat) o,ops[i]? =some o→∃d∈l,d.i=i∧d.o=o
 iA:∀d∈l,∀j,d.iA.testBit j=true→∃e∈d.o.after.toList,Region.binds .any e=true∧(e.on=j∨∃d'∈l,d'.i=e.on∧d'.i<d.i∧d'.iA.testBit j=true)
theorem aeJ:zg P nt ops (e8 P nt ops ops.toList 0 []):=by
 have hg:=LR (P:=P) (nt:=nt) (ops:=ops) ops.toList 0 [];simp only[ap7,aqa,lb5]at hg;generalize e8 P nt ops ops.toList 0 []=l at hg;have key:∀d∈l,∃o,ops[d.i]? =some o∧l[d.i]? =some d∧d=⟨d.i,o,y6 o,uE ((l.take d.i).map (·.iA)) o,!(nR P nt ops o)⟩:=by
  intro d hd;obtain⟨k,hk⟩:=List.mem_iff_getElem?.1 hd;have:=hg k;rw[hk]at this;cases ho:ops[k]? with
  |none=>rw[ho]at this;simp at this
  |some o=>
   rw[ho]at this;simp only[ap0,E8]at this;have hi:d.i=k:=by rw[this]
   exact⟨o,by rw[hi];exact ho,by rw[hi];exact hk,by rw[hi];exact this⟩
 refine⟨fun d hd=>?_,fun i o ho=>?_,fun d hd j hj=>?_⟩
 ·obtain⟨o,I,J,h3⟩:=key d hd;rw[h3];rw[h3]at J;exact⟨I,rfl,rfl,J⟩
 ·have:=hg i;rw[ho]at this;simp only[ap0]at this;exact⟨_,aqM this,rfl,rfl⟩
 ·obtain⟨o,I,J,h3⟩:=key d hd;have ha:d.iA=uE ((l.take d.i).map (·.iA)) o:=by rw[h3]
  have xW:d.o=o:=by rw[h3]
  rw[ha]at hj;obtain⟨e,q1,q2,q3⟩:=aeI _ _ _ hj;refine⟨e,by rw[xW];exact q1,q2,q3.imp id fun q3=>?_⟩;rw[List.getD_eq_getElem?_getD,aqH,aqt]at q3;split at q3
  ·rename_i ap;cases hl:l[e.on]? with
   |none=>rw[hl]at q3;simp at q3
   |some d'=>
    rw[hl]at q3;simp only[ap0,aqD]at q3;have hm:=aqM hl;obtain⟨o',k1,k2,k3⟩:=key d' hm;have tw:=hg e.on;rw[hl]at tw;have hi:d'.i=e.on:=by
     cases ho:ops[e.on]? with
     |none=>rw[ho]at tw;simp at tw
     |some o''=>rw[ho]at tw;simp only[ap0,E8]at tw;rw[tw]
    exact⟨d',hm,hi,by omega,q3⟩
  ·simp at q3
theorem FL {l:List cv} (hl:zg P nt ops l) {X:Nat→Prop} (hX:∀d∈l,X d.i→∀j,d.pred.testBit j=true→X j):∀(n:Nat) (d:cv),d.i<n→d∈l→(∀j,d.pred.testBit j=true→X j)→
 ∀j,d.iA.testBit j=true→X j
 |0,d,hn,_,_,_,_=>absurd hn (arv _)
 |n+1,d,hn,hd,hp,j,hj=>by
  obtain⟨e,I,J,h3⟩:=hl.iA d hd j hj;have N8:X e.on:=hp e.on (by rw[(hl.get d hd).2.1];exact(FJ _ _).2 ⟨e,I,J,rfl⟩);rcases h3 with rfl|⟨d',k1,k2,k3,k4⟩
  ·exact N8
  ·exact FL hl hX n d' (by omega) k1 (hX d' k1 (by rw[k2];exact N8)) j k4
inductive uQ (ops:Array Oper):Array Bool→List Nat→Prop
 |nil {listed:Array Bool} (h:Region.ready .any ops listed=[]):uQ ops listed []
 |cons {listed:Array Bool} {i:Nat} {L:List Nat} (h:i∈Region.ready .any ops listed) (t:uQ ops (listed.setIfInBounds i true) L):uQ ops listed (i::L)
theorem count_set:∀(l:List Bool) (i:Nat),l[i]? =some false→(l.set i true).count false+1=l.count false
 |[],i,hv=>by simp at hv
 |b::l,0,hv=>by simp at hv;subst hv;simp
 |b::l,i+1,hv=>by
  simp at hv;have:=count_set l i hv;simp only[List.set_cons_succ,List.count_cons];omega
theorem SS {listed:Array Bool} {i:Nat} (h:listed.getD i true=false):(listed.setIfInBounds i true).toList.count false+1=listed.toList.count false:=by
 have ap:i<listed.size:=by
  rcases aqE i listed.size with I|I
  ·exact I
  ·simp[I]at h
 have hv:listed.toList[i]? =some false:=by
  simp[ap]at h⊢;exact h
 rw[Array.toList_setIfInBounds];exact count_set _ _ hv
theorem SU:∀(fuel t:Nat) (listed:Array Bool),listed.toList.count false≤fuel→uQ ops listed (Region.linearise.go .any ops fuel t listed [])
 |0,t,listed,hf=>by
  have h0:Region.ready .any ops listed=[]:=by
   cases hr:Region.ready .any ops listed with
   |nil=>rfl
   |cons i r=>
    have hm:i∈Region.ready .any ops listed:=by rw[hr];simp
    have:=SS (mem_ready.1 hm).1;omega
  simpa[Region.linearise.go]using uQ.nil h0
 |fuel+1,t,listed,hf=>by
  simp only[Region.linearise.go];change uQ ops listed (match(Region.ready .any ops listed)[t%(Region.ready .any ops listed).length]? with
   |some i=>Region.linearise.go .any ops fuel (t/(Region.ready .any ops listed).length) (listed.setIfInBounds i true) [i]
   |none=>[].reverse)
  cases hi:(Region.ready .any ops listed)[t%(Region.ready .any ops listed).length]? with
  |none=>
   have Ah:Region.ready .any ops listed=[]:=by
    cases hr:Region.ready .any ops listed with
    |nil=>rfl
    |cons x xs=>
     rw[hr]at hi;have ap:t%(x::xs).length<(x::xs).length:=Nat.mod_lt _ (by simp);simp at hi;simp at ap;omega
   exact .nil Ah
  |some i=>
   simp only[];rw[linearise_go_acc,List.reverse_singleton,List.singleton_append];have hm:=aqM hi;have:=SS (mem_ready.1 hm).1;exact .cons hm (SU fuel _ _ (by omega))
theorem LS {p:cv→Bool}:∀{l:List cv},lr p l=none→∀x∈l,p x=false
 |[],_,x,hx=>by cases hx
 |d::l,h,x,hx=>by
  simp only[lr]at h;cases hd:p d with
  |true=>simp[hd]at h
  |false=>
   simp only[hd,KL]at h;cases ht:lr p l with
   |some q=>obtain⟨y,r⟩:=q;simp[ht]at h
   |none=>
    cases hx with
    |head=>exact hd
    |tail _ hx=>exact LS ht x hx
theorem LU {p:cv→Bool}:∀{l:List cv} {d:cv} {r:List cv},lr p l=some (d,r)→p d=true∧(∀x,x∈l↔x=d∨x∈r)∧r.length+1=l.length∧
 ((l.map (·.i)).Nodup→d.i∉r.map (·.i)∧(r.map (·.i)).Nodup)
 |[],d,r,h=>by simp[lr]at h
 |y::l,d,r,h=>by
  simp only[lr]at h;cases hy:p y with
  |true=>
   simp only[hy,E7,E8,apW]at h;obtain⟨rfl,rfl⟩:=h;exact⟨hy,fun x=>by simp,rfl,fun hn=>by simpa using hn⟩
  |false=>
   simp only[hy,KL]at h;cases ht:lr p l with
   |none=>simp[ht]at h
   |some q=>
    obtain⟨z,r'⟩:=q;simp only[ht,E8,apW]at h;obtain⟨rfl,rfl⟩:=h;obtain⟨I,J,h3,h4⟩:=LU ht;refine⟨I,fun x=>?_,by simp[h3],fun hn=>?_⟩
    ·simp only[Ro,J x];constructor
     ·rintro(h|h|h)
      ·exact .inr (.inl h)
      ·exact .inl h
      ·exact .inr (.inr h)
     ·rintro(h|h|h)
      ·exact .inr (.inl h)
      ·exact .inl h
      ·exact .inr (.inr h)
    ·simp only[ap3,List.nodup_cons]at hn⊢;obtain⟨k1,k2⟩:=h4 hn.2;refine⟨?_,?_,k2⟩
     ·simp only[Ro,not_or];refine⟨fun e=>hn.1 (arf.2 ⟨z,(J z).2 (.inl rfl),e⟩),k1⟩
     ·intro hm;obtain⟨x,hx,HI⟩:=arf.1 hm;exact hn.1 (arf.2 ⟨x,(J x).2 (.inr hx),HI⟩)
def eh (listed:Array Bool) (i:Nat):Prop:=listed.getD i true=true
structure Inv (P:Program) (nt:Nat) (ops:Array Oper) (l:List cv) (done:Nat) (dO rem:List cv) (listed:Array Bool):Prop where
 size:listed.size=ops.size
 part:∀d∈l,(d∈dO∧done.testBit d.i=true)∨(d∈rem∧done.testBit d.i=false)
 pl:∀d∈dO,d∈l
 rl:∀d∈rem,d∈l
 FM:(rem.map (·.i)).Nodup
 CA:∀d∈rem,done.testBit d.i=false
 sd:∀i,i<ops.size→eh listed i→done.testBit i=true
 e7:∀d∈dO,d.e7=true→eh listed d.i
 sc:∀d∈l,eh listed d.i→∀j,d.pred.testBit j=true→eh listed j
 sK:∀d∈dO,∀j,d.pred.testBit j=true→done.testBit j=true
structure xd (P:Program) (nt:Nat) (ops:Array Oper) (l:List cv):Prop where
 ok:zg P nt ops l
 LV:∀d∈l,∀j,d.pred.testBit j=true→j<d.i
 self:∀d∈l,d.e7=false→∀t,d.o.dst=some t→t∉eF ops d.o
 pair:∀x∈l,∀y∈l,x.i≠y.i→∀t,x.o.dst=some t→y.o.dst≠some t∧(x.e7=false→t∈eF ops y.o→y.iA.testBit x.i=true)
def kB (done:Nat) (listed:Array Bool) (j:Nat):Prop:=done.testBit j=true∧listed.getD j true=false
theorem FN {l:List Nat} {t:Nat}:wY l t=true↔t∈l:=by
 unfold wY;rw[List.any_eq_true];constructor
 ·rintro⟨u,I,J⟩;have:=apY J;subst this;exact I
 ·intro h;exact⟨t,h,arz t⟩
theorem aeK {l:List cv} (hl:zg P nt ops l) (h:y7 ops l=true):xd P nt ops l:=by
 unfold y7 at h;rw[ap6]at h;refine⟨hl,fun d hd j hj=>?_,fun d hd he t ht hn=>?_,fun x hx y hy bx t ht=>?_⟩
 ·have:=h d hd;simp only[G7]at this;have I:=this.1;unfold Ry at I;rw[ap6]at I;rw[(hl.get d hd).2.1,FJ]at hj;obtain⟨e,k1,k2,rfl⟩:=hj;have:=I e k1;rw[k2]at this;simp only[aqR,aqu]at this;exact aqB (aqy _) (ap5 this)
 ·have:=h d hd;simp only[G7]at this;have I:=this.2.1;unfold Rx at I;rw[ht]at I;simp only[he,aqu,apH]at I;have:=FN.2 hn;rw[I]at this;cases this
 ·have:=h x hx;simp only[G7]at this;have I:=this.2.2;rw[ap6]at I;have J:=I y hy;have hb:Nat.beq x.i y.i=false:=by
   cases hb:Nat.beq x.i y.i with
   |false=>rfl
   |true=>exact absurd (apY hb) bx
  rw[hb]at J;simp only[aqu]at J;unfold Rw at J;rw[ht]at J;simp only[G7,apH]at J;obtain⟨h3,h4⟩:=J;refine⟨fun e=>?_,fun he hn=>?_⟩
  ·unfold Rv at h3;rw[e]at h3;simp at h3
  ·rw[he,FN.2 hn]at h4;simpa using h4
theorem SX {listed:Array Bool} {i:Nat} (h:listed.getD i true=false):i<listed.size:=by
 rcases aqE i listed.size with I|I
 ·exact I
 ·simp[I]at h
theorem mM {listed:Array Bool} {i j:Nat}:eh (listed.setIfInBounds i true) j↔eh listed j∨j=i:=by
 unfold eh;by_cases dr:i=j
 ·subst dr;constructor
  ·intro _;exact .inr rfl
  ·intro _;rcases aqE i listed.size with I|I
   ·simp[I]
   ·simp[I]
 ·rw[getD_set_ne true dr];exact⟨.inl,fun h=>h.resolve_right (fun e=>dr e.symm)⟩
theorem mN {listed:Array Bool} {i:Nat}:listed.getD i true=false↔¬eh listed i:=by
 unfold eh;cases listed.getD i true<;>simp
theorem FO {l:List cv} (hs:xd P nt ops l) {listed:Array Bool} (bJ:listed.size=ops.size) (h:Region.ready .any ops listed=[]):∀(n i:Nat),i<n→i<ops.size→eh listed i
 |0,i,hn,_=>absurd hn (arv _)
 |n+1,i,hn,hi=>by
  by_cases hL:eh listed i
  ·exact hL
  ·exfalso;have hm:i∈Region.ready .any ops listed:=by
    rw[mem_ready];refine⟨mN.2 hL,ops[i],by simp[hi],fun e he hb=>?_⟩;obtain⟨d,hd,rfl,xW⟩:=hs.ok.all i ops[i] (by simp[hi]);have oI:d.pred.testBit e.on=true:=by
     rw[(hs.ok.get d hd).2.1,FJ,xW];exact⟨e,by simpa using he,hb,rfl⟩
    have ap:=hs.LV d hd _ oI;have:=FO hs bJ h n e.on (by omega) (by omega);unfold eh at this;have J:e.on<listed.size:=by omega
    simp[J]at this⊢;exact this
   rw[h]at hm;cases hm
theorem FP {l:List cv} (hs:xd P nt ops l) {listed:Array Bool} (bJ:listed.size=ops.size) {i:Nat} (h:i∈Region.ready .any ops listed):
 ∃d∈l,d.i=i∧ops[i]? =some d.o∧¬eh listed i∧∀j,d.pred.testBit j=true→eh listed j∧j<ops.size:=by
 obtain⟨I,o,J,h3⟩:=mem_ready.1 h;obtain⟨d,hd,hi,xW⟩:=hs.ok.all i o J;refine⟨d,hd,hi,by rw[xW];exact J,mN.1 I,fun j hj=>?_⟩;have ap:=hs.LV d hd j hj;have i2:=(lb1.1 J).1;rw[(hs.ok.get d hd).2.1,FJ,xW]at hj;obtain⟨e,k1,k2,rfl⟩:=hj;have:=h3 e (by simpa using k1) k2;have tG:e.on<listed.size:=by omega
 refine⟨?_,by omega⟩;unfold eh;simp[tG]at this⊢;exact this
end Go.Ev
namespace Go.Ev
variable{P:Program} {nt:Nat} {ops:Array Oper} {l:List cv}
theorem zg.uniq (hl:zg P nt ops l) {x y:cv} (hx:x∈l) (hy:y∈l) (h:x.i=y.i):x=y:=by
 have I:=(hl.get x hx).2.2.2;have J:=(hl.get y hy).2.2.2;rw[h,J]at I;exact(arO I).symm
theorem FQ {done:Nat} {dO rem:List cv} {listed:Array Bool} (hs:xd P nt ops l) (hi:Inv P nt ops l done dO rem listed) {j:Nat} {oj:Oper} (hp:kB done listed j) (hj:ops[j]? =some oj):
 ∃x∈dO,x∈l∧x.i=j∧x.o=oj∧x.e7=false:=by
 obtain⟨x,I,J,h3⟩:=hs.ok.all j oj hj;rcases hi.part x I with⟨k1,k2⟩|⟨k1,k2⟩
 ·refine⟨x,k1,I,J,h3,?_⟩;cases he:x.e7 with
  |false=>rfl
  |true=>
   have:=hi.e7 x k1 he;rw[J]at this;exact absurd this (mN.1 hp.2)
 ·rw[J,hp.1]at k2;cases k2
theorem SY {done:Nat} {dO rem:List cv} {listed:Array Bool} (hs:xd P nt ops l) (hi:Inv P nt ops l done dO rem listed) {d:cv} (hd:d∈l) (Ai:∀j,d.pred.testBit j=true→eh listed j)
 {j:Nat} {oj:Oper} {t:Nat} (hp:kB done listed j) (hj:ops[j]? =some oj) (ht:oj.dst=some t) (bx:j≠d.i):t∉eF ops d.o∧d.o.dst≠some t∧d.iA.testBit j=false:=by
 obtain⟨x,I,J,h3,h4,h5⟩:=FQ hs hi hp hj;have Dz:d.iA.testBit j=false:=by
  cases ha:d.iA.testBit j with
  |false=>rfl
  |true=>exact absurd (FL hs.ok (X:=eh listed) hi.sc (d.i+1) d (aqy _) hd Ai j ha) (mN.1 hp.2)
 obtain⟨p1,p2⟩:=hs.pair x J d hd (by rw[h3];exact bx) t (by rw[h4];exact ht);refine⟨fun hn=>?_,p1,Dz⟩;have:=p2 h5 hn;rw[h3,Dz]at this;cases this
theorem Inv.fill {done:Nat} {dO rem:List cv} {listed:Array Bool} (hs:xd P nt ops l) (hi:Inv P nt ops l done dO rem listed) {i:Nat} (hr:i∈Region.ready .any ops listed) (hd:done.testBit i=true):
 Inv P nt ops l done dO rem (listed.setIfInBounds i true):=by
 obtain⟨d,I,J,h3,h4,h5⟩:=FP hs hi.size hr;refine⟨by simp[hi.size],hi.part,hi.pl,hi.rl,hi.FM,hi.CA,fun j hj hL=>?_,fun x hx he=>mM.2 (.inl (hi.e7 x hx he)),fun x hx hL j hj=>?_,hi.sK⟩
 ·rcases mM.1 hL with h|rfl
  ·exact hi.sd j hj h
  ·exact hd
 ·rcases mM.1 hL with h|h
  ·exact mM.2 (.inl (hi.sc x hx h j hj))
  ·have:=hs.ok.uniq hx I (by rw[h,J]);subst this;exact mM.2 (.inl (h5 j hj).1)
theorem SZ (x:cv):∀(dO:List cv),∃tH:List (RO al),wZ P nt ops x dO=tH.map .cf∧
 ∀y∈dO,y.e7=false→x.iA.testBit y.i=false→ga P nt ops y.o∈tH∨(ke y.o.op=false∧∀d,x.o.dst=some d→d∉eF ops y.o)
 |[]=>⟨[],rfl,fun y hy=>by cases hy⟩
 |z::r=>by
  obtain⟨tH,I,J⟩:=SZ x r;simp only[wZ];cases he:z.e7 with
  |true=>
   refine⟨tH,I,fun y hy rF i0=>?_⟩;cases hy with
   |head=>rw[he]at rF;cases rF
   |tail _ hy=>exact J y hy rF i0
  |false=>
   simp only[KL];cases ha:x.iA.testBit z.i with
   |true=>
    refine⟨tH,I,fun y hy rF i0=>?_⟩;cases hy with
    |head=>rw[ha]at i0;cases i0
    |tail _ hy=>exact J y hy rF i0
   |false=>
    simp only[KL];cases hb:(ke z.o.op||(match x.o.dst with|some d=>wY (eF ops z.o) d|none=>false))with
    |true=>
     refine⟨ga P nt ops z.o::tH,by simp[I],fun y hy rF i0=>?_⟩;cases hy with
     |head=>exact .inl (by simp)
     |tail _ hy=>exact(J y hy rF i0).imp (fun h=>by simp[h]) id
    |false=>
     refine⟨tH,I,fun y hy rF i0=>?_⟩;cases hy with
     |head=>
      simp only[W0]at hb;refine .inr ⟨hb.1,fun d hd hn=>?_⟩;have:=hb.2;rw[hd]at this;simp only at this;rw[FN.2 hn]at this;cases this
     |tail _ hy=>exact J y hy rF i0
theorem aeL {o:Oper} (h:nR P nt ops o=true):∃d,o.dst=some d:=by
 unfold nR at h;split at h
 ·cases h
 ·split at h
  ·split at h
   ·exact⟨_,by assumption⟩
   ·cases h
  ·split at h
   ·exact⟨_,by assumption⟩
   ·cases h
  ·cases h
  ·cases h
theorem Inv.next {done:Nat} {dO rem kw:List cv} {listed:Array Bool} (hi:Inv P nt ops l done dO rem listed) {d:cv} (fW:d∈l) (i9:qE done d=true) (Ae:∀x,x∈rem↔x=d∨x∈kw)
 (pW:d.i∉kw.map (·.i)∧(kw.map (·.i)).Nodup) {vD:Array Bool} (bJ:vD.size=ops.size) (I:∀j,eh listed j→eh vD j) (J:∀j,j<ops.size→eh vD j→eh listed j∨j=d.i)
 (h3:d.e7=true→eh vD d.i) (h4:∀x∈l,eh vD x.i→∀j,x.pred.testBit j=true→eh vD j):Inv P nt ops l (Nat.lor done (2^d.i)) (d::dO) kw vD:=by
 refine⟨bJ,fun x hx=>?_,fun x hx=>?_,fun x hx=>hi.rl x ((Ae x).2 (.inr hx)),pW.2,fun x hx=>?_,fun i ap hL=>?_,fun x hx he=>?_,h4,fun x hx j hj=>?_⟩
 ·rcases hi.part x hx with⟨k1,k2⟩|⟨k1,k2⟩
  ·exact .inl ⟨by simp[k1],(px _ _ _).2 (.inl k2)⟩
  ·rcases(Ae x).1 k1 with rfl|k3
   ·exact .inl ⟨by simp,(px _ _ _).2 (.inr rfl)⟩
   ·refine .inr ⟨k3,?_⟩;rw[aqO];intro hb;rcases(px _ _ _).1 hb with h|h
    ·rw[k2]at h;cases h
    ·exact pW.1 (arf.2 ⟨x,k3,h⟩)
 ·cases hx with
  |head=>exact fW
  |tail _ hx=>exact hi.pl x hx
 ·rw[aqO];intro hb;rcases(px _ _ _).1 hb with h|h
  ·rw[hi.CA x ((Ae x).2 (.inr hx))]at h;cases h
  ·exact pW.1 (arf.2 ⟨x,hx,h⟩)
 ·rcases J i ap hL with h|rfl
  ·exact(px _ _ _).2 (.inl (hi.sd i ap h))
  ·exact(px _ _ _).2 (.inr rfl)
 ·cases hx with
  |head=>exact h3 he
  |tail _ hx=>exact I _ (hi.e7 x hx he)
 ·cases hx with
  |head=>exact(px _ _ _).2 (.inl ((LQ _ _).1 i9 j hj))
  |tail _ hx=>exact(px _ _ _).2 (.inl (hi.sK x hx j hj))
theorem aeM {A:Nat→Prop} (hs:xd P nt ops l) (oJ:∀d∈l,d.e7=false→∀t,d.o.dst=some t→A t):∀(N f done:Nat) (dO rem:List cv) (listed:Array Bool) (L:List Nat),rem.length+L.length≤N→rem.length≤f→Inv P nt ops l done dO rem listed→uQ ops listed L→
 jk P nt ops A (qF P nt ops f done dO rem) L (kB done listed):=by
 intro N
 induction N with
 |zero=>
  intro f done dO rem listed L hN hf hi hL;have hr:rem=[]:=ap8 (by omega);have hl:L=[]:=ap8 (by omega);subst hr;subst hl;cases hL with
  |nil h=>
   have:qF P nt ops f done dO []=[]:=by cases f<;>simp[qF,lr]
   rw[this];refine .done fun j hp=>?_;have ap:=SX hp.2;rw[hi.size]at ap;exact mN.1 hp.2 (FO hs hi.size h (j+1) j (aqy _) ap)
 |succ N ih=>
  intro f done dO rem listed L hN hf hi hL;have fill:∀i L',L=i::L'→i∈Region.ready .any ops listed→uQ ops (listed.setIfInBounds i true) L'→done.testBit i=true→jk P nt ops A (qF P nt ops f done dO rem) (i::L') (kB done listed):=by
   intro i L' XR hr xX hd;subst XR;obtain⟨d,I,J,h3,h4,h5⟩:=FP hs hi.size hr;have hp:kB done listed i:=⟨hd,mN.2 h4⟩
   obtain⟨x,DA,x2,Aj,N9,Oa⟩:=FQ hs hi hp h3;have HJ:x=d:=hs.ok.uniq x2 I (by rw[Aj,J]);subst HJ;refine .fill (q:=kB done (listed.setIfInBounds i true)) i x.o h3 hp (fun j oj t hj g9 ht=>?_) (fun j=>?_) (ih f done dO rem _ L' (by simp at hN;omega) hf (hi.fill hs hr hd) xX)
   ·by_cases vz:j=i
    ·subst vz;rw[h3]at g9;cases g9;exact hs.self x I Oa t ht
    ·exact(SY hs hi I (fun j hj=>(h5 j hj).1) hj g9 ht (by rw[J];exact vz)).1
   ·unfold kB;rw[mN,mN,mM];constructor
    ·rintro⟨q1,q2⟩;exact⟨fun e=>q2 (.inr e),q1,fun h=>q2 (.inl h)⟩
    ·rintro⟨q1,q2,q3⟩;exact⟨q2,fun h=>h.elim q3 q1⟩
  cases rem with
  |nil=>
   have eK:∀i o,ops[i]? =some o→done.testBit i=true:=fun i o ho=>by
    obtain⟨d,I,J,h3⟩:=hs.ok.all i o ho;rcases hi.part d I with⟨_,k⟩|⟨k,_⟩
    ·rw[←J];exact k
    ·cases k
   cases hL with
   |nil h=>
    have:qF P nt ops f done dO []=[]:=by cases f<;>simp[qF,lr]
    rw[this];refine .done fun j hp=>?_;have ap:=SX hp.2;rw[hi.size]at ap;exact mN.1 hp.2 (FO hs hi.size h (j+1) j (aqy _) ap)
   | @cons _ i L' hr xX=>
     obtain⟨d,I,J,h3,h4,h5⟩:=FP hs hi.size hr;exact fill i L' rfl hr xX (eK i d.o h3)
  |cons r0 rest=>
   generalize Oc:r0::rest=rem at hi hN hf fill;have bx:rem≠[]:=by rw[←Oc];simp
   cases f with
   |zero=>exact absurd (ap8 (by omega)) bx
   |succ f=>
    simp only[qF]at fill⊢;cases HK:lr (fun d=>!d.e7&&qE done d) rem with
    |some q=>
     obtain⟨d,kw⟩:=q;simp only;obtain⟨t1,t2,t3,t4⟩:=LU HK;simp only[G7,apH]at t1;have me:d∈rem:=(t2 d).2 (.inl rfl);have fW:=hi.rl d me;obtain⟨o1,o2,p3,p4⟩:=hs.ok.get d fW;have tt:nR P nt ops d.o=true:=by rw[t1.1]at p3;simpa using p3.symm
     obtain⟨t,ht⟩:=aeL tt;have oI:done.testBit d.i=false:=hi.CA d me;have ap:d.i<ops.size:=(lb1.1 o1).1;have d2:¬eh listed d.i:=fun h=>by have:=hi.sd d.i ap h;rw[oI]at this;cases this
     refine .ghost (q:=kB (Nat.lor done (2^d.i)) listed) d.i t d.o o1 tt ht (hs.self d fW t1.1 t ht) (oJ d fW t1.1 t ht) (fun h=>by rw[h.1]at oI;cases oI) (fun j oj hj g9=>?_) (fun j=>?_)
      (ih f _ _ kw listed L (by omega) (by omega) (hi.next fW t1.2 t2 (t4 hi.FM) hi.size (fun _ h=>h) (fun _ _ h=>.inl h) (fun h=>by rw[t1.1]at h;cases h) hi.sc) hL)
     ·obtain⟨x,DA,x2,Aj,N9,Oa⟩:=FQ hs hi hj g9;have XS:d.i≠x.i:=fun e=>by rw[Aj]at e;have I:=hj.1;rw[←e,oI]at I;cases I
      obtain⟨p1,p2⟩:=hs.pair d fW x x2 XS t ht;rw[N9]at p1 p2;refine⟨p1,fun hn=>?_⟩;have ha:=p2 t1.1 hn;have:=FL hs.ok (X:=fun i=>done.testBit i=true) (fun y hy hb j hj=>by
       rcases hi.part y hy with⟨k1,_⟩|⟨_,k2⟩
       ·exact hi.sK y k1 j hj
       ·rw[hb]at k2;cases k2) (x.i+1) x (aqy _) x2 (hi.sK x DA) d.i ha
      rw[oI]at this;cases this
     ·unfold kB;rw[px];constructor
      ·rintro⟨I|I,J⟩
       ·exact .inr ⟨I,J⟩
       ·exact .inl I
      ·rintro(rfl|⟨I,J⟩)
       ·exact⟨.inr rfl,mN.2 d2⟩
       ·exact⟨.inl I,J⟩
    |none=>
     simp only[HK]at fill;simp only;have W2:=LS HK;cases i3:lr (qE done) rem with
     |none=>
      exfalso;have XT:=LS i3;have none:∀(n:Nat) (d:cv),d.i<n→d∈rem→False:=by
       intro n
       induction n with
       |zero=>intro d hn;exact absurd hn (arv _)
       |succ n XU=>
        intro d hn hd;have fW:=hi.rl d hd;have i9:qE done d=true:=(LQ _ _).2 fun j hj=>by
         have ap:=hs.LV d fW j hj;have N2:=(lb1.1 (hs.ok.get d fW).1).1;have XV:j<ops.size:=by omega
         obtain⟨y,y1,y2,Ak⟩:=hs.ok.all j ops[j] (by simp[XV]);rcases hi.part y y1 with⟨_,k⟩|⟨k,_⟩
         ·rw[←y2];exact k
         ·exact(XU y (by omega) k).elim
        rw[XT d hd]at i9;cases i9
      exact none (r0.i+1) r0 (aqy _) (by rw[←Oc];simp)
     |some q=>
      obtain⟨d,kw⟩:=q;simp only[i3]at fill;simp only;obtain⟨t1,t2,t3,t4⟩:=LU i3;cases HL:kw.any (qE done)with
      |true=>simp only[E7];exact .stop 26 none
      |false=>
       simp only[HL,KL]at fill;simp only[KL];have me:d∈rem:=(t2 d).2 (.inl rfl);have fW:=hi.rl d me;obtain⟨o1,o2,p3,p4⟩:=hs.ok.get d fW;have ap:d.i<ops.size:=(lb1.1 o1).1;have oI:done.testBit d.i=false:=hi.CA d me;have d2:¬eh listed d.i:=fun h=>by have:=hi.sd d.i ap h;rw[oI]at this;cases this
       cases hL with
       |nil h=>exact absurd (FO hs hi.size h (d.i+1) d.i (aqy _) ap) d2
       | @cons _ i L' hr xX=>
         cases rG:done.testBit i with
         |true=>exact fill i L' rfl hr xX rG
         |false=>
          obtain⟨x,I,J,h3,h4,h5⟩:=FP hs hi.size hr;have HM:x∈rem:=by
           rcases hi.part x I with⟨_,k⟩|⟨k,_⟩
           ·rw[J,rG]at k;cases k
           ·exact k
          have HJ:x=d:=by
           rcases(t2 x).1 HM with h|h
           ·exact h
           ·rw[List.any_eq_false]at HL;exact absurd ((LQ _ _).2 fun j hj=>hi.sd j (h5 j hj).2 (h5 j hj).1) (HL x h)
          subst HJ;subst J;obtain⟨tH,fK,jw⟩:=SZ (P:=P) (nt:=nt) (ops:=ops) x dO;rw[fK];have hp:kB (Nat.lor done (2^x.i)) (listed.setIfInBounds x.i true)=kB done listed:=by
           funext j;apply propext;unfold kB;rw[px,mN,mN,mM];constructor
           ·rintro⟨q1,q2⟩;have bx:j≠x.i:=fun e=>q2 (.inr e);exact⟨q1.resolve_right bx,fun h=>q2 (.inl h)⟩
           ·rintro⟨q1,q2⟩;refine⟨.inl q1,fun h=>h.elim q2 fun e=>?_⟩;rw[e,oI]at q1;cases q1
          have Ai:∀j,x.pred.testBit j=true→eh listed j:=fun j hj=>(h5 j hj).1;have bx:∀j,kB done listed j→j≠x.i:=fun j hj e=>by have I:=hj.1;rw[e,oI]at I;cases I
          refine .e7 x.i x.o h3 (fun j oj t hj g9 ht=>?_) (fun j oj hj g9=>?_) ?_
          ·obtain⟨n1,n2,_⟩:=SY hs hi I Ai hj g9 ht (bx j hj);exact⟨n1,n2⟩
          ·obtain⟨y,y1,y2,Ak,Oe,Of⟩:=FQ hs hi hj g9;have Dz:x.iA.testBit y.i=false:=by
            cases ha:x.iA.testBit y.i with
            |false=>rfl
            |true=>
             rw[Ak]at ha;exact absurd (FL hs.ok (X:=eh listed) hi.sc (x.i+1) x (aqy _) I Ai j ha) (mN.1 hj.2)
           rw[←Oe];exact jw y y1 Of Dz
          ·rw[←hp];refine ih f _ _ kw _ L' (by simp at hN;omega) (by omega) (hi.next fW t1 t2 (t4 hi.FM) (by simp[hi.size]) (fun _ h=>mM.2 (.inl h)) (fun _ _ h=>mM.1 h) (fun _=>mM.2 (.inr rfl)) ?_) xX;intro y hy XW j hj;rcases mM.1 XW with h|h
           ·exact mM.2 (.inl (hi.sc y hy h j hj))
           ·have:=hs.ok.uniq hy I h;subst this;exact mM.2 (.inl (Ai j hj))
theorem LW (P:Program):Cw P:=by
 intro nt ce ops rs t hd;unfold drawn at hd;cases hb:(P.follows .mixedOrders&&(y7 ops (e8 P nt ops ops.toList 0 [])&&Cg ce (e8 P nt ops ops.toList 0 [])))with
 |false=>rw[hb]at hd;cases hd
 |true=>
  rw[hb]at hd;simp only[E7]at hd;cases hd;simp only[G7]at hb;have rB:∀d∈e8 P nt ops ops.toList 0 [],d.e7=false→∀t,d.o.dst=some t→t∉ce:=fun d hd he t ht hm=>by
   have I:=hb.2.2;unfold Cg at I;rw[ap6]at I;have J:=I d hd;rw[he,ht]at J;simp only[aqu]at J;rw[FN.2 hm]at J;cases J
  have HN:=aeJ (P:=P) (nt:=nt) (ops:=ops);have hs:=aeK HN hb.2.1;have hlen:(e8 P nt ops ops.toList 0 []).length=ops.size:=by
   have:∀(r:List Oper) (i:Nat) (a:List Nat),(e8 P nt ops r i a).length=r.length:=by
    intro r
    induction r with
    |nil=>intro i a;rfl
    |cons o r ih=>intro i a;simp[e8,ih]
   rw[this];simp
  have Og:(e8 P nt ops ops.toList 0 []).map (·.i)=List.range ops.size:=by
   apply aro;intro k;rw[aqH,LR,lb5];rcases aqE k ops.size with h|h
   ·simp[h]
   ·simp[h]
  have Oh:∀j,¬eh (Array.replicate ops.size false) j∨ops.size≤j:=fun j=>by
   rcases aqE j ops.size with h|h
   ·left;unfold eh;simp[h]
   ·exact .inr h
  generalize e8 P nt ops ops.toList 0 []=l at HN hs hlen Og rB;have ap:∀d∈l,d.i<ops.size:=fun d hd=>(lb1.1 (HN.get d hd).1).1;have hinv:Inv P nt ops l 0 [] l (Array.replicate ops.size false):=by
   exact{size:=by simp,part:=fun d hd=>.inr ⟨hd,by simp⟩,pl:=fun d hd=>(by cases hd),rl:=fun d hd=>hd,FM:=by rw[Og];exact List.nodup_range,CA:=fun d _=>by simp,
         sd:=fun i hi hL=>absurd hL ((Oh i).resolve_right (by omega)),e7:=fun d hd=>(by cases hd),
         sc:=fun d hd hL=>absurd hL ((Oh d.i).resolve_right (by have:=ap d hd;omega)),sK:=fun d hd=>(by cases hd)}
  have hw:=aeM (A:=fun t=>t∉ce) hs rB (l.length+(Region.linearise .any ops t).length) ops.size 0 [] l (Array.replicate ops.size false) (Region.linearise .any ops t) (B5 _) (by omega) hinv
   (SU ops.size t _ (by simp))
  have hp:kB 0 (Array.replicate ops.size false)=fun _=>False:=by
   funext j;apply propext;unfold kB;simp
  rw[hp]at hw;unfold Region.schedule;rw[hb.1];simpa using hw
end Go.Ev
namespace Go.Ev
def xe (P:Program):Bool:=P.funcs.toList.all fun fn=>fn.body.isNone||!(fn.name== "runtime.NumGoroutine")
theorem LX {P:Program} (h:xe P=true):sP P:=by
 intro f fn c hf hb;unfold xe at h;rw[ap6]at h;have:=h fn (by simpa using Array.mem_of_getElem? hf);rw[hb]at this;simpa using this
end Go.Ev
namespace Go.Ev
variable{C:Cx} {ls:List LE} {bh:List Frame} {f0:Nat} {U:AM} {Λ:Pa→Prop} {h h':Hp} {w:World}
structure aeN where
 fr:Fr
 cs:List Fr
 h:Hp
 ls:List LE
end Go.Ev
namespace Go.Ev
end Go.Ev
namespace Go.Ev
noncomputable section
def LY:Nat→List (RS al)→List (RS al)
 |0,l=>l
 |n+1,l=>match l with
  |[]=>[]
  |_::l=>LY n l
end
noncomputable def FR (P:Program) (f:Nat):aeN:=
 match e9 P f with
 |some fn=>⟨enter fn f [] false,[],jO,[]⟩
 |none=>⟨⟨⟨f,0,false,none⟩,.E,[],[],.run⟩,[],jO,[]⟩
noncomputable def FT (P:Program) (f:Nat):Bool:=
 match e9 P f with
 |some _=>true
 |none=>false
end Go.Ev
namespace Go.Ev
open Go.RowKit (Below)
variable{C:Cx} {ls:List LE} {U:AM} {Λ:Pa→Prop} {h:Hp} {w:World}
theorem aP.below {w':World} (s:aP C U Λ h ls w) (d3:C.sd=false) (hb:Below w.heap.size w w'):aP C U Λ h ls w' where
 ia:=s.ia
 aw:=fun a L ha bn=>let⟨b,I,J⟩:=s.aw a L ha bn;⟨b,I,J.mono (AM.le_refl U) (fun _ _ h=>h) (hb.block _ (s.lt ha bn))⟩
 inj:=s.inj
 live:=s.live
 wr:=s.wr
 low:=fun i hi=>by rw[hb.block i (aqB hi s.size)];exact s.low i hi
 size:=aqb s.size hb.size
 still:=s.still.RF d3 ⟨hb.os,hb.output⟩
 fresh:=s.fresh
 jj:=s.jj
theorem S0 (l:List UInt8):∀n,uI l n=Go.Lib.repeatL l n
 |0=>rfl
 |n+1=>by rw[uI,Go.Lib.repeatL,S0 l n]
theorem aeO {P:Program} {f:Nat} (hc:∀(s:ByteArray) (c:Nat) (w:World),c≤9223372036854775807→s.size*c≤140737488355328→
 Calls P f #[.string s,.int .i64 c] w fun e w'=>e=.returned (.string ⟨(Go.Lib.repeatL s.data.toList c).toArray⟩)∧Below w.heap.size w w'):zf P f ji:=by
 intro C U Λ h ls w args cE v h' jX d3 s ha hg;cases ha with
 |nil=>cases hg
 |cons x XX r HO hx hr=>
  cases hx<;>simp only[ji]at hg<;>(try(cases hg;done))
  rename_i b;cases hr with
  |nil=>cases hg
  |cons y XY r HO hy hr=>
   cases hr with
   |cons=>cases hg
   |nil=>
    cases hy<;>simp only at hg<;>(try(cases hg;done))
    rename_i k i;cases k<;>simp only at hg<;>(try(cases hg;done))
    cases i with
    |negSucc n=>cases hg
    |ofNat n=>
     simp only at hg;cases I:Nat.ble n 9223372036854775807 with
     |false=>rw[I]at hg;cases hg
     |true=>
      cases J:Nat.ble (Nat.mul b.data.toList.length n) 140737488355328 with
      |false=>rw[I,J]at hg;cases hg
      |true=>
       rw[I,J]at hg;simp only[E7,E8,apW]at hg;obtain⟨rfl,rfl⟩:=hg;have h3:b.size*n≤140737488355328:=by
        have:=ap5 J;have e1:b.data.toList.length=b.size:=Array.length_toList;rw[e1]at this;exact this
       refine(hc b n w (ap5 I) h3).mono fun e w' hh=>?_;obtain⟨rfl,hb⟩:=hh;refine⟨_,U,Λ,rfl,AM.le_refl U,s.below d3 hb,?_,fun a I J=>absurd I J,B5 _⟩;rw[S0];exact VR.str (U:=U) (⟨(Go.Lib.repeatL b.data.toList n).toArray⟩:ByteArray)
theorem S3 {P:Program}:∀(l:List (Nat×(List V→Hp→Option (V×Hp)))),(∀p∈l,FT P p.1=true∧zf P p.1 p.2)→sQ P (uJ P l)
 |[],_=>LN P
 |p::r,hl=>by
  have ih:=S3 r fun q hq=>hl q (amI _ hq);obtain⟨I,J⟩:=hl p (by simp);have he:∀i,uJ P (p::r) i=bif Nat.beq p.1 i then some (.c7 p.2)else uJ P r i:=fun _=>rfl
  refine⟨fun f i hf=>?_,fun f g hf=>?_⟩
  ·rw[he]at hf;cases hb:Nat.beq p.1 f with
   |true=>simp[hb]at hf
   |false=>simp only[hb,KL]at hf;exact ih.code f i hf
  ·rw[he]at hf;cases hb:Nat.beq p.1 f with
   |true=>
    have:=apY hb;subst this;simp only[hb,E7,E8,aN.c7.injEq]at hf;subst hf;refine⟨?_,J⟩;unfold FT at I;split at I
    ·rename_i fn Ab;exact⟨fn,Ab⟩
    ·cases I
   |false=>simp only[hb,KL]at hf;exact ih.c7 f g hf
end Go.Ev
namespace Go.Ev
variable{C:Cx} {ls:List LE} {U:AM} {Λ:Pa→Prop} {h:Hp} {w:World}
theorem aP.aeP (s:aP C U Λ h ls w) {a:Pa} {L:Loc} (ha:U a=some L) {o n:Nat} {l:List V} (hl:h.cl a o n=some l):
 ∃cs:List Value,cs.length=n∧bd U l cs∧∀(j:Nat) (c:Value),cs[j]? =some c→w.cell? ⟨L.aw,L.base+o+j,none⟩=some c:=by
 unfold bm.cl at hl;cases hc:h.cells a with
 |none=>simp[hc]at hl
 |some m=>
  simp only[hc,qI]at hl;obtain⟨I,J⟩:=w3 hl;have zQ:=s.cells ha hc;have hlen:l.length=n:=by rw[J];simp at I⊢;omega
  have bE:∀(i:Nat) (v:V),l[i]? =some v→∃c,w.cell? ⟨L.aw,L.base+o+i,none⟩=some c∧VR U v c:=by
   intro i v hv;rw[J,aqt]at hv;split at hv
   ·rw[aqi]at hv;obtain⟨c,k1,k2⟩:=zQ _ _ hv;exact⟨c,by rw[aqf];exact k1,k2⟩
   ·cases hv
  have:∀(m:List V) (o':Nat),(∀(i:Nat) (v:V),m[i]? =some v→∃c,w.cell? ⟨L.aw,o'+i,none⟩=some c∧VR U v c)→
   ∃cs:List Value,cs.length=m.length∧bd U m cs∧∀(j:Nat) (c:Value),cs[j]? =some c→w.cell? ⟨L.aw,o'+j,none⟩=some c:=by
   intro m
   induction m with
   |nil=>intro o' _;exact⟨[],rfl,.nil,fun j c hj=>by simp at hj⟩
   |cons v m ih=>
    intro o' hm;obtain⟨c,k1,k2⟩:=hm 0 v (by simp);obtain⟨cs,k3,k4,k5⟩:=ih (o'+1) (fun i u hu=>by
     obtain⟨d,e1,e2⟩:=hm (i+1) u (by simpa using hu);exact⟨d,by rw[show o'+1+i=o'+(i+1)from by omega];exact e1,e2⟩)
    refine⟨c::cs,by simp[k3],.cons _ _ _ _ k2 k4,fun j d hd=>?_⟩;cases j with
    |zero=>simp at hd;subst hd;simpa using k1
    |succ j=>simp at hd;rw[show o'+(j+1)=o'+1+j from by omega];exact k5 j d hd
  obtain⟨cs,k1,k2,k3⟩:=this l (L.base+o) bE;exact⟨cs,by rw[k1,hlen],k2,k3⟩
end Go.Ev
namespace Go.Ev
variable{C:Cx} {ls:List LE} {U:AM} {Λ:Pa→Prop} {h:Hp} {w:World}
theorem aP.aeQ (s:aP C U Λ h ls w) {a:Pa} {L:Loc} {l:List V} (ha:U a=some L) (hg:h.get a=some (.cells l false)):
 Λ a∧∃cs el fr,w.heap[L.aw]? =some (.cells cs el fr)∧cs.size=L.top∧quietAt cs.size fr∧po U l cs L.base∧K9 L.eb fr:=by
 have bn:Λ a:=by
  rcases s.live a L _ ha hg with I|⟨m,I⟩
  ·exact I
  ·cases I
 obtain⟨b',I,J⟩:=s.aw a L ha bn;rw[hg]at I;cases I;exact⟨bn,J⟩
theorem zh {U:Type} {n:Nat} {l:List U} (h:n≤l.length):takeN n l=some (l.take n):=by
 induction n generalizing l with
 |zero=>cases l<;>simp[takeN]
 |succ n ih=>cases l with
  |nil=>simp at h
  |cons a l=>simp only[takeN];rw[ih (by simpa using h)];simp
theorem S4 {a:Pa} {o n:Nat} {m:List V} (hc:h.cells a=some m) (hn:o+n≤m.length):h.cl a o n=some ((m.drop o).take n):=by
 unfold bm.cl;simp only[hc,qI];exact zh (by rw[Rn];omega)
end Go.Ev
namespace Go.Ev
open Go.RowKit (Below)
variable{C:Cx} {ls:List LE} {U:AM} {Λ:Pa→Prop} {h:Hp} {w:World}
end Go.Ev
