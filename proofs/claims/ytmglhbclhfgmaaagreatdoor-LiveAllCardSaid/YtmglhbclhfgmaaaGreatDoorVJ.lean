/- A part of the proof of glacislaw13.LiveAll (made short by a program). -/
import Derived.Test.YtmglhbclhfgmaaaGreatDoorVI
set_option maxHeartbeats 1000000
namespace Go.Ev
variable{F:Nat→Option aN} {O:Fz}
def MP (x:Option bD):dn:=(x.map (·.r)).getD ⟨1,0,0,0,0⟩
theorem ajD {l:List bD} {t:an} (h:bL t=true):lV l t=fi l ⟨MP (kK l 1 0),t⟩:=by unfold lV MP;rw[B4 h]
theorem UR {l:List bD} {k i:Int} {x:bD} (h:kK l k i=some x):x∈l:=arG h
theorem US [Fx F] {cs:List V} {v:aW} {Eu:V} {t:an} (hv:bZ O cs v) (di:v.trees.length≤1000000) (hu:aa aH O Eu t) (hb:bN t):
 ai F 78 [.agg cs,Eu] O [] (fun r ψ R=>R=[]∧∃cs',r=.agg cs'∧bZ ψ cs' {v with trees:=lV v.trees t}) never:=by
 obtain⟨lv,wv,tv,rfl,hl,hw,ht,sl,sw,st,hd⟩:=hv.open;have hus:=hu.av;refine au ?_;refine S.box fun a2=>?_;refine S.alloc fun a4=>?_;refine S.ak (Gy hu hb) ?_;refine S.un ?_;refine C.B (fun eN=>?_) fun eN=>?_
 ·have e:lV v.trees t=v.trees:=by unfold lV;rw[pg (by intro h;rw[h]at eN;cases eN)]
  rw[e];refine S.af 1 ?_;refine S.store 0 ?_;exact⟨_,.cN 0 rfl rfl rfl rfl .nil,.none ⟨rfl,_,rfl,GI hl hw ht⟩⟩
 ·have hm:bL t=true:=by simpa using eN
  rw[ajD hm];refine S.af 1 ?_;refine S.call (GH (kind:=1) (id:=0) hv di) fun oO nr DT p8 c0=>?_;obtain⟨rfl,rfl,w,rfl,dP,cw⟩:=c0;have uo:=w.2.2;obtain⟨X,hX⟩:∃X,X=kK v.trees 1 0:=⟨_,rfl⟩
  rw[←hX]at dP cw⊢;refine S.alloc fun a5=>?_;refine S.store (v:=.agg (fC.f w)) 0 ?_ (hs:=fC.sc w);refine S.un ?_;refine SW.then (fun E ψ R=>nr=ψ∧∃r0:dn,r0=MP X∧R=[(some a5,.cells [.j r0.kind,.j r0.id,.j r0.dx,.j r0.base,.j r0.done,w.2.1] false),(some a4,.cells [.no .sl,.no .sl,.j 0,.bool false,.j 0,.j 0,.j 0,.j 0,.j 0,.j 0,.j 0,.no .sl] false),(some a2,.cells [lv,wv,.j v.d.arm,.bool v.d.down,.j v.seq,.j v.sum,.j v.aU,.j v.pos,.j v.n,.j v.next,.j v.id,tv] false)]∧Sub [(1,Eu),(2,.ptr a2 0),(4,.ptr a4 0),(5,.ptr a5 0)] E) ?_ ?_
  ·refine C.B (fun d4=>?_) fun d4=>?_
   ·refine S.build ?_;refine S.store 0 ?_;refine⟨rfl,⟨1,0,0,0,0⟩,?_,rfl,.r rfl⟩;cases X with
    |none=>rfl
    |some x=>simp at d4
   ·refine⟨rfl,w.1,?_,rfl,.r rfl⟩;rw[dP];cases X with
    |none=>simp at d4
    |some x=>rfl
  intro E ψ R ac hM;obtain⟨rfl,r0,Bt,rfl,hE⟩:=hM;refine C.sub hE ?_;refine S.af 2 ?_;refine S.af 0 ?_ (l:=[.j r0.kind,.j r0.id,.j r0.dx,.j r0.base,.j r0.done]);refine S.build ?_;rw[←Bt];refine S.call (UQ (h:=⟨r0,t⟩) (ht:=⟨Eu,hus⟩) hv di hu) fun v25 AW AX t6 fF=>?_;obtain⟨rfl,cs',rfl,Bp⟩:=fF;obtain⟨lx,wx,xv,rfl,sj,uq,hx,mB,mC,Jj,Jk⟩:=Bp.open;refine S.store (v:=.agg (be lx wx xv {v with trees:=fi v.trees ⟨r0,t⟩})) 1 ?_ (hs:=cT mB mC Jj);exact⟨_,.cN 1 rfl rfl rfl rfl .nil,.none ⟨rfl,_,rfl,Bp⟩⟩
theorem ajE [Fx F] {cs:List V} {v:aW} (hv:bZ O cs v) (di:v.trees.length≤1000000):
 ai F 218 [.agg cs] O [] (fun r ψ R=>R=[]∧aa dW ψ r (zF v.trees)) never:=by
 obtain⟨lv,wv,tv,rfl,hl,hw,ht,sl,sw,st,hd⟩:=hv.open;obtain⟨hs,hf,hr⟩:=ht;have gQ:=hr.len;refine au ?_;refine S.box fun bs=>?_;refine SW.new dW ?_;refine SW.bG (fun m E ψ R=>∃(j:Nat) (out:List dn) (u:V) (s:Option Pa),j+m=v.trees.length∧out++zF (v.trees.drop j)=zF v.trees∧out.length≤j∧O=ψ∧R=[dW.ob s out,(some bs,.cells [lv,wv,.j v.d.arm,.bool v.d.down,.j v.seq,.j v.sum,.j v.aU,.j v.pos,.j v.n,.j v.next,.j v.id,tv] false)]∧ae dW u out s∧Sub [(1,.ptr bs 0),(3,u),(4,.j (j:Int))] E) (m:=v.trees.length) (.done ⟨0,[],.no .sl,none,by omega,rfl,by simp,rfl,rfl,ae.nil,.r rfl⟩) ?_;intro m0 E ψ R ac hI;obtain⟨j,out,u,s,e5,ab,dC,rfl,rfl,ho,hE⟩:=hI;refine C.sub hE ?_;refine S.ld 1 ?_;refine S.len ?_ (hl:=aa.len hf);refine S.bin ?_;refine C.D (fun eN=>?_) fun eN=>?_
 ·have hj:j<v.trees.length:=by omega
  rw[Rm hj]at ab;simp only[zF,ars]at ab;obtain⟨w,gT⟩:∃w,w=hs[j]:=⟨_,rfl⟩
  have q1:=(hr.at (i:=j) (by omega) hj).1;rw[←gT]at q1;have uo:=w.2.2;refine S.ld 1 ?_;refine S.aF hf (j:=j) (by omega) fun DO tT=>?_;rw[←gT]at tT;refine S.bl tT fun DQ vP=>?_;refine S.bl vP fun p17 e17=>?_;refine S.aX ?_;refine S.bin ?_;refine C.D (fun cG=>?_) fun cG=>?_
  ·rw[q1]at cG;rw[B4 (by rw[cG];(try rfl)),ap3]at ab;refine S.ld 1 ?_;refine S.aF hf (j:=j) (by omega) fun vK nq=>?_;rw[←gT]at nq;refine S.bl nq fun DJ x0=>?_;refine S.bP ?_ (l:=dW.f w.1);refine S.a8 (l:=dW.f w.1) (sd:=dW.f w.1) (fun Ec=>?_) (d3:=dW.sc w.1) (hs:=dW.sc w.1);refine S.bu (m:=[w.1]) 1 ho (.lit 0) (by simp;omega) fun nE IM IN=>?_;refine S.drop 0 ?_;refine S.mv ?_;refine S.bin ?_;exact⟨m0-1,by omega,.done ⟨j+1,out++[w.1],nE,IM,by omega,by rw[KK,q1];exact ab,by simp;omega,rfl,rfl,IN,.r rfl⟩⟩
  ·rw[q1]at cG;rw[pg (by simpa using cG)]at ab;refine S.bin ?_;exact⟨m0-1,by omega,.done ⟨j+1,out,u,s,by omega,ab,by omega,rfl,rfl,ho,.r rfl⟩⟩
 ·obtain rfl:j=v.trees.length:=by omega
  rw[WV]at ab;change out++[]=_ at ab;rw[ap9]at ab;rw[←ab];exact⟨_,.t rfl .nil,.bR 0 rfl ho fun o4 la rW=>.none ⟨rfl,rW⟩⟩
theorem ajF [Fx F] {cs:List V} {v:aW} (hv:bZ O cs v) (di:v.trees.length≤1000000):
 bk F 179 [.agg cs] O (.j ((zF v.trees).length:Nat)):=by
 obtain⟨lv,wv,tv,rfl,hl,hw,ht,sl,sw,st,hd⟩:=hv.open;refine ai.ak (au ?_);refine S.box fun bs=>?_;refine S.af 0 ?_;refine S.call (ajE hv di) fun v4 ψ4 aar aas h4=>?_;obtain⟨rfl,hq⟩:=h4;refine S.len ?_ (hl:=aa.len hq);refine⟨_,.t rfl .nil,.done ?_⟩;rfl
theorem MQ [Fx F] {cs ds:List V} {v:aW} {d:ay} (hv:bZ O cs v) (hd:cP O ds d):
 ai F 70 [.agg cs,.agg ds] O [] (fun r ψ R=>R=[]∧∃cs',r=.aM [.agg cs',.j 11]∧bZ ψ cs' {v with d:=d}) never:=by
 obtain⟨lv,wv,tv,rfl,hl,hw,ht,sl,sw,st,_⟩:=hv.open;obtain⟨lx,wx,rfl,sj,uq,mB,mC⟩:=hd.open;refine au ?_;refine S.box fun a2=>?_;refine S.box fun a3=>?_;refine S.alloc fun a4=>?_;refine S.af 1 ?_;refine S.store 2 ?_;refine S.af 2 ?_;refine S.store 0 ?_;exact⟨_,.cN 0 rfl rfl rfl rfl (.t rfl .nil),.none ⟨rfl,_,rfl,lx,wx,tv,rfl,sj,uq,ht⟩⟩
end Go.Ev
namespace Go.Ev
def alike (x y:aV):Bool:=decide (y.kind=x.kind)&&decide (y.load=x.load)
def zG (x:aV):List (ag×aV)→Option ag
 |[]=>none
 |q::l=>if alike x q.2 then some q.1 else zG x l
def newAt (x:aV):Int→List aV→Option Int
 |_,[]=>none
 |i,y::l=>if alike x y then some i else newAt x (i+1) l
structure jt where
 new:List aV
 bad:Bool
def iX (aD:List (ag×aV)) (gen fr:Int) (s:jt) (x:aV):ag×jt:=match zG x aD with
 |some p=>(p,s)
 |none=>match newAt x fr s.new with
  |some a=>(⟨a,gen⟩,s)
  |none=>(⟨fr+s.new.length,gen⟩,⟨s.new++[x],s.bad||(decide (fr+s.new.length>65535)||decide (fr+s.new.length<0))⟩)
def fQ (aD:List (ag×aV)) (gen fr:Int):jt→List aV→List ag×jt
 |s,[]=>([],s)
 |s,x::l=>
         let a:=iX aD gen fr s x
         let b:=fQ aD gen fr a.2 l
         (a.1::b.1,b.2)
def vc (aD:List (ag×aV)) (gen fr:Int) (s:jt) (h:bD):Option (ag×jt):=
 if bL h.t then
  let a:=fQ aD gen fr s ((cn h.t).map (im gen))
  let b:=fQ aD gen fr a.2 (iW gen ((cn h.t).zip a.1))
  if fA gen h.r b.1=hG then none else some (iX aD gen fr b.2 (fA gen h.r b.1))
 else none
def te (aD:List (ag×aV)) (gen fr:Int):jt→List bD→List ag→Option (jt×List ag)
 |s,[],roots=>some (s,roots)
 |s,h::l,roots=>match vc aD gen fr s h with
  |none=>none
  |some (p,s')=>te aD gen fr s' l (roots++[p])
def rh (d:ay) (lo hi:Int) (p:ag):Option (ag×aV):=match b7 d p.addr p.gen with
 |none=>none
 |some x=>if p.addr<lo∨p.addr≥hi then some (p,x)else none
def GJ (d:ay) (sum lo hi:Int):List (ag×aV):=((blocks d sum).getD []).filterMap (rh d lo hi)
def lay (d:ay) (sum gen fr lo hi:Int) (trees:List bD):Option (List aV×List ag):=
 if 7<trees.length∨gg gen=false∨fr<0 then none
 else match te (GJ d sum lo hi) gen fr ⟨[],false⟩ trees []with
  |none=>none
  |some (s,roots)=>if s.bad then none else some (s.new,roots)
end Go.Ev
set_option maxHeartbeats 1000000
namespace Go.Ev
variable{F:Nat→Option aN} {O:Fz}
def ajG (a:Pa) (rv ov wv:V) (gen fr:Int) (s:jt) (R:List Ob):Prop:=∃nv sn,R=[(some a,.cells [nv,rv,ov,wv,.j gen,.j fr,.bool s.bad] false),bw.ob sn s.new]∧ae bw nv s.new sn
theorem MR [Fx F] {a:Pa} {nv rv ov wv:V} {sn:Option Pa} {gen fr:Int} {aD:List (ag×aV)} {s:jt} {x:aV} (ho:ae bw nv s.new sn) (wF:aa aq O ov (aD.map (·.1))) (yC:aa bw O wv (aD.map (·.2))) (dC:aD.length≤1000000) (d2:s.new.length≤1000000) (oC:0≤fr) (hf1:fr≤1000000000000):
 ai F 114 [.ptr a 0,.agg [.j x.kind,.j x.gen,.str x.load]] O [(some a,.cells [nv,rv,ov,wv,.j gen,.j fr,.bool s.bad] false),bw.ob sn s.new] (fun r ψ R=>ψ=O∧r=.agg (aq.f (iX aD gen fr s x).1)∧ajG a rv ov wv gen fr (iX aD gen fr s x).2 R) never:=by
 have PV:=wF.av;have ZH:=yC.av;have hns:=ho.av;refine ai.same (au ?_);refine S.box fun a3=>?_;refine S.alloc fun a4=>?_;refine SW.bG (fun m E ψ R=>∃j:Nat,j+m=aD.length∧zG x (aD.drop j)=zG x aD∧O=ψ∧R=[(some a4,.cells [.j 0,.j 0] false),(some a3,.cells [.j x.kind,.j x.gen,.str x.load] false),(some a,.cells [nv,rv,ov,wv,.j gen,.j fr,.bool s.bad] false),bw.ob sn s.new]∧Sub [(0,.ptr a 0),(3,.ptr a3 0),(4,.ptr a4 0),(5,.j (j:Int))] E) (m:=aD.length) (.done ⟨0,by omega,rfl,rfl,rfl,.r rfl⟩) ?_;intro m0 E ψ R ac hI;obtain⟨j,e5,ab,rfl,rfl,hE⟩:=hI;refine C.sub hE ?_;refine S.ld 2 ?_;refine S.len ?_ (hl:=aa.len wF);refine S.bin ?_;refine C.D (fun dG=>?_) fun dG=>?_
 ·rw[apZ]at dG;have hj:j<aD.length:=by omega
  obtain⟨q,hq⟩:∃q,q=aD[j]:=⟨_,rfl⟩
  rw[Rm hj,←hq]at ab;simp only[zG]at ab;have hg2:(aD.map (·.2))[j]? =some q.2:=by rw[aqH,KJ hj,hq];(try rfl)
  refine S.ld 2 ?_;refine S.aF yC (j:=j) (by simpa using hj) fun xZ oM=>?_;rw[aqX,←hq]at oM;refine S.bl oM fun oN j4=>?_;refine S.aX ?_;refine S.ld 1 ?_;refine S.bin ?_;refine G.mv ?_;refine G.nil? ?_;refine G.aE ?_;refine G.ld 2 ?_;refine G.mv ?_;refine G.aF yC (j:=j) (z:=q.2) fun yk tY=>?_;refine G.bl tY fun DK DL=>?_;refine G.aX ?_;refine G.aE ?_;refine G.ld 1 ?_;refine G.bin ?_;refine G.and ?_;refine C.B (fun nG=>?_) fun nG=>?_
  ·change alike x q.2=true at nG;rw[B4 nG]at ab;have e:iX aD gen fr s x=(q.1,s):=by unfold iX;rw[←ab]
   rw[e];refine S.ld 2 ?_;refine S.aF wF (j:=j) (by simpa using hj) fun p46 e46=>?_;rw[aqX,←hq]at e46;refine S.bP ?_;refine S.store (v:=.agg (aq.f q.1)) 0 ?_ (hs:=aq.sc q.1);exact⟨_,.cN 0 rfl rfl rfl rfl .nil,.drop 0 (.drop 0 (.done ⟨rfl,nv,sn,rfl,ho⟩))⟩
  ·change alike x q.2=false at nG;rw[pg (by rw[nG];simp)]at ab;refine S.bin ?_;exact⟨m0-1,by omega,.done ⟨j+1,by omega,ab,rfl,rfl,.r rfl⟩⟩
 ·rw[apZ]at dG;obtain rfl:j=aD.length:=by omega
  rw[WV]at ab;simp only[zG]at ab;refine SW.bG (fun m E ψ R=>∃i:Nat,i+m=s.new.length∧newAt x (fr+i) (s.new.drop i)=newAt x fr s.new∧O=ψ∧R=[(some a4,.cells [.j 0,.j 0] false),(some a3,.cells [.j x.kind,.j x.gen,.str x.load] false),(some a,.cells [nv,rv,ov,wv,.j gen,.j fr,.bool s.bad] false),bw.ob sn s.new]∧Sub [(0,.ptr a 0),(3,.ptr a3 0),(4,.ptr a4 0),(6,.j (i:Int))] E) (m:=s.new.length) (.done ⟨0,by omega,by rw[aqY,show fr+((0:Nat):Int)=fr by omega],rfl,rfl,.r rfl⟩) ?_;intro m2 E ψ R ac hI;obtain⟨i,Bk,pb,rfl,rfl,hE⟩:=hI;refine C.sub hE ?_;refine S.ld 2 ?_;refine S.len ?_ (hl:=ae.len ho);refine S.bin ?_;refine C.D (fun vW=>?_) fun vW=>?_
  ·have hi:i<s.new.length:=by omega
   rw[Rm hi]at pb;simp only[newAt]at pb;refine S.ld 2 ?_;refine S.cX ho hi fun a64 h64=>?_;subst h64;refine S.aE ?_;refine S.fM (e:=bw) (l:=s.new) (j:=i) 0 3 ?_;refine S.ld 1 ?_;refine S.bin ?_;refine G.mv ?_;refine G.nil? ?_;refine G.aE ?_;refine G.aE ?_;refine G.ld 2 ?_;refine G.mv ?_;refine G.cX ho hi fun a77 h77=>?_;cases h77;refine G.aE ?_;refine G.fM (j2:=bw) (l:=s.new) (j:=i) 2 3 ?_;refine G.aE ?_;refine G.ld 1 ?_;refine G.bin ?_;refine G.and ?_;refine C.B (fun sa=>?_) fun sa=>?_
   ·change alike x s.new[i]=true at sa;rw[B4 sa]at pb;have e:iX aD gen fr s x=(⟨fr+i,gen⟩,s):=by unfold iX;rw[←ab];simp only;rw[←pb]
    rw[e];refine S.ld 2 ?_;refine S.bin ?_;refine S.ld 2 ?_;refine S.build ?_;refine S.store 0 ?_;exact⟨_,.cN 0 rfl rfl rfl rfl .nil,.drop 0 (.drop 0 (.done ⟨rfl,nv,_,rfl,ho⟩))⟩
   ·change alike x s.new[i]=false at sa;rw[pg (by rw[sa];simp),show fr+(i:Int)+1=fr+((i+1:Nat):Int) by omega]at pb;refine S.bin ?_;exact⟨m2-1,by omega,.done ⟨i+1,by omega,pb,rfl,rfl,.r rfl⟩⟩
  ·obtain rfl:i=s.new.length:=by omega
   rw[WV]at pb;simp only[newAt]at pb;have e:iX aD gen fr s x=(⟨fr+s.new.length,gen⟩,⟨s.new++[x],s.bad||(decide (fr+s.new.length>65535)||decide (fr+s.new.length<0))⟩):=by unfold iX;rw[←ab];simp only;rw[←pb]
   rw[e];have Jl:((s.new++[x]).length:Int)=(s.new.length:Int)+1:=by simp
   refine S.ld 2 ?_;refine S.af 1 ?_;refine S.a8 fun anS=>?_;refine S.bu (m:=[x]) 4 ho (.lit 0) (by simp;omega) fun A6 D8 yp=>?_;refine S.drop 0 ?_;have anT:=yp.av;refine S.nil? ?_;refine S.hK 2 ?_;refine S.ld 2 ?_;refine S.ld 2 ?_;refine S.len ?_ (hl:=ae.len yp);refine S.bin ?_;refine S.bin ?_ (v:=.j (fr+(s.new.length:Int))) (hv:=by rw[ig (by omega) (by omega),Jl,show fr+((s.new.length:Int)+1)-1=fr+(s.new.length:Int) by omega]);refine S.bin ?_;refine G.mv ?_;refine G.bin ?_;refine G.or ?_;refine SW.then (fun E ψ R=>∃b:Bool,b=(s.bad||(decide (fr+s.new.length>65535)||decide (fr+s.new.length<0)))∧O=ψ∧R=[(some a4,.cells [.j 0,.j 0] false),(some a3,.cells [.j x.kind,.j x.gen,.str x.load] false),(some a,.cells [A6,rv,ov,wv,.j gen,.j fr,.bool b] false),bw.ob D8 (s.new++[x])]∧Sub [(0,.ptr a 0),(4,.ptr a4 0),(7,.j (fr+(s.new.length:Int)))] E) ?_ ?_
   ·refine C.B (fun Bu=>?_) fun Bu=>?_
    ·refine S.store 2 ?_;exact⟨true,by change (decide (fr+(s.new.length:Int)>65535)||decide (fr+(s.new.length:Int)<0))=true at Bu;rw[Bu];simp,rfl,rfl,.r rfl⟩
    ·exact⟨s.bad,by change (decide (fr+(s.new.length:Int)>65535)||decide (fr+(s.new.length:Int)<0))=false at Bu;rw[Bu];simp,rfl,rfl,.r rfl⟩
   intro E ψ R ac hM;obtain⟨b,hb,rfl,rfl,hE⟩:=hM;refine C.sub hE ?_;refine S.ld 2 ?_;refine S.build ?_;refine S.store 0 ?_;rw[←hb];exact⟨_,.cN 0 rfl rfl rfl rfl .nil,.drop 0 (.drop 0 (.done ⟨rfl,A6,D8,rfl,yp⟩))⟩
end Go.Ev
namespace Go.Ev
theorem SW.front {F:Nat→Option aN} {K:KX} {E:Env} {O:Fz} {R:List Ob} {Q:bB} {c:IC al} (i:Nat) {o:Ob} (hn:SW F K c E O (o::R.eraseIdx i) Q) (hi:R[i]? =some o:=by rfl):SW F K c E O R Q:=fun W h sh=>hn W h (by simpa using sh.front hi)
theorem Fin.front {O:Fz} {R:List Ob} {P:Fz→List Ob→Prop} (i:Nat) {o:Ob} (hi:R[i]? =some o) (hn:Fin O (o::R.eraseIdx i) P):Fin O R P:=fun W h sh=>hn W h (by simpa using sh.front hi)
namespace S
variable{F:Nat→Option aN} {K:KX} {E:Env} {O:Fz} {R:List Ob} {Q:bB} {rs:List Op} {d:Nat} {g:Option (Pa×Bool)}
theorem front (i:Nat) {o:Ob} (hn:SA F K rs E O (o::R.eraseIdx i) Q) (hi:R[i]? =some o:=by rfl):SR F K (Op.aI rs) E O R Q:=fun W h sh=>S.r hn W h (by simpa using sh.front hi)
theorem MS [gd K] {n:Nat} {xs:List Od} {vs:List V} {Rt:V→Fz→List Ob→Prop} (k:Nat) (hc:ai F n vs O (R.take k) Rt never) (hn:∀v ψ O',O.Le ψ→Rt v ψ O'→SA F K rs ((d,v)::E) ψ (O'++R.drop k) Q) (hx:kD E xs=some vs:=by rfl) (hw:az E g .yes:=by first|exact .none|exact .yes rfl):
 SR F K (.op ⟨some (pa d),aC n xs,g⟩::Op.aI rs) E O R Q:=fun W h sh=>by
 rcases hc (R.drop k++W) h (by rw[←KK,aqA];exact sh)with⟨v,h',I,ψ,O',J,h3,h4⟩|⟨_,_,_,_,_,_,_,h⟩
 ·exact WR.up J (ad.call hw (nV hx) I (S.r (hn v ψ O' J h4) W h' (by rw[KK];exact h3)))
 ·exact h.elim
end S
theorem ajH (k g k' g':Int) (l l':List UInt8):cg .eql (.agg [(0,.i),(1,.i),(2,.s)]) (.agg [.int .i64 k,.int .i64 g,.str l]) (.agg [.int .i64 k',.int .i64 g',.str l'])=some (.bool (decide (k=k'∧g=g'∧l=l'))):=by
 show(pj [V.int .i64 k,.int .i64 g,.str l] [.int .i64 k',.int .i64 g',.str l'] [(0,.i),(1,.i),(2,.s)]).map V.bool=_;have hk:cW .i64 .i64=true:=rfl;have n0:∀(a b c:V),nth [a,b,c] 0=some a:=fun _ _ _=>rfl;have n1:∀(a b c:V),nth [a,b,c] 1=some b:=fun _ _ _=>rfl;have n2:∀(a b c:V),nth [a,b,c] 2=some c:=fun _ _ _=>rfl;simp only[pj,n0,n1,n2,fq,hk,E7,ki,qL];by_cases I:k=k'
 ·have e1:(k==k')=true:=by simpa using I
  by_cases J:g=g'
  ·have e2:(g==g')=true:=by simpa using J
   by_cases h3:l=l'
   ·have e3:(l==l')=true:=by simpa using h3
    rw[e1,e2,e3];simp[I,J,h3]
   ·have e3:(l==l')=false:=by simpa using h3
    rw[e1,e2,e3];simp[h3]
  ·have e2:(g==g')=false:=by simpa using J
   rw[e1,e2];simp[J]
 ·have e1:(k==k')=false:=by simpa using I
  rw[e1];simp[I]
theorem eqB (a b:aV):cg .eql (.agg [(0,.i),(1,.i),(2,.s)]) (.agg (bw.f a)) (.agg (bw.f b))=some (.bool (decide (a=b))):=by
 have h:=ajH a.kind a.gen b.kind b.gen a.load b.load;rw[show decide (a=b)=decide (a.kind=b.kind∧a.gen=b.gen∧a.load=b.load)from decide_eq_decide.2 (T8 a b)];exact h
end Go.Ev
set_option maxHeartbeats 16000000
namespace Go.Ev
variable{F:Nat→Option aN} {O:Fz}
theorem CZ (aD:List (ag×aV)) (gen fr:Int) (s:jt) (x:aV):(iX aD gen fr s x).2.new.length≤s.new.length+1:=by
 unfold iX;split
 ·simp
 ·split<;>simp
theorem GK (gen:Int):∀(f:Nat) (l:List b2),(iV gen f l).length≤f
 |0,_=>B5 _
 |f+1,[]=>amu _
 |f+1,a::l=>by have:=GK gen f ((a::l).drop 6);simp only[iV,WW];omega
theorem MT [Fx F] {cs:List V} {d:ay} {sum gen fr lo hi:Int} {tv:V} {trees:List bD} (hd:cP O cs d) (cL:d.wait.length≤1000000) (ht:js O tv trees) (dE:∀h∈trees,bN h.t∧(cn h.t).length≤1000) (pZ:fr≤1000000000000):
 ai F 69 [.agg cs,.j sum,.j gen,.j fr,.j lo,.j hi,tv] O [] (fun r ψ R=>R=[]∧∃nv rv,r=.aM [.agg [nv,rv],.bool (lay d sum gen fr lo hi trees).isSome]∧aa bw ψ nv ((lay d sum gen fr lo hi trees).getD ([],[])).1∧aa aq ψ rv ((lay d sum gen fr lo hi trees).getD ([],[])).2) never:=by
 obtain⟨lv,Ew,rfl,hl,hw,sl,sw⟩:=hd.open;obtain⟨hs,hf,hr⟩:=ht;have gQ:=hr.len;obtain⟨L,hL⟩:∃L,L=(blocks d sum).getD []:=⟨_,rfl⟩
 have Jc:L.length≤2360:=by
  cases hb:blocks d sum with
  |none=>rw[hL,hb];simp
  |some l=>rw[hL,hb];exact GD hb
 refine au ?_;refine S.box fun c1=>?_;refine S.alloc fun nD=>?_;refine S.len ?_ (hl:=aa.len hf);refine S.bin ?_;refine G.mv ?_;refine G.ak (fun _=>od) ?_;refine G.un ?_;refine G.or ?_;refine G.mv ?_;refine G.bin ?_;refine G.or ?_;refine C.B (fun jH=>?_) fun jH=>?_
 ·have e:lay d sum gen fr lo hi trees=none:=by
   unfold lay;rw[B4];rw[gQ]at jH;simp only[amt,G6,apH]at jH;rcases jH with(h|h)|h
   ·exact .inl (by omega)
   ·exact .inr (.inl h)
   ·exact .inr (.inr h)
  rw[e];refine S.build ?_;refine S.store 0 ?_;exact⟨_,.cN 0 rfl rfl rfl rfl (.t rfl .nil),.none ⟨rfl,_,_,rfl,aa.nil _,aa.nil _⟩⟩
 ·rw[gQ]at jH;simp only[W0,NI,apR]at jH;obtain⟨⟨ht7,pb⟩,oC⟩:=jH;have el:lay d sum gen fr lo hi trees=(match te (GJ d sum lo hi) gen fr ⟨[],false⟩ trees []with|none=>none|some (s,roots)=>if s.bad then none else some (s.new,roots)):=by
   unfold lay;refine pg ?_;rintro(h|h|h)
   ·omega
   ·rw[pb]at h;cases h
   ·omega
  refine S.build ?_;refine S.box fun a46=>?_;refine S.af 2 ?_;refine S.call (MG hd cL) fun v50 D3 It t7 oV=>?_;obtain⟨rfl,pv,rfl,hp⟩:=oV;rw[←hL]at hp;have hd:=hd.mono t7;have hf:=hf.mono t7;have hr:=hr.mono t7;refine SW.new bw ?_;refine SW.new aq ?_;refine SW.bG (fun m E ψ R=>∃(j:Nat) (ol:List (ag×aV)) (ov wv:V) (Ex Ey:Option Pa),j+m=L.length∧ol=(L.take j).filterMap (rh d lo hi)∧ol.length≤j∧D3=ψ∧R=[aq.ob Ex (ol.map (·.1)),bw.ob Ey (ol.map (·.2)),(some a46,.cells [.no .sl,.no .sl,ov,wv,.j gen,.j fr,.bool false] false),(some nD,.cells [.no .sl,.no .sl] false),(some c1,.cells [lv,Ew,.j d.arm,.bool d.down] false)]∧ae aq ov (ol.map (·.1)) Ex∧ae bw wv (ol.map (·.2)) Ey∧Sub [(2,.j gen),(3,.j fr),(4,.j lo),(5,.j hi),(6,tv),(7,.ptr c1 0),(14,.ptr nD 0),(16,.ptr a46 0),(17,pv),(19,.j (j:Int))] E) (m:=L.length) (.done ⟨0,[],.no .sl,.no .sl,none,none,by omega,rfl,by simp,rfl,rfl,ae.nil,ae.nil,.r rfl⟩) ?_;intro m0 E ψ R ac hI;obtain⟨j,ol,ov,wv,Ex,Ey,e5,hole,dC,rfl,rfl,oo,ow,hE⟩:=hI;refine C.sub hE ?_;refine S.len ?_ (hl:=aa.len hp);refine S.bin ?_;refine C.D (fun wg=>?_) fun wg=>?_
  ·have hj:j<L.length:=by omega
   obtain⟨p,i6⟩:∃p,p=L[j]:=⟨_,rfl⟩
   obtain⟨X,hX⟩:∃X,X=b7 d p.addr p.gen:=⟨_,rfl⟩
   have b3:(L.take (j+1)).filterMap (rh d lo hi)=ol++([p].filterMap (rh d lo hi)):=by rw[aqd hj,List.filterMap_append,←hole,i6]
   have hg:L[j]? =some p:=by rw[KJ hj,i6]
   refine S.af 4 ?_;refine S.aF hp hj fun Z7 Bl=>?_;rw[←i6]at Bl;refine S.bl Bl fun Z8 Z9=>?_;refine S.aX ?_;refine S.aF hp hj fun p68 PW=>?_;rw[←i6]at PW;refine S.bl PW fun p69 e69=>?_;refine S.aX ?_;refine S.alloc fun a20=>?_;refine S.ak (zD hd cL) ?_;rw[←hX];refine S.jq 0 ?_;refine S.store 0 ?_;refine G.mv ?_;refine G.mv ?_;refine G.aF hp (j:=j) (z:=p) fun p78 Jm=>?_;refine G.bl Jm fun p79 e79=>?_;refine G.aX ?_;refine G.mv ?_;refine G.bin ?_;refine G.mv ?_;refine G.mv ?_;refine G.mv ?_;refine G.aF hp (j:=j) (z:=p) fun p86 e86=>?_;refine G.bl e86 fun p87 e87=>?_;refine G.aX ?_;refine G.mv ?_;refine G.bin ?_;refine G.xl ?_;refine G.and ?_;refine C.B (fun qo=>?_) fun qo=>?_
   ·obtain⟨x,rfl⟩:∃x,X=some x:=by
     cases X with
     |none=>simp at qo
     |some x=>exact⟨x,rfl⟩
    have DN:[p].filterMap (rh d lo hi)=[(p,x)]:=by
     have:rh d lo hi p=some (p,x):=by
      unfold rh;rw[←hX];simp only;rw[B4];change (true&&(decide (p.addr<lo)||decide (hi≤p.addr)))=true at qo;simpa using qo
     simp[this]
    rw[DN]at b3;refine S.ld 3 ?_;refine S.aF hp hj fun Zy IG=>?_;rw[←i6]at IG;refine S.bP ?_;refine S.a8 fun anU=>?_;refine S.ld 4 ?_;refine S.af 1 ?_;refine S.a8 fun aah=>?_;refine S.bu (m:=[p]) 3 oo (.lit 1) (by simp;omega) fun IX IY En=>?_;refine S.gi 0 ?_;refine S.dy 2 ?_;refine S.bF 5 ?_ (hs:=ow.same);refine S.bu (m:=[x]) 4 ow (.lit 0) (by simp;omega) fun I5 I6 Bn=>?_;have anV:=En.av;have aao:=Bn.av;refine S.hK 5 ?_;refine S.hK 5 ?_;refine S.drop 0 ?_;refine S.drop 0 ?_;refine S.drop 0 ?_;refine S.bin ?_;exact⟨m0-1,by omega,.done ⟨j+1,ol++[(p,x)],IX,I5,IY,I6,by omega,b3.symm,by simp;omega,rfl,by rw[amw,amw];(try rfl),by rw[amw];exact En,by rw[amw];exact Bn,.r rfl⟩⟩
   ·have DN:[p].filterMap (rh d lo hi)=[]:=by
     have:rh d lo hi p=none:=by
      unfold rh;rw[←hX];cases X with
      |none=>rfl
      |some x=>
       simp only;rw[pg];change (true&&(decide (p.addr<lo)||decide (hi≤p.addr)))=false at qo;simpa using qo
     simp[this]
    rw[DN,ap9]at b3;refine S.bin ?_;exact⟨m0-1,by omega,.drop 0 (.done ⟨j+1,ol,ov,wv,Ex,Ey,by omega,b3.symm,by omega,rfl,rfl,oo,ow,.r rfl⟩)⟩
  ·obtain rfl:j=L.length:=by omega
   rw[ap2]at hole;have hold:GJ d sum lo hi=ol:=by unfold GJ;rw[←hL,hole]
   rw[hold]at el;have PX:ol.length≤2360:=by omega
   refine SW.bG (fun m E ψ R=>∃(i:Nat) (s:jt) (roots:List ag) (nv rv:V) (sn sr:Option Pa),i+m=trees.length∧te ol gen fr s (trees.drop i) roots=te ol gen fr ⟨[],false⟩ trees []∧s.new.length≤3000*i∧roots.length=i∧aa aq ψ ov (ol.map Prod.fst)∧aa bw ψ wv (ol.map Prod.snd)∧R=[(some a46,.cells [nv,rv,ov,wv,.j gen,.j fr,.bool s.bad] false),bw.ob sn s.new,aq.ob sr roots,(some nD,.cells [.no .sl,.no .sl] false),(some c1,.cells [lv,Ew,.j d.arm,.bool d.down] false)]∧ae bw nv s.new sn∧ae aq rv roots sr∧Sub [(2,.j gen),(3,.j fr),(6,tv),(14,.ptr nD 0),(16,.ptr a46 0),(22,.j (i:Int))] E) (m:=trees.length) (.bR 0 rfl oo fun o4 la qp=>.bR 0 rfl ow fun Bm my fw=>.new aq (.new bw (.front 2 rfl (.done ⟨0,⟨[],false⟩,[],.no .sl,.no .sl,none,none,by omega,rfl,by simp,rfl,aa.mono (e:=aq) qp my,fw,rfl,ae.nil,ae.nil,.r rfl⟩)))) ?_;intro m2 E ψ R ac hI;obtain⟨i,s,roots,nv,rv,sn,sr,Bk,ab,d2,DG,qp,fw,rfl,ho,mc,hE⟩:=hI;refine C.sub hE ?_;refine S.len ?_ (hl:=aa.len hf);refine S.bin ?_;refine C.D (fun aat=>?_) fun aat=>?_
   ·have hi:i<trees.length:=by omega
    have hf:=hf.mono ac;have hr:=hr.mono ac;obtain⟨w,gT⟩:∃w,w=hs[i]:=⟨_,rfl⟩
    obtain⟨q1,q2⟩:=hr.at (i:=i) (by omega) hi;obtain⟨h,hh⟩:∃h,h=trees[i]:=⟨_,rfl⟩
    rw[←gT,←hh]at q1 q2;have uo:=w.2.2;obtain⟨ug,ym⟩:=dE h (by rw[hh];exact W1 hi);rw[Rm hi,←hh]at ab;simp only[te]at ab;have PV:=mc.av;refine S.aF hf (j:=i) (by omega) fun anW PY=>?_;rw[←gT]at PY;refine S.bl PY fun anX anY=>?_;refine S.aX ?_;refine S.ak (Gy q2 ug) ?_;refine S.un ?_;refine C.B (fun Ez=>?_) fun Ez=>?_
    ·have e1:vc ol gen fr s h=none:=by unfold vc;rw[pg (by intro hm;rw[hm]at Ez;cases Ez)]
     rw[e1]at ab;simp only at ab;rw[←ab]at el;simp only at el;rw[el];refine S.build ?_;refine S.store 3 ?_;exact⟨_,.cN 3 rfl rfl rfl rfl (.t rfl .nil),.none ⟨rfl,_,_,rfl,aa.nil _,aa.nil _⟩⟩
    ·have hm:bL h.t=true:=by simpa using Ez
     obtain⟨ad,hR⟩:∃ad,ad=(cn h.t).map (im gen):=⟨_,rfl⟩
     have PZ:ad.length=(cn h.t).length:=by rw[hR];simp
     obtain⟨A,oJ⟩:∃A,A=fQ ol gen fr s ad:=⟨_,rfl⟩
     obtain⟨Y,hY⟩:∃Y,Y=iW gen ((cn h.t).zip A.1):=⟨_,rfl⟩
     have Bv:vc ol gen fr s h=(if fA gen h.r (fQ ol gen fr A.2 Y).1=hG then none else some (iX ol gen fr (fQ ol gen fr A.2 Y).2 (fA gen h.r (fQ ol gen fr A.2 Y).1))):=by
      rw[hY,oJ,hR];unfold vc;rw[B4 hm]
     have hYl:Y.length≤1000:=by
      rw[hY];unfold iW;refine aqb (GK _ _ _) ?_;rw[arP];omega
     refine S.aF hf (j:=i) (by omega) fun anZ P0=>?_;rw[←gT]at P0;refine S.bl P0 fun an0 an1=>?_;refine S.aX ?_;refine S.call (Uy q2 ug) fun aau aav an2 Jn wG=>?_;obtain⟨rfl,wG⟩:=wG;have qp:=qp.mono Jn;have fw:=fw.mono Jn;have hf:=hf.mono Jn;refine SW.new aq ?_;refine SW.front 2 ?_;refine SW.front 2 ?_;refine SW.bG (fun m E ψ R=>∃(k:Nat) (s1:jt) (nK:List ag) (nv wH:V) (sn st:Option Pa),k+m=ad.length∧nK++(fQ ol gen fr s1 (ad.drop k)).1=(fQ ol gen fr s ad).1∧(fQ ol gen fr s1 (ad.drop k)).2=(fQ ol gen fr s ad).2∧s1.new.length≤s.new.length+k∧nK.length=k∧aav=ψ∧R=[(some a46,.cells [nv,rv,ov,wv,.j gen,.j fr,.bool s1.bad] false),bw.ob sn s1.new,aq.ob st nK,aq.ob sr roots,(some nD,.cells [.no .sl,.no .sl] false),(some c1,.cells [lv,Ew,.j d.arm,.bool d.down] false)]∧ae bw nv s1.new sn∧ae aq wH nK st∧Sub [(2,.j gen),(3,.j fr),(6,tv),(14,.ptr nD 0),(16,.ptr a46 0),(22,.j (i:Int)),(23,aau),(24,wH),(25,.no .sl),(26,.j (k:Int))] E) (m:=ad.length) (.done ⟨0,s,[],nv,.no .sl,sn,none,by omega,rfl,rfl,by omega,rfl,rfl,rfl,ho,ae.nil,.r rfl⟩) ?_;intro aaw E ψ R ac hI;obtain⟨k,s1,nK,nv,wH,sn,st,DU,I,J,yD,di,rfl,rfl,ho,ot,hE⟩:=hI;refine C.sub hE ?_;refine S.len ?_ (hl:=aa.len wG);refine S.bin ?_;refine C.D (fun aax=>?_) fun aax=>?_
     ·have hk:k<ad.length:=by omega
      have wi:k<(cn h.t).length:=by omega
      have hRk:ad[k]=im gen (cn h.t)[k]:=by subst hR;rw[aqX]
      rw[Rm hk,hRk]at I J;simp only[fQ]at I J;refine S.aF wG wi fun an3 an4=>?_;refine S.bP ?_;refine S.ak (Ub (r:=(cn h.t)[k]) (gen:=gen)) ?_;refine S.MS 2 (MR (s:=s1) (x:=im gen (cn h.t)[k]) ho qp fw (by omega) (by omega) (by omega) pZ) fun an5 an6 an7 an8 aay=>?_;obtain⟨rfl,rfl,Bw,Bx,rfl,nH⟩:=aay;have P1:=CZ ol gen fr s1 (im gen (cn h.t)[k]);refine S.a8 fun an9=>?_;refine S.bu (m:=[(iX ol gen fr s1 (im gen (cn h.t)[k])).1]) 3 ot (.lit 0) (by simp;omega) fun v152 aaz aaA=>?_;refine S.drop 0 ?_;refine S.mv ?_;refine S.bin ?_;exact⟨aaw-1,by omega,.done ⟨k+1,_,_,Bw,v152,Bx,aaz,by omega,by rw[KK];exact I,J,by omega,by simp;omega,rfl,rfl,nH,aaA,.r rfl⟩⟩
     ·obtain rfl:k=ad.length:=by omega
      rw[WV]at I J;simp only[fQ,ap9]at I J;rw[←oJ]at I J;subst I;subst J;refine S.ct 2 ot fun PF lt qq=>?_;have wG:=wG.mono lt;refine S.call (Uc (gen:=gen) wG qq (by omega)) fun aaB aoa aob aoc aaC=>?_;obtain⟨rfl,aod,rfl,P3⟩:=aaC;rw[←hY]at P3⊢;refine S.ct 0 P3 fun ψy ly P4=>?_;have qp:=(qp.mono lt).mono ly;have fw:=(fw.mono lt).mono ly;have hf:=(hf.mono lt).mono ly;refine S.mv ?_;refine SW.new aq ?_;refine SW.front 2 ?_;refine SW.front 2 ?_;refine SW.bG (fun m E ψ R=>∃(k:Nat) (s1:jt) (nK:List ag) (nv wH:V) (sn st:Option Pa),k+m=Y.length∧nK++(fQ ol gen fr s1 (Y.drop k)).1=(fQ ol gen fr A.2 Y).1∧(fQ ol gen fr s1 (Y.drop k)).2=(fQ ol gen fr A.2 Y).2∧s1.new.length≤A.2.new.length+k∧nK.length=k∧ψy=ψ∧R=[(some a46,.cells [nv,rv,ov,wv,.j gen,.j fr,.bool s1.bad] false),bw.ob sn s1.new,aq.ob st nK,aq.ob sr roots,(some nD,.cells [.no .sl,.no .sl] false),(some c1,.cells [lv,Ew,.j d.arm,.bool d.down] false)]∧ae bw nv s1.new sn∧ae aq wH nK st∧Sub [(2,.j gen),(3,.j fr),(6,tv),(14,.ptr nD 0),(16,.ptr a46 0),(22,.j (i:Int)),(27,aaB),(25,wH),(28,.j (k:Int))] E) (m:=Y.length) (.done ⟨0,A.2,[],nv,.no .sl,sn,none,by omega,rfl,rfl,by omega,rfl,rfl,rfl,ho,ae.nil,.r rfl⟩) ?_;intro aaD E ψ R ac hI;obtain⟨k,s1,nK,nv,wH,sn,st,DU,I,J,ur,aoe,rfl,rfl,ho,ot,hE⟩:=hI;refine C.sub hE ?_;refine S.len ?_ (hl:=aa.len P4);refine S.bin ?_;refine C.D (fun aaE=>?_) fun aaE=>?_
      ·have hk:k<Y.length:=by omega
       rw[Rm hk]at I J;simp only[fQ]at I J;refine S.aF P4 hk fun YV OP=>?_;refine S.bP ?_;refine S.MS 2 (MR (s:=s1) (x:=Y[k]) ho qp fw (by omega) (by omega) (by omega) pZ) fun aof aog aoh aoi aaF=>?_;obtain⟨rfl,rfl,Bw,Bx,rfl,nH⟩:=aaF;have P1:=CZ ol gen fr s1 (Y[k]);refine S.a8 fun aoj=>?_;refine S.bu (m:=[(iX ol gen fr s1 Y[k]).1]) 3 ot (.lit 0) (by simp;omega) fun v171 aaG aaH=>?_;refine S.drop 0 ?_;refine S.mv ?_;refine S.bin ?_;exact⟨aaD-1,by omega,.done ⟨k+1,_,_,Bw,v171,Bx,aaG,by omega,by rw[KK];exact I,J,by omega,by simp;omega,rfl,rfl,nH,aaH,.r rfl⟩⟩
      ·obtain rfl:k=Y.length:=by omega
       rw[WV]at I J;simp only[fQ,ap9]at I J;rw[←I,←J]at Bv;refine S.aF hf (j:=i) (by omega) fun aok P5=>?_;rw[←gT]at P5;refine S.bl P5 fun aol aom=>?_;refine S.bP ?_ (l:=dW.f w.1);refine S.L9 2 ot (fun ψ _ Dp=>Uj (gen:=gen) (r:=w.1) Dp) ?_;rw[q1];obtain⟨PR,hPR⟩:∃PR,PR=fA gen h.r nK:=⟨_,rfl⟩
       rw[←hPR]at Bv⊢;refine S.alloc fun El=>?_;refine S.store 0 ?_;refine S.af 0 ?_;refine S.build ?_;refine S.bin ?_ (hv:=eqB PR hG);refine C.B (fun Jo=>?_) fun Jo=>?_
       ·have e1:vc ol gen fr s h=none:=by rw[Bv];exact B4 (by simpa using Jo)
        rw[e1]at ab;simp only at ab;rw[←ab]at el;simp only at el;rw[el];refine S.build ?_;refine S.store 5 ?_;exact⟨_,.cN 5 rfl rfl rfl rfl (.t rfl .nil),.none ⟨rfl,_,_,rfl,aa.nil _,aa.nil _⟩⟩
       ·rw[pg (by simpa using Jo)]at Bv;rw[Bv]at ab;simp only at ab;refine S.ld 1 ?_;refine S.af 0 ?_;refine S.drop 3 ?_;refine S.front 2 ?_;refine S.front 2 ?_;refine S.MS 2 (MR (s:=s1) (x:=PR) ho qp fw (by omega) (by omega) (by omega) pZ) fun aon aoo aop aoq aaI=>?_;obtain⟨rfl,rfl,Bw,Bx,rfl,nH⟩:=aaI;have P1:=CZ ol gen fr s1 (PR);refine S.bF 0 ?_ (hs:=mc.same);refine S.a8 fun a193=>?_;refine S.bu (m:=[(iX ol gen fr s1 PR).1]) 4 mc (.lit 0) (by simp;omega) fun v194 aaJ P6=>?_;have aor:=P6.av;refine S.hK 1 ?_;refine S.drop 0 ?_;refine S.drop 2 ?_;refine S.bin ?_;exact⟨m2-1,by omega,.done ⟨i+1,_,_,Bw,v194,Bx,aaJ,by omega,ab,by omega,by simp;omega,qp,fw,rfl,nH,P6,.r rfl⟩⟩
   ·obtain rfl:i=trees.length:=by omega
    rw[WV]at ab;simp only[te]at ab;rw[←ab]at el;simp only at el;rw[el];have PV:=mc.av;have hns:=ho.av;refine S.ld 0 ?_;refine C.B (fun qr=>?_) fun qr=>?_
    ·rw[B4 qr];refine S.build ?_;refine S.store 3 ?_;exact⟨_,.cN 3 rfl rfl rfl rfl (.t rfl .nil),.none ⟨rfl,_,_,rfl,aa.nil _,aa.nil _⟩⟩
    ·rw[pg (by rw[qr];simp)];refine S.af 0 ?_;refine S.store 3 ?_;exact⟨_,.cN 3 rfl rfl rfl rfl (.t rfl .nil),.bR 1 rfl ho fun o4 la k1=>.bR 1 rfl mc fun Bm my k2=>.none ⟨rfl,_,_,rfl,k1.mono my,k2⟩⟩
end Go.Ev
namespace Go.Ev
def sameAs (v:aW) (p:List aV×List ag) (lo hi:Int):Bool:=match b7 v.d v.sum (-1)with
 |none=>false
 |some x=>p.1.isEmpty&&(decide (v.sum<lo)||decide (hi≤v.sum))&&(match dX x with
  |none=>false
  |some (next,id,roots)=>(look v.d v.sum).isSome&&decide (next=v.next)&&decide (id=v.id)&&decide (roots=p.2))
def kL (st v:aW) (gen:Int) (p:List aV×List ag):aW×Int:=
 let fr:=bO v.aU+v.pos
 let r:=dN v.d fr p.1
 if r.2=false then({st with d:=r.1},11)
 else
  let q:=dN r.1 (fr+p.1.length) [gh gen v.next v.id p.2]
  if q.2=false then({st with d:=q.1},11)
  else({v with d:=q.1,seq:=gen,sum:=fr+p.1.length,pos:=v.pos+p.1.length+1},0)
def writeNew (v:aW) (lo hi:Int):aW×Int:=match rf v.d v.sum v.aU with
 |none=>(v,8)
 |some aU=>
  if bO aU<hi∧lo<bO aU+64∧lo<hi then(v,8)
  else match lay v.d v.sum (v.seq+1) (bO aU) lo hi v.trees with
   |none=>(v,8)
   |some p=>
    if 64<p.1.length+1 then(v,8)
    else
     let r:=jr v.d ⟨v.n+1,v.seq,v.sum,aU,0⟩
     if r.2=false then({v with d:=r.1},11)
     else kL v {v with d:=r.1,n:=v.n+1,aU:=aU,pos:=0} (v.seq+1) p
def dz (v:aW) (lo hi:Int):aW×Int:=
 if v.d.down=true then(v,11)
 else if(lay v.d v.sum 0 0 lo hi v.trees).isSome=false then(v,1)
 else if 1073741824<v.seq+1 then(v,8)
 else match lay v.d v.sum (v.seq+1) (bO v.aU+v.pos) lo hi v.trees with
  |none=>(v,1)
  |some p=>
   if sameAs v p lo hi=true then(v,0)
   else if 64<v.pos+p.1.length+1 then writeNew v lo hi
   else kL v v (v.seq+1) p
def eU (v x:aW):aW×Int:=
 let y:=dz x 0 0
 if y.2=11 then({v with d:=y.1.d},11)else if y.2≠0 then(v,y.2)else(y.1,0)
def lW (v:aW):aW×Int×Int:=
 if 4≤(zF v.trees).length∨65535<v.next then(v,0,8)
 else
  let y:=eU v {v with trees:=fi v.trees ⟨⟨3,v.next,v.id*65536+v.next,0,0⟩,et v.trees⟩,next:=v.next+1}
  if y.2≠0 then(y.1,0,y.2)else(y.1,v.next,0)
def pL (v:aW) (id:Int):aW×Int:=match hS v.trees 3 id with
 |none=>(v,2)
 |some l=>eU v {v with trees:=l}
def pM (v:aW) (id:Int):aW×Int:=match kK v.trees 3 id with
 |none=>(v,2)
 |some h=>({v with trees:=lV v.trees h.t},0)
theorem MU (eC:Int):∀(i:Int) (l:List Int) (k:Int),re eC i l=some k→i≤k∧k<i+l.length
 |_,[],_,h=>by cases h
 |i,n::l,k,h=>by
  simp only[re]at h;split at h
  ·cases h;rw[WW];omega
  ·have:=MU eC (i+1) l k h;rw[WW];omega
theorem C4 {s:Int} (h0:0≤s) (I:s≤1000000):0≤bO s∧bO s≤64000002:=by unfold bO;rw[pg (by omega)];omega
theorem GL:∀(l:List aV) (d:ay) (i:Int),(dN d i l).1.last.length=d.last.length∧(dN d i l).1.wait.length≤d.wait.length+l.length∧(dN d i l).1.arm≤max d.arm 0
 |[],d,i=>by
  have:=UD d;simp only[dN];exact⟨this.1,by simp;exact this.2.1,by rw[this.2.2];omega⟩
 |x::l,d,i=>by
  have I:=GC d i (eR x);simp only[dN];split
  ·have J:=GL l (d.write i (eR x)).1 (i+1);rw[WW];exact⟨by omega,by omega,by omega⟩
  ·rw[WW];refine⟨I.2.1,?_,I.2.2⟩;show(d.write i (eR x)).1.wait.length≤_;omega
theorem C5 (d:ay) (s:xn):(jr d s).1.last.length=d.last.length∧(jr d s).1.wait.length≤d.wait.length+1∧(jr d s).1.arm≤max d.arm 0:=by
 have I:=GC d (s.n%2) (mT s);have J:=UD (d.write (s.n%2) (mT s)).1;unfold jr;split
 ·exact⟨by omega,by omega,by omega⟩
 ·exact⟨I.2.1,I.1,I.2.2⟩
end Go.Ev
set_option maxHeartbeats 32000000
namespace Go.Ev
variable{F:Nat→Option aN} {O:Fz}
structure VB (v:aW):Prop where
 wait:v.d.wait.length≤100000
 last:v.d.last.length≤1000000
 arm:v.d.arm≤1000000
 nb:0≤v.seq
 seq1:v.seq≤1073741824
 ri:0≤v.sum
 lX:v.sum≤1000000000
 nc:0≤v.aU
 lY:v.aU≤1000000
 ju:0≤v.pos
 og:v.pos≤1000
 n0:0≤v.n
 n1:v.n≤1000000000000
 trees:v.trees.length≤1000000
 dp:∀h∈v.trees,bN h.t∧(cn h.t).length≤1000
theorem MV (aD:List (ag×aV)) (gen fr:Int):∀(s:jt) (l:List aV),(fQ aD gen fr s l).2.new.length≤s.new.length+l.length∧(fQ aD gen fr s l).1.length=l.length
 |_,[]=>⟨B5 _,rfl⟩
 |s,x::l=>by
  have I:=CZ aD gen fr s x;have J:=MV aD gen fr (iX aD gen fr s x).2 l;simp only[fQ,WW];exact⟨by omega,by omega⟩
theorem ajI {aD:List (ag×aV)} {gen fr:Int} {s s':jt} {h:bD} {p:ag} (hh:vc aD gen fr s h=some (p,s')) (hp:(cn h.t).length≤1000):s'.new.length≤s.new.length+2001:=by
 unfold vc at hh;split at hh
 ·simp only at hh;split at hh
  ·cases hh
  ·obtain⟨A,oJ⟩:∃A,A=fQ aD gen fr s ((cn h.t).map (im gen)):=⟨_,rfl⟩
   rw[←oJ]at hh;obtain⟨B,tO⟩:∃B,B=fQ aD gen fr A.2 (iW gen ((cn h.t).zip A.1)):=⟨_,rfl⟩
   rw[←tO]at hh;have I:=(MV aD gen fr s ((cn h.t).map (im gen))).1;have J:=(MV aD gen fr A.2 (iW gen ((cn h.t).zip A.1))).1;rw[←oJ,apZ]at I;rw[←tO]at J;have h3:(iW gen ((cn h.t).zip A.1)).length≤1000:=by
    unfold iW;refine aqb (GK _ _ _) ?_;rw[arP];omega
   have h4:=CZ aD gen fr B.2 (fA gen h.r B.1);injection hh with hh
   have h5:s'=(iX aD gen fr B.2 (fA gen h.r B.1)).2:=by rw[hh]
   rw[h5];omega
 ·cases hh
theorem UT {aD:List (ag×aV)} {gen fr:Int}:∀{l:List bD} {s s':jt} {q q':List ag},te aD gen fr s l q=some (s',q')→(∀h∈l,(cn h.t).length≤1000)→s'.new.length≤s.new.length+2001*l.length
 |[],_,_,_,_,h,_=>by cases h;exact B5 _
 |x::l,s,s',q,q',h,hp=>by
  simp only[te]at h;split at h
  ·cases h
  ·rename_i p s2 hx;have I:=ajI hx (hp x apV);have J:=UT h (fun y hy=>hp y (amI _ hy));rw[WW];omega
theorem UU {d:ay} {sum gen fr lo hi:Int} {l:List bD} {p:List aV×List ag} (h:lay d sum gen fr lo hi l=some p) (hp:∀h∈l,(cn h.t).length≤1000):p.1.length≤14007:=by
 unfold lay at h;split at h
 ·cases h
 ·rename_i hc;split at h
  ·cases h
  ·rename_i s roots hs;have I:=UT hs hp;split at h
   ·cases h
   ·cases h;simp only[aqW]at I;show s.new.length≤_;omega
theorem UW {U:Type} (l:List U):l.isEmpty=decide ((l.length:Int)=0):=by cases l<;>simp;omega
theorem MW [Fx F] {cs:List V} {v:aW} {lo hi:Int} (hv:bZ O cs v) (hb:VB v):
 ai F 45 [.agg cs,.j lo,.j hi] O [] (fun r ψ R=>R=[]∧∃cs',r=.aM [.agg cs',.j (dz v lo hi).2]∧bZ ψ cs' (dz v lo hi).1) never:=by
 obtain⟨lv,wv,tv,rfl,hl,hw,ht,sl,sw,st,hd⟩:=hv.open;have ci:=hb.nb;have eq:=hb.seq1;have f7:=C4 hb.nc hb.lY;have g0:=hb.ju;have f9:=hb.og;have oF:=hb.lY;have tF:=hb.n0;have rE:=hb.n1;have N4:=hb.wait;have HB:=hb.last;have b12:=hb.arm;refine au ?_;refine S.box fun a3=>?_;refine S.alloc fun cb=>?_;refine S.ld 1 ?_;refine C.B (fun bq=>?_) fun bq=>?_
 ·have e:dz v lo hi=(v,11):=by unfold dz;exact B4 bq
  rw[e];refine S.af 1 ?_;refine S.store 0 ?_;exact⟨_,.cN 0 rfl rfl rfl rfl (.t rfl .nil),.none ⟨rfl,_,rfl,lv,wv,tv,rfl,hl,hw,ht⟩⟩
 ·refine S.af 1 ?_;refine S.ld 1 ?_;refine S.ld 1 ?_;refine S.call (MT (sum:=v.sum) (gen:=0) (fr:=0) (lo:=lo) (hi:=hi) hd (by have:=hb.wait;omega) ht hb.dp (by omega)) fun v39 yj DX qh g6=>?_;obtain⟨rfl,n8,yE,rfl,fn8,fr8⟩:=g6;have wn8:=fn8.av;have wr8:=fr8.av;have hl:=hl.mono qh;have hw:=hw.mono qh;have ht:=ht.mono qh;have hd:=hd.mono qh;refine S.alloc fun ew=>?_;refine S.store 0 ?_;refine S.un ?_;refine C.B (fun fD=>?_) fun fD=>?_
  ·have e:dz v lo hi=(v,1):=by unfold dz;rw[pg (by rw[bq];simp),B4 (by simp only[apH]at fD;exact fD)]
   rw[e];refine S.af 2 ?_;refine S.store 1 ?_;exact⟨_,.cN 1 rfl rfl rfl rfl (.t rfl .nil),.none ⟨rfl,_,rfl,lv,wv,tv,rfl,hl,hw,ht⟩⟩
  ·refine S.drop 0 ?_;refine S.aE ?_;refine S.ld 1 ?_;refine S.bin ?_;refine S.bin ?_;refine C.D (fun AY=>?_) fun AY=>?_
   ·have e:dz v lo hi=(v,8):=by unfold dz;rw[pg (by rw[bq];simp),pg (by simp only[apR]at fD;simp[fD]),B4 (by omega)]
    rw[e];refine S.af 1 ?_;refine S.store 0 ?_;exact⟨_,.cN 0 rfl rfl rfl rfl (.t rfl .nil),.none ⟨rfl,_,rfl,lv,wv,tv,rfl,hl,hw,ht⟩⟩
   ·refine S.af 1 ?_;refine S.alloc fun gR=>?_;refine S.store 0 ?_;refine S.af 2 ?_;refine S.ld 2 ?_;refine S.ld 2 ?_;refine S.ld 2 ?_;refine S.ld 2 ?_;refine S.alloc fun ez=>?_;refine S.ak (va (s:=v.aU) (by omega)) ?_;refine S.jq 0 ?_;refine S.bF 3 ?_ (hs:=ht.same);refine S.bF 3 ?_;refine S.bF 3 ?_;refine S.dy 3 ?_ (hs:=CY hl hw);refine S.bin ?_;refine S.call (MT (sum:=v.sum) (gen:=v.seq+1) (fr:=bO v.aU+v.pos) (lo:=lo) (hi:=hi) hd (by have:=hb.wait;omega) ht hb.dp (by omega)) fun Pu aos ZT EA AQ=>?_;obtain⟨rfl,GM,Jp,rfl,nL,pc⟩:=AQ;have wnp:=nL.av;have wrp:=pc.av;have hl:=hl.mono EA;have hw:=hw.mono EA;have ht:=ht.mono EA;have hd:=hd.mono EA;have ew0:∀P:Option (List aV×List ag),P=lay v.d v.sum (v.seq+1) (bO v.aU+v.pos) lo hi v.trees→dz v lo hi=(match P with|none=>(v,1)|some p=>if sameAs v p lo hi=true then(v,0)else if 64<v.pos+p.1.length+1 then writeNew v lo hi else kL v v (v.seq+1) p):=fun P h=>by
     subst h;unfold dz;rw[pg (by rw[bq];simp),pg (by simp only[apR]at fD;simp[fD]),pg (by omega)];(try rfl)
    obtain⟨P,jb⟩:∃P,P=lay v.d v.sum (v.seq+1) (bO v.aU+v.pos) lo hi v.trees:=⟨_,rfl⟩
    rw[←jb]at nL pc⊢;have fG:=ew0 P jb;refine S.jq 0 ?_;refine S.store 0 ?_;refine S.un ?_;refine C.B (fun mt=>?_) fun mt=>?_
    ·have e:dz v lo hi=(v,1):=by
      rw[fG];cases P with
      |none=>rfl
      |some x=>simp at mt
     rw[e];refine S.af 3 ?_;refine S.store 2 ?_;exact⟨_,.cN 2 rfl rfl rfl rfl (.t rfl .nil),.none ⟨rfl,_,rfl,lv,wv,tv,rfl,hl,hw,ht⟩⟩
    ·obtain⟨p,rfl⟩:∃p,P=some p:=ap4.1 (by simpa using mt);change aa bw _ GM p.1 at nL;change aa aq _ Jp p.2 at pc;simp only at fG;have dE:=UU jb.symm (fun h hh=>(hb.dp h hh).2);obtain⟨X,hX⟩:∃X,X=b7 v.d v.sum (-1):=⟨_,rfl⟩
     refine S.af 3 ?_;refine S.ld 3 ?_;refine S.ak (zD hd (by have:=hb.wait;omega)) ?_;rw[←hX];refine S.alloc fun gS=>?_;refine S.store 0 ?_;refine G.aE ?_;refine G.ld 1 ?_;refine G.len ?_ (hl:=aa.len nL);refine G.bin ?_;refine G.and ?_;refine G.aE ?_;refine G.ld 4 ?_;refine G.mv ?_;refine G.bin ?_;refine G.mv ?_;refine G.aE ?_;refine G.ld 4 ?_;refine G.mv ?_;refine G.bin ?_;refine G.xl ?_;refine G.and ?_;refine SW.xk (fun E ψ R=>sameAs v p lo hi=false∧R=[(some ez,.cells [GM,Jp] false),(some gR,.cells [lv,wv,.j v.d.arm,.bool v.d.down,.j v.seq,.j v.sum,.j v.aU,.j v.pos,.j v.n,.j v.next,.j v.id,tv] false),(some cb,.cells [.no .sl,.no .sl,.j 0,.bool false,.j 0,.j 0,.j 0,.j 0,.j 0,.j 0,.j 0,.no .sl] false),(some a3,.cells [lv,wv,.j v.d.arm,.bool v.d.down,.j v.seq,.j v.sum,.j v.aU,.j v.pos,.j v.n,.j v.next,.j v.id,tv] false)]∧Sub [(1,.j lo),(2,.j hi),(3,.ptr a3 0),(6,.ptr cb 0),(10,.j (v.seq+1)),(11,.ptr gR 0),(12,.ptr ez 0)] E) ?_ ?_
     ·refine C.B (fun nJ=>?_) fun nJ=>?_
      ·have jB:X.isSome=true∧(p.1.length:Int)=0∧(decide (v.sum<lo)||decide (hi≤v.sum))=true:=by
        simp only[G7,G6]at nJ;exact⟨nJ.1.1,nJ.1.2,nJ.2⟩
       obtain⟨x,rfl⟩:=ap4.1 jB.1;have kT:=oe hX.symm;obtain⟨Y,hY⟩:∃Y,Y=dX x:=⟨_,rfl⟩
       obtain⟨Z,nI⟩:∃Z,Z=look v.d v.sum:=⟨_,rfl⟩
       have es:sameAs v p lo hi=(Y.isSome&&Z.isSome&&decide ((Y.getD (0,0,[])).1=v.next)&&decide ((Y.getD (0,0,[])).2.1=v.id)&&decide ((Y.getD (0,0,[])).2.2=p.2)):=by
        unfold sameAs;rw[←hX];simp only;rw[jB.2.2,UW,decide_eq_true jB.2.1,←hY,←nI];cases Y with
        |none=>rfl
        |some y=>simp
       refine S.af 0 ?_;refine S.call (Ul (x:=x) (by omega)) fun A6 aot ZC yF II=>?_;obtain⟨rfl,pv,rfl,EB⟩:=II;rw[←hY]at EB⊢;have hl:=hl.mono yF;have hw:=hw.mono yF;have ht:=ht.mono yF;have hd:=hd.mono yF;have nL:=nL.mono yF;have pc:=pc.mono yF;refine S.af 4 ?_;refine S.ld 4 ?_;refine S.call (UC hd (by have:=hb.wait;omega)) fun aou aov aow wI aaK=>?_;obtain⟨rfl,Oi,rfl,ur⟩:=aaK;rw[←nI]at ur⊢;obtain⟨y2,Ak,Oe,Of,aox,n3,ql,qm,rfl,k2,k3,_,k4,_,k5,_,k6⟩:=ur;have e2:=k2.av;have e3:=k3.av;have AF:=k4.av;have aoy:=k5.av;have aaL:=k6.av;have EB:=EB.mono wI;have hl:=hl.mono wI;have hw:=hw.mono wI;have ht:=ht.mono wI;have hd:=hd.mono wI;have nL:=nL.mono wI;have pc:=pc.mono wI;refine S.alloc fun a19=>?_;refine S.store 0 ?_;refine G.mv ?_;refine G.and ?_;refine G.mv ?_;refine G.aE ?_;refine G.ld 5 ?_;refine G.bin ?_;refine G.and ?_;refine G.mv ?_;refine G.aE ?_;refine G.ld 5 ?_;refine G.bin ?_;refine G.and ?_;refine G.mv ?_;refine G.aE ?_;refine G.ld 2 ?_;refine G.ak (fun _=>ajp EB pc (by
        cases Y with
        |none=>simp
        |some y=>have:=CV (n:=y.1) (i:=y.2.1) (p:=y.2.2) hY.symm;show y.2.2.length≤_;omega)) ?_
       refine G.and ?_;refine C.B (fun Jq=>?_) fun Jq=>?_
       ·rw[B4 (by rw[es];exact Jq)]at fG;rw[fG];refine S.af 5 ?_;refine S.store 4 ?_;exact⟨_,.cN 4 rfl rfl rfl rfl (.t rfl .nil),.none ⟨rfl,_,rfl,lv,wv,tv,rfl,hl,hw,ht⟩⟩
       ·exact .drop 0 (.drop 0 (.done ⟨by rw[es];exact Jq,rfl,.r rfl⟩))
      ·refine .drop 0 (.done ⟨?_,rfl,.r rfl⟩);unfold sameAs;rw[←hX];cases X with
       |none=>rfl
       |some x=>
        change (true&&decide ((p.1.length:Int)=0)&&(decide (v.sum<lo)||decide (hi≤v.sum)))=false at nJ;simp only;rw[UW];rw[aql]at nJ;rw[nJ];(try rfl)
     intro E ψ R ac hM;obtain⟨hsa,rfl,hE⟩:=hM;have hl:=hl.mono ac;have hw:=hw.mono ac;have ht:=ht.mono ac;have hd:=hd.mono ac;have nL:=nL.mono ac;have pc:=pc.mono ac;rw[pg (by rw[hsa];simp)]at fG;refine C.sub hE ?_;refine S.ld 3 ?_;refine S.ld 0 ?_;refine S.len ?_ (hl:=aa.len nL);refine S.bin ?_;refine S.bin ?_;refine S.bin ?_;refine SW.xk (fun E ψ R=>∃(v2:aW) (p2:List aV×List ag) (ip iu Jr Js:V),dz v lo hi=kL v v2 (v.seq+1) p2∧v2.trees=v.trees∧v2.next=v.next∧v2.id=v.id∧v2.d.wait.length≤100001∧v2.d.last.length≤1000000∧v2.d.arm≤1000000∧0≤v2.aU∧v2.aU≤1000000∧0≤v2.pos∧v2.pos≤1000∧p2.1.length≤64∧aa ec ψ ip v2.d.last∧aa nW ψ iu v2.d.wait∧aa bw ψ Jr p2.1∧aa aq ψ Js p2.2∧R=[(some ez,.cells [Jr,Js] false),(some gR,.cells [lv,wv,.j v.d.arm,.bool v.d.down,.j v.seq,.j v.sum,.j v.aU,.j v.pos,.j v.n,.j v.next,.j v.id,tv] false),(some cb,.cells [.no .sl,.no .sl,.j 0,.bool false,.j 0,.j 0,.j 0,.j 0,.j 0,.j 0,.j 0,.no .sl] false),(some a3,.cells [ip,iu,.j v2.d.arm,.bool v2.d.down,.j v2.seq,.j v2.sum,.j v2.aU,.j v2.pos,.j v2.n,.j v2.next,.j v2.id,tv] false)]∧Sub [(3,.ptr a3 0),(6,.ptr cb 0),(10,.j (v.seq+1)),(11,.ptr gR 0),(12,.ptr ez 0)] E) ?_ ?_
     ·refine C.D (fun aaM=>?_) fun aaM=>?_
      ·rw[B4 (by omega)]at fG;obtain⟨aK,j8⟩:∃aK,aK=rf v.d v.sum v.aU:=⟨_,rfl⟩
       have By:0≤aK.getD 0∧aK.getD 0≤1000000:=by
        cases aK with
        |none=>simp
        |some k=>
         have I:=MU v.aU 0 (lT v.d v.sum) k j8.symm;rw[CX]at I;have J:=hb.last;unfold bW at I;show 0≤k∧k≤1000000;omega
       have hfu:=C4 By.1 By.2;unfold writeNew at fG;refine S.af 3 ?_;refine S.ld 3 ?_;refine S.ld 3 ?_;refine S.ak (UK (sum:=v.sum) (eC:=v.aU) hd (by have:=hb.wait;omega) hb.last (by have:=hb.lX;omega)) ?_;rw[←j8];refine S.un ?_;refine G.mv ?_;refine G.ak (fun _=>va (s:=aK.getD 0) (by omega)) ?_;refine G.mv ?_;refine G.bin ?_;refine G.mv ?_;refine G.mv ?_;refine G.ak (fun _=>va (s:=aK.getD 0) (by omega)) ?_;refine G.bin ?_;refine G.mv ?_;refine G.bin ?_;refine G.jR ?_;refine G.mv ?_;refine G.mv ?_;refine G.mv ?_;refine G.bin ?_;refine G.jR ?_;refine G.or ?_;refine C.B (fun nM=>?_) fun nM=>?_
       ·have e:dz v lo hi=(v,8):=by
         rw[fG,←j8];cases aK with
         |none=>rfl
         |some aU=>
          change (!true||(decide (bO aU<hi)&&decide (lo<bO aU+64)&&decide (lo<hi)))=true at nM;simp only;rw[B4];simp only[aqR,aqu,G7,G6]at nM;exact⟨nM.1.1,nM.1.2,nM.2⟩
        rw[e];refine S.af 1 ?_;refine S.store 2 ?_;exact⟨_,.cN 2 rfl rfl rfl rfl (.t rfl .nil),.none ⟨rfl,_,rfl,lv,wv,tv,rfl,hl,hw,ht⟩⟩
       ·obtain⟨aU,rfl⟩:∃aU,aK=some aU:=by
         cases aK with
         |none=>simp at nM
         |some aU=>exact⟨aU,rfl⟩
        change 0≤aU∧aU≤1000000 at By;change 0≤bO aU∧bO aU≤64000002 at hfu;change (!true||(decide (bO aU<hi)&&decide (lo<bO aU+64)&&decide (lo<hi)))=false at nM;have DF:¬(bO aU<hi∧lo<bO aU+64∧lo<hi):=by rintro⟨DA,x2,Aj⟩;simp[DA,x2,Aj]at nM
        rw[←j8]at fG;simp only at fG;rw[pg DF]at fG;refine S.af 3 ?_;refine S.ld 3 ?_;refine S.ld 3 ?_;refine S.ak (va (s:=aU) (by omega)) ?_;refine S.bF 3 ?_ (hs:=ht.same);refine S.bF 3 ?_;refine S.dy 3 ?_ (hs:=CY hl hw);refine S.call (MT (sum:=v.sum) (gen:=v.seq+1) (fr:=bO aU) (lo:=lo) (hi:=hi) hd (by have:=hb.wait;omega) ht hb.dp (by omega)) fun aoz aoA aoB EC aaN=>?_;obtain⟨rfl,P7,P8,rfl,wJ,yG⟩:=aaN;have wnq:=wJ.av;have wrq:=yG.av;have hl:=hl.mono EC;have hw:=hw.mono EC;have ht:=ht.mono EC;have hd:=hd.mono EC;obtain⟨P2,ED⟩:∃P2,P2=lay v.d v.sum (v.seq+1) (bO aU) lo hi v.trees:=⟨_,rfl⟩
        rw[←ED]at wJ yG⊢;have eo:(P2.getD ([],[])).1.length≤14007:=by
         cases P2 with
         |none=>simp
         |some z=>exact UU ED.symm (fun h hh=>(hb.dp h hh).2)
        refine S.store 0 ?_;refine S.un ?_;refine G.aE ?_;refine G.ld 0 ?_;refine G.len ?_ (hl:=aa.len wJ);refine G.bin ?_;refine G.bin ?_;refine G.or ?_;refine C.B (fun qr=>?_) fun qr=>?_
        ·have e:dz v lo hi=(v,8):=by
          rw[fG,←ED];cases P2 with
          |none=>rfl
          |some z=>
           change (!true||decide (64<(z.1.length:Int)+1))=true at qr;simp only;rw[B4 (by simp at qr;omega)]
         rw[e];refine S.af 1 ?_;refine S.store 2 ?_;exact⟨_,.cN 2 rfl rfl rfl rfl (.t rfl .nil),.none ⟨rfl,_,rfl,lv,wv,tv,rfl,hl,hw,ht⟩⟩
        ·obtain⟨p2,rfl⟩:∃z,P2=some z:=by
          cases P2 with
          |none=>simp at qr
          |some z=>exact⟨z,rfl⟩
         change aa bw _ P7 p2.1 at wJ;change aa aq _ P8 p2.2 at yG;rw[←ED]at fG;simp only at fG;have tZ:p2.1.length+1≤64:=by
          change (!true||decide (64<(p2.1.length:Int)+1))=false at qr;simp at qr;omega
         rw[pg (by omega)]at fG;refine S.af 3 ?_;refine S.ld 3 ?_;refine S.bin ?_;refine S.ld 3 ?_;refine S.ld 3 ?_;refine S.build ?_;refine S.call (UM (v:=v) (x:=⟨v.n+1,v.seq,v.sum,aU,0⟩) ⟨lv,wv,tv,rfl,hl,hw,ht⟩ (by omega) hb.last hb.arm (by show 0≤v.n+1;omega)) fun aoC aoD aoE yH aaO=>?_;obtain⟨rfl,Oi,rfl,eY⟩:=aaO;have hl:=hl.mono yH;have hw:=hw.mono yH;have ht:=ht.mono yH;have hd:=hd.mono yH;have wJ:=wJ.mono yH;have yG:=yG.mono yH;obtain⟨sd,d3⟩:∃sd,sd=jr v.d ⟨v.n+1,v.seq,v.sum,aU,0⟩:=⟨_,rfl⟩
         have gQ:=C5 v.d ⟨v.n+1,v.seq,v.sum,aU,0⟩;rw[←d3]at gQ eY fG⊢;obtain⟨ip,iu,rfl,xY,cw,Jf,Jg⟩:=eY.open;refine S.alloc fun Bh=>?_;refine S.store 0 ?_;refine S.un ?_;refine C.B (fun Jt=>?_) fun Jt=>?_
         ·rw[B4 (by simpa using Jt)]at fG;rw[fG];refine S.af 2 ?_;refine S.af 0 ?_;refine S.call (MQ (v:=v) (d:=sd.1) ⟨lv,wv,tv,rfl,hl,hw,ht⟩ eY) fun aoF aoG aoH aoI aaP=>?_;obtain⟨rfl,P9,rfl,us⟩:=aaP;obtain⟨yy,yz,Bz,rfl,wu,zV,Qa,yA,yB,BA,Bo⟩:=us.open;refine S.store (v:=.agg (be yy yz Bz {v with d:=sd.1})) 3 ?_ (hs:=cT yA yB BA);exact⟨_,.cN 3 rfl rfl rfl rfl (.t rfl .nil),.none ⟨rfl,_,rfl,us⟩⟩
         ·rw[pg (by simpa using Jt)]at fG;refine S.af 0 ?_;refine S.ld 4 ?_;refine S.bin ?_;refine S.store 4 ?_;refine S.store 4 ?_;refine S.store 4 ?_;refine S.store 4 ?_;exact .drop 0 (.done ⟨{v with d:=sd.1,n:=v.n+1,aU:=aU,pos:=0},p2,ip,iu,P7,P8,fG,rfl,rfl,rfl,by show sd.1.wait.length≤_;omega,by show sd.1.last.length≤_;omega,by show sd.1.arm≤_;omega,By.1,By.2,aqc 0,by show(0:Int)≤1000;decide,by omega,xY,cw,wJ,yG,rfl,.r rfl⟩)
      ·rw[pg (by omega)]at fG;exact .done ⟨v,p,lv,wv,GM,Jp,fG,rfl,rfl,rfl,by omega,HB,b12,hb.nc,oF,g0,f9,by omega,hl,hw,nL,pc,rfl,.r rfl⟩
     intro E ψ R ac hM;obtain⟨v2,p2,ip,iu,Jr,Js,Ju,g1,g2,l8,A4,A5,IF,aaQ,aaR,aoJ,g10,g11,gl,ut,gn,uu,rfl,hE⟩:=hM;have hl:=hl.mono ac;have hw:=hw.mono ac;have ht:=ht.mono ac;have hd:=hd.mono ac;have gls:=gl.av;have gws:=ut.av;have gns:=gn.av;have grs:=uu.av;have tE:=C4 aaQ aaR;rw[Ju];refine C.sub hE ?_;refine S.ld 3 ?_;refine S.ld 3 ?_;refine S.ak (va (s:=v2.aU) (by omega)) ?_;refine S.bF 3 ?_;refine S.bin ?_;refine S.af 3 ?_;refine S.ld 0 ?_;refine S.call (UL (d:=v2.d) (fr:=bO v2.aU+v2.pos) (l:=p2.1) ⟨ip,iu,rfl,gl,ut⟩ gn (by omega) A5 IF (by omega) (by omega)) fun aoK aoL aoM uv aaS=>?_;obtain⟨rfl,cs4,rfl,yI⟩:=aaS;have hl:=hl.mono uv;have hw:=hw.mono uv;have ht:=ht.mono uv;have hd:=hd.mono uv;have gl:=gl.mono uv;have ut:=ut.mono uv;have gn:=gn.mono uv;have uu:=uu.mono uv;obtain⟨R1,EE⟩:∃R1,R1=dN v2.d (bO v2.aU+v2.pos) p2.1:=⟨_,rfl⟩
     have xP:=GL p2.1 v2.d (bO v2.aU+v2.pos);rw[←EE]at yI xP⊢;obtain⟨lv4,wv4,rfl,hl4,hw4,sl4,sw4⟩:=yI.open;refine S.alloc fun a25=>?_;refine S.store 0 ?_;refine S.un ?_;refine C.B (fun EF=>?_) fun EF=>?_
     ·have e:kL v v2 (v.seq+1) p2=({v with d:=R1.1},11):=by unfold kL;simp only;rw[←EE,B4 (by simpa using EF)]
      rw[e];refine S.af 2 ?_;refine S.af 0 ?_;refine S.call (MQ (v:=v) (d:=R1.1) ⟨lv,wv,tv,rfl,hl,hw,ht⟩ yI) fun aoN aoO aoP aoQ aaT=>?_;obtain⟨rfl,P9,rfl,us⟩:=aaT;obtain⟨yy,yz,Bz,rfl,wu,zV,Qa,yA,yB,BA,Bo⟩:=us.open;refine S.store (v:=.agg (be yy yz Bz {v with d:=R1.1})) 3 ?_ (hs:=cT yA yB BA);exact⟨_,.cN 3 rfl rfl rfl rfl (.t rfl .nil),.none ⟨rfl,_,rfl,us⟩⟩
     ·refine S.af 0 ?_;refine S.ld 1 ?_;refine S.len ?_ (hl:=aa.len gn);refine S.bin ?_;refine S.ld 4 ?_;refine S.ld 4 ?_;refine S.ld 1 ?_;refine S.ak (Uk (gen:=v.seq+1) (next:=v2.next) (id:=v2.id) uu) ?_;refine S.bF 1 ?_ (hs:=gn.same);refine S.dy 0 ?_ (hs:=CY hl4 hw4);refine S.zt (e:=bw) [gh (v.seq+1) v2.next v2.id p2.2] fun aoR aoS ss aaU=>?_;have yI:=yI.mono ss;have hl:=hl.mono ss;have hw:=hw.mono ss;have ht:=ht.mono ss;have hd:=hd.mono ss;have gl:=gl.mono ss;have ut:=ut.mono ss;have gn:=gn.mono ss;have uu:=uu.mono ss;refine S.call (UL (d:=R1.1) (fr:=bO v2.aU+v2.pos+p2.1.length) (l:=[gh (v.seq+1) v2.next v2.id p2.2]) yI aaU (by simp;omega) (by omega) (by omega) (by omega) (by omega)) fun aoT aoU aoV uw aaV=>?_;obtain⟨rfl,cs5,rfl,Jv⟩:=aaV;have hl:=hl.mono uw;have hw:=hw.mono uw;have ht:=ht.mono uw;have hd:=hd.mono uw;have gl:=gl.mono uw;have ut:=ut.mono uw;have gn:=gn.mono uw;have uu:=uu.mono uw;obtain⟨R2,BB⟩:∃R2,R2=dN R1.1 (bO v2.aU+v2.pos+p2.1.length) [gh (v.seq+1) v2.next v2.id p2.2]:=⟨_,rfl⟩
      rw[←BB]at Jv⊢;obtain⟨lv5,wv5,rfl,hl5,Jw,sl5,sw5⟩:=Jv.open;refine S.store 0 ?_;refine S.un ?_;refine C.B (fun Jx=>?_) fun Jx=>?_
      ·have e:kL v v2 (v.seq+1) p2=({v with d:=R2.1},11):=by unfold kL;simp only;rw[←EE,pg (by simpa using EF),←BB,B4 (by simpa using Jx)]
       rw[e];refine S.af 2 ?_;refine S.af 0 ?_;refine S.call (MQ (v:=v) (d:=R2.1) ⟨lv,wv,tv,rfl,hl,hw,ht⟩ Jv) fun aoW aoX aoY aoZ aaW=>?_;obtain⟨rfl,P9,rfl,us⟩:=aaW;obtain⟨yy,yz,Bz,rfl,wu,zV,Qa,yA,yB,BA,Bo⟩:=us.open;refine S.store (v:=.agg (be yy yz Bz {v with d:=R2.1})) 3 ?_ (hs:=cT yA yB BA);exact⟨_,.cN 3 rfl rfl rfl rfl (.t rfl .nil),.none ⟨rfl,_,rfl,us⟩⟩
      ·have e:kL v v2 (v.seq+1) p2=({v2 with d:=R2.1,seq:=v.seq+1,sum:=bO v2.aU+v2.pos+p2.1.length,pos:=v2.pos+p2.1.length+1},0):=by unfold kL;simp only;rw[←EE,pg (by simpa using EF),←BB,pg (by simpa using Jx)]
       rw[e];rw[←g1]at ht;refine S.af 0 ?_;refine S.ld 1 ?_;refine S.len ?_ (hl:=aa.len gn);refine S.bin ?_;refine S.ld 4 ?_;refine S.ld 1 ?_;refine S.len ?_ (hl:=aa.len gn);refine S.bin ?_;refine S.bin ?_;refine S.store 4 ?_;refine S.bF 1 ?_ (hs:=gn.same);refine S.bF 1 ?_ (hs:=gn.same);refine S.store 4 ?_;refine S.bF 1 ?_ (hs:=gn.same);refine S.bF 1 ?_ (hs:=gn.same);refine S.store 4 ?_;refine S.bF 1 ?_ (hs:=gn.same);refine S.store 4 ?_;refine S.af 4 ?_;refine S.store 3 ?_;exact⟨_,.cN 3 rfl rfl rfl rfl (.t rfl .nil),.none ⟨rfl,_,rfl,lv5,wv5,tv,rfl,hl5,Jw,ht⟩⟩
end Go.Ev
set_option maxHeartbeats 2000000
namespace Go.Ev
variable{F:Nat→Option aN} {O:Fz}
theorem MX [Fx F] {cs ds:List V} {v x:aW} (hv:bZ O cs v) (hx:bZ O ds x) (hb:VB x):
 ai F 133 [.agg cs,.agg ds] O [] (fun r ψ R=>R=[]∧∃cs',r=.aM [.agg cs',.j (eU v x).2]∧bZ ψ cs' (eU v x).1) never:=by
 obtain⟨lv,wv,tv,rfl,hl,hw,ht,sl,sw,st,hd⟩:=hv.open;obtain⟨lx,wx,tx,rfl,sj,uq,EG,mB,mC,ux,Jk⟩:=hx.open;refine au ?_;refine S.box fun a2=>?_;refine S.box fun a3=>?_;refine S.alloc fun a4=>?_;refine S.af 1 ?_;refine S.call (MW (v:=x) (lo:=0) (hi:=0) hx hb) fun eL rK Jy nu dA=>?_;obtain⟨rfl,ao0,rfl,Jz⟩:=dA;have hl:=hl.mono nu;have hw:=hw.mono nu;have ht:=ht.mono nu;have hd:=hd.mono nu;obtain⟨ly,wy,ty,rfl,gt,gu,fY,cA,cB,cC,jI⟩:=Jz.open;obtain⟨y,hy⟩:∃y,y=dz x 0 0:=⟨_,rfl⟩
 rw[←hy]at Jz gt gu fY jI⊢;refine S.alloc fun cb=>?_;refine S.store (v:=.agg (be ly wy ty y.1)) 0 ?_ (hs:=cT cA cB cC);refine S.bin ?_;refine C.D (fun dG=>?_) fun dG=>?_
 ·have e:eU v x=({v with d:=y.1.d},y.2):=by unfold eU;simp only;rw[←hy,B4 dG,dG]
  rw[e];refine S.af 0 ?_;refine S.store (v:=.agg [ly,wy,.j y.1.d.arm,.bool y.1.d.down]) 3 ?_;refine S.af 3 ?_;refine S.store 1 ?_;exact⟨_,.cN 1 rfl rfl rfl rfl (.t rfl .nil),.none ⟨rfl,_,rfl,ly,wy,tv,rfl,gt,gu,ht⟩⟩
 ·refine S.bin ?_;refine C.B (fun jG=>?_) fun jG=>?_
  ·have e:eU v x=(v,y.2):=by unfold eU;simp only;rw[←hy,pg dG,B4 (by simpa using jG)]
   rw[e];refine S.af 3 ?_;refine S.store 1 ?_;exact⟨_,.cN 1 rfl rfl rfl rfl (.t rfl .nil),.none ⟨rfl,_,rfl,lv,wv,tv,rfl,hl,hw,ht⟩⟩
  ·have e:eU v x=(y.1,0):=by unfold eU;simp only;rw[←hy,pg dG,pg (by simpa using jG)]
   rw[e];refine S.af 0 ?_;refine S.store (v:=.agg (be ly wy ty y.1)) 1 ?_ (hs:=cT cA cB cC);exact⟨_,.cN 1 rfl rfl rfl rfl (.t rfl .nil),.none ⟨rfl,_,rfl,Jz⟩⟩
theorem ajJ [Fx F] {cs:List V} {v:aW} (hv:bZ O cs v) (hb:VB v):
 ai F 135 [.agg cs] O [] (fun r ψ R=>R=[]∧∃cs',r=.aM [.agg cs',.j (eU v v).2]∧bZ ψ cs' (eU v v).1) never:=by
 obtain⟨lv,wv,tv,rfl,hl,hw,ht,sl,sw,st,hd⟩:=hv.open;refine au ?_;refine S.box fun bs=>?_;refine S.alloc fun a2=>?_;refine S.af 1 ?_;refine S.af 1 ?_;refine S.call (MX hv hv hb) fun v6 BC O6 uy h6=>?_;obtain⟨rfl,cs6,rfl,Qb⟩:=h6;have hl:=hl.mono uy;have hw:=hw.mono uy;have ht:=ht.mono uy;have hd:=hd.mono uy;obtain⟨ly,wy,ty,rfl,gt,gu,fY,cA,cB,cC,jI⟩:=Qb.open;refine S.store (v:=.agg (be ly wy ty (eU v v).1)) 0 ?_ (hs:=cT cA cB cC);exact⟨_,.cN 0 rfl rfl rfl rfl (.t rfl .nil),.none ⟨rfl,_,rfl,Qb⟩⟩
theorem ajK [Fx F] {cs:List V} {v:aW} {id:Int} (hv:bZ O cs v) (hb:VB v):
 ai F 137 [.agg cs,.j id] O [] (fun r ψ R=>R=[]∧∃cs',r=.aM [.agg cs',.j (pL v id).2]∧bZ ψ cs' (pL v id).1) never:=by
 obtain⟨lv,wv,tv,rfl,hl,hw,ht,sl,sw,st,hd⟩:=hv.open;refine au ?_;refine S.box fun a2=>?_;refine S.alloc fun a4=>?_;refine S.af 1 ?_;refine S.call (UO (kind:=3) (id:=id) hv hb.trees) fun p9 AA AB qa dB=>?_;obtain⟨rfl,ao1,rfl,JA⟩:=dB;have hl:=hl.mono qa;have hw:=hw.mono qa;have ht:=ht.mono qa;have hd:=hd.mono qa;obtain⟨ly,wy,ty,rfl,gt,gu,fY,cA,cB,cC,jI⟩:=JA.open;have hv:=hv.mono qa;obtain⟨X,hX⟩:∃X,X=hS v.trees 3 id:=⟨_,rfl⟩
 rw[←hX]at JA gt gu fY jI⊢;refine S.alloc fun cb=>?_;refine S.store (v:=.agg (be ly wy ty {v with trees:=X.getD v.trees})) 0 ?_ (hs:=cT cA cB cC);refine S.un ?_;refine C.B (fun cp=>?_) fun cp=>?_
 ·have e:pL v id=(v,2):=by
   unfold pL;rw[←hX];cases X with
   |none=>rfl
   |some z=>simp at cp
  rw[e];refine S.af 2 ?_;refine S.store 1 ?_;exact⟨_,.cN 1 rfl rfl rfl rfl (.t rfl .nil),.none ⟨rfl,_,rfl,lv,wv,tv,rfl,hl,hw,ht⟩⟩
 ·obtain⟨l,rfl⟩:∃z,X=some z:=ap4.1 (by simpa using cp);have e:pL v id=eU v {v with trees:=l}:=by unfold pL;rw[←hX]
  rw[e];have aaX:∀(l k:List bD),hS l 3 id=some k→k.length≤l.length∧∀h∈k,h∈l:=by
   intro l;induction l with
   |nil=>intro k hk;cases hk
   |cons a l ih=>
    intro k hk;simp only[hS]at hk;split at hk
    ·cases hk;exact⟨by simp,fun h hh=>amI _ hh⟩
    ·obtain⟨z,z1,z2⟩:=aqp.1 hk;subst z2;obtain⟨aaY,JB⟩:=ih z z1;refine⟨by simp;omega,fun h hh=>?_⟩;rcases Ro.1 hh with I|I
     ·rw[I];exact apV
     ·exact amI _ (JB h I)
  obtain⟨np,oL⟩:=aaX _ _ hX.symm;have dl:VB {v with trees:=l}:={wait:=hb.wait,last:=hb.last,arm:=hb.arm,nb:=hb.nb,seq1:=hb.seq1,ri:=hb.ri,lX:=hb.lX,nc:=hb.nc,lY:=hb.lY,ju:=hb.ju,og:=hb.og,n0:=hb.n0,n1:=hb.n1,trees:=aqb np hb.trees,dp:=fun h hh=>hb.dp h (oL h hh)}
  refine S.af 2 ?_;refine S.af 0 ?_;refine S.call (MX hv JA dl) fun mr wa wb r8 cu=>?_;obtain⟨rfl,aaZ,rfl,yJ⟩:=cu;obtain⟨wK,wL,BD,rfl,JC,JD,htz,yK,yL,BE,hdz⟩:=yJ.open;refine S.store (v:=.agg (be wK wL BD (eU v {v with trees:=l}).1)) 1 ?_ (hs:=cT yK yL BE);exact⟨_,.cN 1 rfl rfl rfl rfl (.t rfl .nil),.none ⟨rfl,_,rfl,yJ⟩⟩
theorem ajL [Fx F] {cs:List V} {v:aW} {id:Int} (hv:bZ O cs v) (hb:VB v):
 ai F 138 [.agg cs,.j id] O [] (fun r ψ R=>R=[]∧∃cs',r=.aM [.agg cs',.j (pM v id).2]∧bZ ψ cs' (pM v id).1) never:=by
 obtain⟨lv,wv,tv,rfl,hl,hw,ht,sl,sw,st,hd⟩:=hv.open;refine au ?_;refine S.box fun a2=>?_;refine S.alloc fun a4=>?_;refine S.af 1 ?_;refine S.call (GH (kind:=3) (id:=id) hv hb.trees) fun p9 AA AB qa dB=>?_;obtain⟨rfl,rfl,w,rfl,dP,cw⟩:=dB;have uo:=w.2.2;obtain⟨X,hX⟩:∃X,X=kK v.trees 3 id:=⟨_,rfl⟩
 rw[←hX]at dP cw⊢;refine S.alloc fun cb=>?_;refine S.store (v:=.agg (fC.f w)) 0 ?_ (hs:=fC.sc w);refine S.un ?_;refine C.B (fun cp=>?_) fun cp=>?_
 ·have e:pM v id=(v,2):=by
   unfold pM;rw[←hX];cases X with
   |none=>rfl
   |some z=>simp at cp
  rw[e];refine S.af 2 ?_;refine S.store 1 ?_;exact⟨_,.cN 1 rfl rfl rfl rfl (.t rfl .nil),.none ⟨rfl,_,rfl,lv,wv,tv,rfl,hl,hw,ht⟩⟩
 ·obtain⟨h,rfl⟩:∃z,X=some z:=ap4.1 (by simpa using cp);have e:pM v id=({v with trees:=lV v.trees h.t},0):=by unfold pM;rw[←hX]
  rw[e];change aa aH _ w.2.1 h.t at cw;have JE:=(hb.dp h (UR hX.symm)).1;refine S.af 2 ?_;refine S.ld 0 ?_;refine S.call (US hv hb.trees cw JE) fun v20 sb yr se cU=>?_;obtain⟨rfl,ao2,rfl,Qc⟩:=cU;obtain⟨ly,wy,ty,rfl,gt,gu,fY,cA,cB,cC,jI⟩:=Qc.open;refine S.store (v:=.agg (be ly wy ty {v with trees:=lV v.trees h.t})) 1 ?_ (hs:=cT cA cB cC);exact⟨_,.cN 1 rfl rfl rfl rfl (.t rfl .nil),.none ⟨rfl,_,rfl,Qc⟩⟩
end Go.Ev
namespace Go.Ev
variable{F:Nat→Option aN} {O:Fz}
def C6:Bs:=List.replicate 64 0
def UX (n:Nat):ay:=⟨List.replicate n C6,[],0,false⟩
theorem ajM [Fx F]:bk F 68 [] O (.str C6):=by
 refine ai.ak (au ?_);refine S.u0 (e:=aQ) (0:UInt8) (n:=64) (by omega) (by omega) fun bs o1=>?_;refine S.jS 0 o1 ?_;refine⟨_,.t rfl .nil,.done ?_⟩;rfl
theorem ajN [Fx F] {n:Nat} (hn:n≤770):
 ai F 43 [.j (n:Int)] O [] (fun r ψ R=>R=[]∧∃cs,r=.agg cs∧cP ψ cs (UX n)) never:=by
 refine au ?_;refine S.alloc fun a2=>?_;refine S.build ?_;refine S.alloc fun a3=>?_;refine S.store 0 ?_;refine SW.new ec ?_;refine SW.bG (fun m E ψ R=>∃(j:Nat) (v:V) (s:Option Pa),j+m=n∧O=ψ∧R=[ec.ob s (List.replicate j C6),(some a3,.cells [v,.no .sl,.j 0,.bool false] false),(some a2,.cells [.no .sl,.no .sl,.j 0,.bool false] false)]∧ae ec v (List.replicate j C6) s∧Sub [(0,.j (n:Int)),(2,.ptr a2 0),(3,.ptr a3 0),(4,.j (j:Int))] E) (m:=n) (.done ⟨0,.no .sl,none,by omega,rfl,rfl,ae.nil,.r rfl⟩) ?_;intro m0 E ψ R ac hI;obtain⟨j,v,s,e5,rfl,rfl,ho,hE⟩:=hI;refine C.sub hE ?_;refine S.bin ?_;refine G.mv ?_;refine G.bin ?_;refine G.and ?_;refine C.B (fun k8=>?_) fun k8=>?_
 ·simp only[G7,G6]at k8;refine S.ld 1 ?_;refine S.ak (ajM) ?_;refine S.bF 1 ?_ (hs:=ho.same);refine S.a8 fun p6=>?_;refine S.bu (m:=[C6]) 1 ho (.lit 0) (by simp;omega) fun mr s19 JF=>?_;refine S.drop 0 ?_;have w19:=JF.av;rw[←List.replicate_succ']at JF⊢;refine S.aE ?_;refine S.hK 1 ?_;refine S.bin ?_;exact⟨m0-1,by omega,.done ⟨j+1,mr,s19,by omega,rfl,rfl,JF,.r rfl⟩⟩
 ·have hj:j=n:=by simp only[aqs,NI]at k8;omega
  subst hj;have wv:=ho.av;refine S.af 1 ?_;refine S.store 2 ?_;exact⟨_,.cN 2 rfl rfl rfl rfl .nil,.bR 0 rfl ho fun o4 la hf=>.none ⟨rfl,_,rfl,v,.no .sl,rfl,hf,aa.nil _⟩⟩
end Go.Ev
namespace Go.Ev
theorem UY {h x:bD}:∀{l:List bD},x∈lU h l→x=h∨x∈l
 |[],hx=>.inl (aqj.1 hx)
 |a::l,hx=>by
  simp only[lU]at hx;split at hx
  ·rcases Ro.1 hx with I|I
   ·exact .inl I
   ·exact .inr I
  ·rcases Ro.1 hx with I|I
   ·exact .inr (Ro.2 (.inl I))
   ·rcases UY I with J|J
    ·exact .inl J
    ·exact .inr (amI _ J)
theorem UZ {k i:Int} {x:bD}:∀{l r:List bD},hS l k i=some r→x∈r→x∈l
 |[],_,h,_=>by cases h
 |a::l,r,h,hx=>by
  simp only[hS]at h;split at h
  ·cases h;exact amI _ hx
  ·obtain⟨z,z1,z2⟩:=aqp.1 h;subst z2;rcases Ro.1 hx with I|I
   ·rw[I];exact apV
   ·exact amI _ (UZ z1 I)
theorem U0 {h x:bD} {l:List bD} (hx:x∈fi l h):x=h∨x∈l:=by
 unfold fi at hx;rcases UY hx with I|I
 ·exact .inl I
 ·refine .inr ?_;cases hl:hS l h.r.kind h.r.id with
  |none=>rw[hl]at I;exact I
  |some r=>rw[hl]at I;exact UZ hl I
theorem MY {l:List bD} {P:an→Prop} (h0:P u1) (hp:∀h∈l,P h.t):P (et l):=by
 unfold et;cases hf:kK l 1 0 with
 |none=>exact h0
 |some h=>exact hp h (arG hf)
end Go.Ev
set_option maxHeartbeats 4000000
namespace Go.Ev
variable{F:Nat→Option aN} {O:Fz}
theorem U1:bN u1∧(cn u1).length≤1000:=⟨⟨by decide,by decide⟩,by decide+kernel⟩
theorem GN {O:Fz} {lv wv tv:V} {v:aW} (hl:aa ec O lv v.d.last) (hw:aa nW O wv v.d.wait) (ht:js O tv v.trees):same (.agg (be lv wv tv v)) (.agg (be lv wv tv v))=true:=by
 simp[be,same,cm,hl.dd,hw.dd,ht.dd,fv,mU]
theorem ajO [Fx F] {cs:List V} {v:aW} (hv:bZ O cs v) (hb:VB v) (di:v.trees.length≤900000) (DD:0≤v.id) (rR:v.id≤1000000) (m5:0≤v.next):
 ai F 136 [.agg cs] O [] (fun r ψ R=>R=[]∧∃cs',r=.aM [.agg cs',.j (lW v).2.1,.j (lW v).2.2]∧bZ ψ cs' (lW v).1) never:=by
 obtain⟨lv,wv,tv,rfl,hl,hw,ht,sl,sw,st,hd⟩:=hv.open;refine au ?_;refine S.box fun bs=>?_;refine S.alloc fun a2=>?_;refine S.af 1 ?_;refine S.ak (ajF hv hb.trees) ?_;refine S.bin ?_;refine G.aE ?_;refine G.ld 1 ?_;refine G.bin ?_;refine G.or ?_;refine C.B (fun cp=>?_) fun cp=>?_
 ·have e:lW v=(v,0,8):=by
   unfold lW;rw[B4];simp only[amt,G6]at cp;rcases cp with h|h
   ·exact .inl (by omega)
   ·exact .inr h
  rw[e];refine S.af 1 ?_;refine S.store 0 ?_;exact⟨_,.cN 0 rfl rfl rfl rfl (.t rfl (.t rfl .nil)),.none ⟨rfl,_,rfl,lv,wv,tv,rfl,hl,hw,ht⟩⟩
 ·simp only[W0,NI]at cp;have iO:lW v=(if(eU v {v with trees:=fi v.trees ⟨⟨3,v.next,v.id*65536+v.next,0,0⟩,et v.trees⟩,next:=v.next+1}).2≠0 then((eU v {v with trees:=fi v.trees ⟨⟨3,v.next,v.id*65536+v.next,0,0⟩,et v.trees⟩,next:=v.next+1}).1,0,(eU v {v with trees:=fi v.trees ⟨⟨3,v.next,v.id*65536+v.next,0,0⟩,et v.trees⟩,next:=v.next+1}).2)else((eU v {v with trees:=fi v.trees ⟨⟨3,v.next,v.id*65536+v.next,0,0⟩,et v.trees⟩,next:=v.next+1}).1,v.next,0)):=by
   unfold lW;rw[pg (by omega)]
  refine S.af 1 ?_;refine S.ld 1 ?_;refine S.ld 1 ?_;refine S.bin ?_;refine S.ld 1 ?_;refine S.bin ?_;refine S.build ?_;refine S.af 1 ?_;refine S.alloc fun a5=>?_;refine S.call (MM hv hb.trees) fun nE yn A0 oW dv=>?_;obtain⟨rfl,dv⟩:=dv;have w28:=dv.av;have hv:=hv.mono oW;have hl:=hl.mono oW;have hw:=hw.mono oW;have ht:=ht.mono oW;have hd:=hd.mono oW;refine S.jq 0 ?_;refine S.bF 2 ?_;refine S.bF 2 ?_;refine S.bF 2 ?_;refine S.dy 2 ?_ (hs:=GN hl hw ht);refine S.build ?_;refine S.call (UQ (h:=⟨⟨3,v.next,v.id*65536+v.next,0,0⟩,et v.trees⟩) (ht:=⟨nE,w28⟩) hv hb.trees dv) fun Qd Qe Qf wM i4=>?_;obtain⟨rfl,ao3,rfl,aa0⟩:=i4;have hv:=hv.mono wM;have hl:=hl.mono wM;have hw:=hw.mono wM;have ht:=ht.mono wM;have hd:=hd.mono wM;obtain⟨ly,wy,ty,rfl,gt,gu,fY,cA,cB,cC,jI⟩:=aa0.open;refine S.jq 0 ?_;refine S.store (v:=.agg (be ly wy ty {v with trees:=fi v.trees ⟨⟨3,v.next,v.id*65536+v.next,0,0⟩,et v.trees⟩})) 0 ?_ (hs:=cT cA cB cC);refine S.ld 0 ?_;refine S.bin ?_ (v:=.j (v.next+1)) (hv:=ei (by omega) (by omega));refine S.store 0 ?_;refine S.af 2 ?_;refine S.af 0 ?_;have Bq:(fi v.trees ⟨⟨3,v.next,v.id*65536+v.next,0,0⟩,et v.trees⟩).length≤1000000:=by
   unfold fi;rw[UP];exact aqb (Nat.succ_le_succ (MO (l:=v.trees))) (by omega)
  have HM:∀h∈fi v.trees ⟨⟨3,v.next,v.id*65536+v.next,0,0⟩,et v.trees⟩,bN h.t∧(cn h.t).length≤1000:=fun h hh=>by
   rcases U0 hh with I|I
   ·rw[I];exact MY (P:=fun t=>bN t∧(cn t).length≤1000) U1 hb.dp
   ·exact hb.dp h I
  have hbx:VB {v with trees:=fi v.trees ⟨⟨3,v.next,v.id*65536+v.next,0,0⟩,et v.trees⟩,next:=v.next+1}:={wait:=hb.wait,last:=hb.last,arm:=hb.arm,nb:=hb.nb,seq1:=hb.seq1,ri:=hb.ri,lX:=hb.lX,nc:=hb.nc,lY:=hb.lY,ju:=hb.ju,og:=hb.og,n0:=hb.n0,n1:=hb.n1,trees:=Bq,dp:=HM}
  refine S.call (MX (x:={v with trees:=fi v.trees ⟨⟨3,v.next,v.id*65536+v.next,0,0⟩,et v.trees⟩,next:=v.next+1}) hv ⟨ly,wy,ty,rfl,gt,gu,fY⟩ hbx) fun ya yM EH BF fZ=>?_;obtain⟨rfl,ao4,rfl,EI⟩:=fZ;obtain⟨Y,hY⟩:∃Y,Y=eU v {v with trees:=fi v.trees ⟨⟨3,v.next,v.id*65536+v.next,0,0⟩,et v.trees⟩,next:=v.next+1}:=⟨_,rfl⟩
  rw[←hY]at EI iO⊢;obtain⟨wK,wL,BD,rfl,JC,JD,htz,yK,yL,BE,hdz⟩:=EI.open;refine S.alloc fun cb=>?_;refine S.store (v:=.agg (be wK wL BD Y.1)) 0 ?_ (hs:=cT yK yL BE);refine S.bin ?_;refine C.B (fun iM=>?_) fun iM=>?_
  ·rw[B4 (by simpa using iM)]at iO;rw[iO];refine S.af 0 ?_;refine S.store (v:=.agg (be wK wL BD Y.1)) 2 ?_ (hs:=cT yK yL BE);exact⟨_,.cN 2 rfl rfl rfl rfl (.t rfl (.t rfl .nil)),.none ⟨rfl,_,rfl,EI⟩⟩
  ·rw[pg (by simpa using iM)]at iO;rw[iO];refine S.af 0 ?_;refine S.ld 3 ?_;refine S.store (v:=.agg (be wK wL BD Y.1)) 2 ?_ (hs:=cT yK yL BE);refine S.bF 3 ?_;exact⟨_,.cN 2 rfl rfl rfl rfl (.t rfl (.t rfl .nil)),.none ⟨rfl,_,rfl,EI⟩⟩
end Go.Ev
namespace Go.Ev
def DB (v w:aW):Prop:=w.d.last.length=v.d.last.length∧w.d.wait.length≤v.d.wait.length+100∧w.d.arm≤max v.d.arm 0
theorem DB.refl (v:aW):DB v v:=⟨rfl,by omega,by omega⟩
theorem U2 {st v:aW} {gen:Int} {p:List aV×List ag} (h:v.d.last.length=st.d.last.length∧v.d.wait.length≤st.d.wait.length+1∧v.d.arm≤max st.d.arm 0) (hp:p.1.length≤64):DB st (kL st v gen p).1:=by
 obtain⟨I,J,h3⟩:=GL p.1 v.d (bO v.aU+v.pos);obtain⟨k1,k2,k3⟩:=GL [gh gen v.next v.id p.2] (dN v.d (bO v.aU+v.pos) p.1).1 (bO v.aU+v.pos+p.1.length);simp only[WW,aqW]at k2;unfold kL;simp only;split
 ·exact⟨by show(dN _ _ _).1.last.length=_;omega,by show(dN _ _ _).1.wait.length≤_;omega,by show(dN _ _ _).1.arm≤_;omega⟩
 ·split
  ·exact⟨by show(dN (dN _ _ _).1 _ _).1.last.length=_;omega,by show(dN (dN _ _ _).1 _ _).1.wait.length≤_;omega,by show(dN (dN _ _ _).1 _ _).1.arm≤_;omega⟩
  ·exact⟨by show(dN (dN _ _ _).1 _ _).1.last.length=_;omega,by show(dN (dN _ _ _).1 _ _).1.wait.length≤_;omega,by show(dN (dN _ _ _).1 _ _).1.arm≤_;omega⟩
theorem C7 {v:aW} {lo hi:Int} (JG:0≤v.pos):DB v (dz v lo hi).1:=by
 unfold dz;split
 ·exact .refl v
 ·split
  ·exact .refl v
  ·split
   ·exact .refl v
   ·split
    ·exact .refl v
    ·split
     ·exact .refl v
     ·split
      ·unfold writeNew;split
       ·exact .refl v
       ·rename_i aU JH;split
        ·exact .refl v
        ·split
         ·exact .refl v
         ·rename_i p2 tZ;split
          ·exact .refl v
          ·have hs:=C5 v.d ⟨v.n+1,v.seq,v.sum,aU,0⟩;simp only;split
           ·exact⟨hs.1,by show(jr _ _).1.wait.length≤_;omega,hs.2.2⟩
           ·exact U2 hs (by omega)
      ·exact U2 ⟨rfl,by omega,by omega⟩ (by omega)
end Go.Ev
set_option maxHeartbeats 4000000
namespace Go.Ev
variable{F:Nat→Option aN} {O:Fz}
def iq (bi:Nat) (id:Int):aW:=⟨UX (2+bi*64),0,0,0,0,0,1,id,[⟨⟨1,0,0,0,0⟩,u1⟩]⟩
def xC (w:aW):ay×Bool:=jr w.d ⟨1,w.seq,w.sum,w.aU,w.pos⟩
def vd (bi:Nat) (id:Int):aW×Bool:=({(dz (iq bi id) 0 0).1 with d:=(xC (dz (iq bi id) 0 0).1).1,n:=1},decide ((dz (iq bi id) 0 0).2=0)&&(xC (dz (iq bi id) 0 0).1).2)
theorem U3 {bi:Nat} {id:Int} (h:bi≤12):VB (iq bi id):={wait:=by show 0≤100000;omega,last:=by show(List.replicate _ _).length≤1000000;rw[aqL];omega,arm:=by show(0:Int)≤1000000;omega,nb:=aqc 0,seq1:=by show(0:Int)≤1073741824;omega,ri:=aqc 0,lX:=by show(0:Int)≤1000000000;omega,nc:=aqc 0,lY:=by show(0:Int)≤1000000;omega,ju:=aqc 0,og:=by show(0:Int)≤1000;omega,n0:=aqc 0,n1:=by show(0:Int)≤1000000000000;omega,trees:=by show 1≤1000000;omega,dp:=fun x hx=>by rw[aqj.1 hx];exact U1}
theorem ajP [Fx F] {bi:Nat} {id:Int} (h4:4≤bi) (cd:bi≤12) (DD:0≤id) (rR:id≤1000):
 ai F 26 [.j (bi:Int),.j id] O [] (fun r ψ R=>R=[]∧∃cs',r=.aM [.agg cs',.bool (vd bi id).2]∧bZ ψ cs' (vd bi id).1) never:=by
 refine au ?_;refine S.alloc fun a4=>?_;refine S.bin ?_;refine G.mv ?_;refine G.bin ?_;refine G.or ?_;refine G.mv ?_;refine G.bin ?_;refine G.or ?_;refine G.mv ?_;refine G.bin ?_;refine G.or ?_;refine C.B (fun eu=>?_) fun eu=>?_
 ·simp only[amt,G6]at eu;exfalso;omega
 ·refine S.bin ?_ (v:=.j ((bi*64:Nat):Int)) (hv:=by rw[F5 (by omega) (by omega)];(try rfl));refine S.bin ?_ (v:=.j ((2+bi*64:Nat):Int)) (hv:=by rw[ei (by omega) (by omega)];(try rfl));refine S.call (ajN (n:=2+bi*64) (by omega)) fun nE yn A0 oW dv=>?_;obtain⟨rfl,ds,rfl,hd⟩:=dv;obtain⟨lv,wv,rfl,hl,hw,sl,sw⟩:=hd.open;refine S.build ?_;refine S.call (TW) fun vT rV AP mn fp=>?_;obtain⟨fp,rfl⟩:=fp;have mD:=fp.av;refine S.build ?_;refine S.a8 fun JI=>?_;have ws:ae fC (.sl JI 0 1 (.ex 1)) [((⟨1,0,0,0,0⟩:dn),(⟨vT,mD⟩:SV))] (some JI):=ae.new rfl;refine S.ct 0 ws fun wq ud io=>?_;have hl:=(hl.mono mn).mono ud;have hw:=(hw.mono mn).mono ud;have DM:bZ wq (be lv wv (.sl JI 0 1 (.ex 1)) (iq bi id)) (iq bi id):=⟨lv,wv,_,rfl,hl,hw,_,io,HR.one (fp.mono ud)⟩
  refine S.build ?_;refine S.alloc fun cb=>?_;refine S.store 0 ?_;refine S.af 0 ?_;refine S.call (MW (lo:=0) (hi:=0) DM (U3 cd)) fun v37 Qg Qh JJ pd=>?_;obtain⟨rfl,ao5,rfl,JK⟩:=pd;obtain⟨Y,hY⟩:∃Y,Y=dz (iq bi id) 0 0:=⟨_,rfl⟩
  have c4:=C7 (v:=iq bi id) (lo:=0) (hi:=0) (aqc 0);have Ju:vd bi id=({Y.1 with d:=(xC Y.1).1,n:=1},decide (Y.2=0)&&(xC Y.1).2):=by unfold vd;rw[hY]
  rw[Ju];rw[←hY]at JK c4⊢;obtain⟨ly,wy,ty,rfl,gt,gu,fY,cA,cB,cC,jI⟩:=JK.open;refine S.store (v:=.agg (be ly wy ty Y.1)) 0 ?_ (hs:=cT cA cB cC);refine S.af 0 ?_;refine S.ld 0 ?_;refine S.ld 0 ?_;refine S.ld 0 ?_;refine S.ld 0 ?_;refine S.build ?_;refine S.call (UM (x:=⟨1,Y.1.seq,Y.1.sum,Y.1.aU,Y.1.pos⟩) JK (by have:=c4.2.1;have h0:(iq bi id).d.wait.length=0:=rfl;omega) (by rw[c4.1];exact(U3 cd).last) (by have:=c4.2.2;have h0:(iq bi id).d.arm=0:=rfl;omega) (by show(0:Int)≤1;omega)) fun v51 OL Yu Ia vV=>?_;obtain⟨rfl,ao6,rfl,aa1⟩:=vV;obtain⟨wK,wL,rfl,JC,JD,yK,yL⟩:=aa1.open;have fY:=fY.mono Ia;refine S.alloc fun ew=>?_;refine S.store 0 ?_;refine S.af 0 ?_;refine S.store 1 ?_;refine S.store 1 ?_;refine S.af 1 ?_;refine S.bin ?_;refine G.mv ?_;refine G.and ?_;refine S.store 2 ?_;exact⟨_,.cN 2 rfl rfl rfl rfl (.t rfl .nil),.none ⟨rfl,_,rfl,wK,wL,ty,rfl,JC,JD,fY⟩⟩
end Go.Ev
namespace Go.Ev
theorem U4 (t:an) (x:Bs):∀(l:List Bs) (a:Int),(jT t a (l++[x])).2=0→(jT t a l).2=0∧(nodeAt t (jT t a l).1).kind=2
 |[],a,h=>by
  simp only[aqa,jT]at h⊢;split at h
  ·cases h
  ·rename_i hk;exact⟨trivial,by simpa using hk⟩
 |b::l,a,h=>by
  simp only[aqI,jT]at h⊢;split at h
  ·cases h
  ·rename_i hk;rw[pg hk];cases hf:gB (aR t a) b with
   |none=>rw[hf]at h;cases h
   |some n=>
    rw[hf]at h;simp only at h⊢;split at h
    ·cases h
    ·rename_i hn;rw[pg hn];exact U4 t x l n h
theorem ajQ {t:an} {q:List Bs} (h0:q≠[]) (h:(eS t q).2=0):(aO t q).2.2=0:=by
 have e:q=q.dropLast++[q.getLast h0]:=(arT h0).symm;have hl:¬t.length<1:=fun hl=>by unfold eS at h;rw[B4 hl]at h;cases h
 have I:(eS t q.dropLast).2=0∧(nodeAt t (eS t q.dropLast).1).kind=2:=by
  rw[e]at h;unfold eS at h⊢;rw[pg hl]at h⊢;exact U4 t _ _ _ h
 unfold aO;rw[pg (by rw[I.1];decide),pg (by rw[I.2];decide)]
theorem U5 {t:an} {path:Bs} {own:Bool} (h:(bc t path own).2=0) (I:(bc t path own).1≠1):(aO t ((parts path own).getD [])).2.2=0:=by
 unfold bc at h I;cases hp:parts path own with
 |none=>rw[hp]at h;cases h
 |some l=>
  rw[hp]at h I;simp only at h I;show(aO t l).2.2=0;refine ajQ (fun e=>?_) h;subst e;unfold eS at h I;split at h
  ·cases h
  ·rename_i hl;rw[pg hl]at I;exact I rfl
theorem ajR {t:an} {path:Bs} {own:Bool}:∀q,parts path own=some q→(bc t path own).2=0→(bc t path own).1≠1→(aO t q).2.2=0:=fun q hq h I=>by
 have:=U5 h I;rw[hq]at this;exact this
theorem U6 {nm j3:List Int} {n:cM} (h:gC nm n=some j3):n.body.length≤120∧(n.kind=2→∃l,cY n.body=some l∧j3=l.foldl bump nm)∧(n.kind≠2→j3=nm):=by
 unfold gC at h;split at h
 ·rename_i h0;split at h
  ·rename_i I;cases h;subst I;exact⟨by decide,fun h=>(by cases h),fun _=>rfl⟩
  ·cases h
 ·split at h
  ·rename_i I;unfold nX at h;split at h
   ·cases h
   ·cases h;exact⟨by omega,fun h=>(by rw[I]at h;cases h),fun _=>rfl⟩
  ·split at h
   ·rename_i J;cases hd:cY n.body with
    |none=>rw[hd]at h;cases h
    |some l=>
     rw[hd]at h;simp only at h;unfold nX at h;split at h
     ·cases h
     ·cases h;exact⟨by omega,fun _=>⟨l,rfl,rfl⟩,fun h=>absurd J h⟩
   ·cases h
theorem U7:∀(t:List cM) {nm j3:List Int},nY t nm=some j3→∀n∈t,n.body.length≤120
 |[],_,_,_,n,hn=>by cases hn
 |a::r,nm,j3,h,n,hn=>by
  simp only[nY]at h;split at h
  ·cases h
  ·rename_i EJ J;rcases Ro.1 hn with rfl|hn
   ·exact(U6 J).1
   ·exact U7 r h n hn
theorem MZ {t:an} (h:bL t=true):t.length=9∧(nodeAt t 1).kind=2∧∃nm,zu t=some nm∧∀i:Nat,1≤i→i≤9→mX t nm (fg t) i=false:=by
 unfold bL at h;split at h
 ·rename_i I;cases hn:zu t with
  |none=>rw[hn]at h;cases h
  |some nm=>
   rw[hn]at h;simp only at h;refine⟨I.1,I.2,nm,rfl,fun i I h9=>?_⟩;have:=ap6.1 h i (by simp only[Ro];omega);simpa using this
 ·cases h
theorem C8 {t:an} (h:bL t=true):t.length=9∧∀n∈t,n.body.length≤120:=by
 obtain⟨I,_,nm,J,_⟩:=MZ h;exact⟨I,U7 t J⟩
theorem C9 {t:an} (h:bL t=true):bN t:=by
 obtain⟨I,J⟩:=C8 h;exact⟨by omega,fun n hn=>by have:=J n hn;omega⟩
theorem U8 (ino:Int):∀(k f:Nat) (idx:Int) (b:Bs),b.length≤40*k→(kJ ino f idx b).length≤k
 |_,0,_,_,_=>amu _
 |0,f+1,idx,b,h=>by
  have:b=[]:=ap8 (by omega);simp only[kJ];rw[B4 this];exact B5 _
 |k+1,f+1,idx,b,h=>by
  simp only[kJ];split
  ·exact amu _
  ·rw[WW];have:=U8 ino k f (idx+1) (b.drop 40) (by rw[Rn];omega);omega
theorem U9:∀(i:Int) (l:List cM),(∀n∈l,n.body.length≤120)→(hQ i l).length≤4*l.length
 |_,[],_=>B5 _
 |i,n::r,h=>by
  have I:=U9 (i+1) r (fun x hx=>h x (amI _ hx));have J:(lS i n).length≤4:=by
   unfold lS;split
   ·exact amu _
   ·have:=U8 i 3 n.body.length 1 n.body (h n apV);rw[WW];omega
  simp only[hQ,amv,WW];omega
theorem Va (t:an):(cn t).length≤36:=by
 unfold cn;split
 ·rename_i h;obtain⟨I,J⟩:=C8 h;have:=U9 1 t J;omega
 ·exact amu _
def kM (c:Int) (l:List aT):Nat:=(l.filter (fun e=>decide (e.ino=c))).length
def gj (n:cM):List aT:=if n.kind=2 then(cY n.body).getD []else[]
theorem ajS {nm:List Int} {e:aT} {c:Nat} (hc:c<nm.length) (h0:0≤e.ino):((bump nm e)[c]?).getD 0=(nm[c]?).getD 0+(if e.ino=(c:Int)then 1 else 0):=by
 unfold bump;rw[arJ];by_cases h:e.ino=(c:Int)
 ·rw[B4 h,h];simp[hc]
 ·have hn:e.ino.toNat≠c:=by omega
  rw[pg h];cases hq:nm[c]? with
  |none=>rfl
  |some x=>simp[hn]
theorem Vb (nm:List Int) (e:aT):(bump nm e).length=nm.length:=by unfold bump;simp
theorem Vc {c:Nat}:∀(l:List aT) {nm:List Int},c<nm.length→(∀e∈l,1≤e.ino)→((l.foldl bump nm)[c]?).getD 0=(nm[c]?).getD 0+(kM c l:Int)∧(l.foldl bump nm).length=nm.length
 |[],nm,hc,_=>⟨by simp[kM],rfl⟩
 |e::l,nm,hc,h=>by
  have I:=h e apV;obtain⟨k1,k2⟩:=Vc l (nm:=bump nm e) (by rw[Vb];exact hc) (fun x hx=>h x (amI _ hx));rw[ajS hc (by omega)]at k1;rw[aqk];refine⟨?_,by rw[k2,Vb]⟩;rw[k1];unfold kM;rw[ars];by_cases he:e.ino=(c:Int)
  ·simp[he];omega
  ·simp[he]
theorem M0 {c:Nat}:∀(t:List cM) {nm j3:List Int},c<nm.length→nY t nm=some j3→(j3[c]?).getD 0=(nm[c]?).getD 0+(((t.map (fun n=>kM c (gj n))).sum:Nat):Int)
 |[],nm,j3,hc,h=>by simp only[nY,E8]at h;subst h;simp
 |n::r,nm,j3,hc,h=>by
  simp only[nY]at h;split at h
  ·cases h
  ·rename_i EJ J;obtain⟨_,k2,k3⟩:=U6 J;have hd:(EJ[c]?).getD 0=(nm[c]?).getD 0+(kM c (gj n):Int)∧EJ.length=nm.length:=by
    by_cases hk:n.kind=2
    ·obtain⟨l,hl,rfl⟩:=k2 hk;have:gj n=l:=by unfold gj;rw[B4 hk,hl];(try rfl)
     rw[this];exact Vc l hc (fun e he=>(Mi hl e he).1)
    ·rw[k3 hk];have:gj n=[]:=by unfold gj;rw[pg hk]
     rw[this];exact⟨by simp[kM],rfl⟩
   have:=M0 r (c:=c) (nm:=EJ) (by rw[hd.2];exact hc) h;rw[this,hd.1,ap3,ary];omega
theorem Vd {f:cM→Nat}:∀{t:List cM} {i j:Nat} (hi:i<t.length) (hj:j<t.length),i≠j→1≤f t[i]→1≤f t[j]→2≤(t.map f).sum
 |[],i,_,hi,_,_,_,_=>absurd hi (by simp)
 |a::t,i,j,hi,hj,bx,I,J=>by
  have key:∀{t:List cM} {i:Nat} (hi:i<t.length),1≤f t[i]→1≤(t.map f).sum:=by
   intro t;induction t with
   |nil=>intro i hi;exact absurd hi (by simp)
   |cons a t ih=>
    intro i hi h;rw[ap3,ary];cases i with
    |zero=>have h':1≤f a:=h;omega
    |succ i=>have:=ih (by simpa using hi) (by simpa using h);omega
  rw[ap3,ary];cases i with
  |zero=>
   cases j with
   |zero=>exact absurd rfl bx
   |succ j=>
    have:=key (t:=t) (i:=j) (by simpa using hj) (by simpa using J);have h':1≤f a:=I;omega
  |succ i=>
   cases j with
   |zero=>
    have:=key (t:=t) (i:=i) (by simpa using hi) (by simpa using I);have h':1≤f a:=J;omega
   |succ j=>
    have:=Vd (t:=t) (i:=i) (j:=j) (by simpa using hi) (by simpa using hj) (by omega) (by simpa using I) (by simpa using J);omega
theorem Da {t:an} {p:Int} {e:aT} (he:e∈aR t p):∃i:Nat,∃h:i<t.length,p=((i+1:Nat):Int)∧e∈gj t[i]∧(nodeAt t p).kind=2:=by
 unfold aR at he;split at he
 ·cases he
 ·rename_i h0;have I:1≤p∧p≤t.length∧(nodeAt t p).kind=2:=⟨by omega,by omega,by simp only[not_or,Decidable.not_not]at h0;exact h0.2.2⟩
  obtain⟨i,hi⟩:∃i:Nat,p=((i+1:Nat):Int):=⟨(p-1).toNat,by omega⟩
  have ap:i<t.length:=by omega
  refine⟨i,ap,hi,?_,I.2.2⟩;have hn:=Gu ap;rw[←hi]at hn;unfold gj;rw[←hn,B4 I.2.2];exact he
theorem GO {c:Int} {l:List aT} {e:aT} (he:e∈l) (h:e.ino=c):1≤kM c l:=by
 unfold kM;exact List.length_pos_of_mem (List.mem_filter.2 ⟨he,by simp[h]⟩)
inductive Dn (t:an):Nat→Int→Prop
 |root:Dn t 0 1
 |step {n:Nat} {p:Int} {e:aT}:Dn t n p→e∈aR t p→Dn t (n+1) e.ino
theorem ajT {t:an} {B:Nat} {seen:List Bool} (h:∀i:Nat,(seen[i]?).getD false=true→∃n,n≤B∧Dn t n i) (k:Nat):∀i:Nat,((lN t seen k)[i]?).getD false=true→∃n,n≤B+1∧Dn t n i:=by
 unfold lN;split
 ·rename_i hk;obtain⟨m,hm,hd⟩:=h k hk;have key:∀(l:List aT) (s:List Bool),(∀e∈l,e∈aR t k)→(∀i:Nat,(s[i]?).getD false=true→∃n,n≤B+1∧Dn t n i)→∀i:Nat,((l.foldl mark s)[i]?).getD false=true→∃n,n≤B+1∧Dn t n i:=by
   intro l;induction l with
   |nil=>intro s _ hs;exact hs
   |cons e l ih=>
    intro s hl hs;rw[aqk];refine ih _ (fun x hx=>hl x (amI _ hx)) (fun i hi=>?_);unfold mark at hi;rw[aqG]at hi;split at hi
    ·rename_i EK;have BG:=hl e apV;have I:=(pF e BG).1;have he:e.ino=(i:Int):=by omega
     exact⟨m+1,by omega,by rw[←he];exact .step hd BG⟩
    ·exact hs i hi
  exact key _ _ (fun e he=>he) (fun i hi=>let⟨n,I,J⟩:=h i hi;⟨n,by omega,J⟩)
 ·exact fun i hi=>let⟨n,I,J⟩:=h i hi;⟨n,by omega,J⟩
theorem ajU {t:an} {B:Nat} {seen:List Bool} (h:∀i:Nat,(seen[i]?).getD false=true→∃n,n≤B∧Dn t n i):∀i:Nat,((kI t seen)[i]?).getD false=true→∃n,n≤B+9∧Dn t n i:=by
 have key:∀(l:List Nat) (B:Nat) (s:List Bool),(∀i:Nat,(s[i]?).getD false=true→∃n,n≤B∧Dn t n i)→∀i:Nat,((l.foldl (lN t) s)[i]?).getD false=true→∃n,n≤B+l.length∧Dn t n i:=by
  intro l;induction l with
  |nil=>intro B s hs;exact hs
  |cons k l ih=>
   intro B s hs i hi;rw[aqk]at hi;obtain⟨n,I,J⟩:=ih (B+1) _ (ajT hs k) i hi;exact⟨n,by rw[WW];omega,J⟩
 exact key [1,2,3,4,5,6,7,8,9] B seen h
theorem Ve {t:an}:∀i:Nat,((fg t)[i]?).getD false=true→∃n,n≤81∧Dn t n i:=by
 have key:∀(k B:Nat) (s:List Bool),(∀i:Nat,(s[i]?).getD false=true→∃n,n≤B∧Dn t n i)→∀i:Nat,((mW t k s)[i]?).getD false=true→∃n,n≤B+9*k∧Dn t n i:=by
  intro k;induction k with
  |zero=>intro B s hs;exact hs
  |succ k ih=>
   intro B s hs i hi;simp only[mW]at hi;obtain⟨n,I,J⟩:=ih (B+9) _ (ajU hs) i hi;exact⟨n,by omega,J⟩
 refine key 9 0 _ (fun i hi=>?_);rw[aqG]at hi;split at hi
 ·rename_i I;subst I;exact⟨0,B5 _,.root⟩
 ·rw[arV]at hi;split at hi<;>cases hi
theorem GP {t:an} (h:bL t=true) {c:Int} (I:1≤c) (h9:c≤9) (hk:(nodeAt t c).kind=2):(∃n,n≤81∧Dn t n c)∧(c=1→∀p,∀e∈aR t p,e.ino≠c)∧(∀p q,∀e∈aR t p,∀e'∈aR t q,e.ino=c→e'.ino=c→p=q):=by
 obtain⟨hl,_,nm,rJ,hb⟩:=MZ h;obtain⟨i,rfl⟩:∃i:Nat,c=(i:Int):=⟨c.toNat,by omega⟩
 have rG:=hb i (by omega) (by omega);unfold mX at rG;simp only[W0,hk]at rG;have wz:=M0 t (c:=i) (nm:=List.replicate 10 0) (by rw[aqL];omega) rJ;have hz:(((List.replicate 10 (0:Int))[i]?).getD 0)=0:=by rw[arV];split<;>rfl
 rw[hz]at wz;refine⟨?_,?_,?_⟩
 ·refine Ve i ?_;have J:=rG.1.1.2;simpa using J
 ·intro hc p e he EK;have h3:=rG.1.2;simp only[hc,decide_true,aql,NI]at h3;obtain⟨j,hj,hp,hm,_⟩:=Da he;have h4:=GO hm EK;have h5:1≤(t.map (fun n=>kM i (gj n))).sum:=by
   have:∀{t:List cM} {j:Nat} (hj:j<t.length),1≤kM i (gj t[j])→1≤(t.map (fun n=>kM i (gj n))).sum:=by
    intro t;induction t with
    |nil=>intro j hj;exact absurd hj (by simp)
    |cons a t ih=>
     intro j hj h;rw[ap3,ary];cases j with
     |zero=>have h':1≤kM i (gj a):=h;omega
     |succ j=>have:=ih (by simpa using hj) (by simpa using h);omega
   exact this hj h4
  omega
 ·intro p q e he e' ca EK aa2;obtain⟨j,hj,hp,hm,_⟩:=Da he;obtain⟨k,dZ,hq,rD,_⟩:=Da ca;by_cases Qi:j=k
  ·subst Qi;rw[hp,hq]
  ·exfalso;have J:=Vd (f:=fun n=>kM i (gj n)) hj dZ Qi (GO hm EK) (GO rD aa2);have h3:=rG.2;by_cases h1i:(i:Int)=1
   ·have h4:=rG.1.2;simp only[h1i,decide_true,aql,NI]at h4;omega
   ·have ap:(1:Int)<(i:Int):=by omega
    simp only[ap,decide_true,aql,Bool.not_eq_eq_eq_not,Bool.not_false,G6]at h3;omega
theorem ajV {t:an} {p:Int} {e:aT} (he:e∈aR t p):1≤p∧p≤t.length∧(nodeAt t p).kind=2:=by
 obtain⟨i,hi,hp,_,hk⟩:=Da he;exact⟨by omega,by omega,hk⟩
theorem Vf {t:an} (h:bL t=true):∀{n m:Nat} {c:Int},Dn t n c→Dn t m c→1≤c→c≤9→(nodeAt t c).kind=2→n=m
 |0,m,c,I,J,_,_,hk=>by
  cases I;have:=(GP h (aqc 1) (by decide) hk).2.1 rfl;generalize hc:(1:Int)=c at J;cases J with
  |root=>rfl
  |step hd he=>exact absurd hc.symm (this _ _ he)
 |n+1,m,c,I,J,oD,hc9,hk=>by
  obtain⟨_,g2,l8⟩:=GP h oD hc9 hk;generalize d1:c=d at J;cases I with
  |step hd he=>
   cases J with
   |root=>exact absurd rfl (g2 d1 _ _ he)
   |step jy ca=>
    have Pd:=l8 _ _ _ he _ ca rfl d1.symm;subst Pd;obtain⟨k1,k2,k3⟩:=ajV he;have hl:=(C8 h).1;rw[Vf h hd jy k1 (by omega) k3]
theorem Vg {t:an} (h:bL t=true) (bt:Int):∀(f n:Nat) (top:Int),Dn t n top→1≤top→top≤9→(nodeAt t top).kind=2→82≤n+f→(gE t bt f top).isSome=true
 |0,n,top,hd,I,h9,hk,hf=>by
  obtain⟨m,hm,jy⟩:=(GP h I h9 hk).1;have:=Vf h hd jy I h9 hk;omega
 |f+1,n,top,hd,I,h9,hk,hf=>by
  simp only[gE];split
  ·rfl
  ·have hl:=(C8 h).1;have key:∀l:List aT,(∀e∈l,e∈aR t top)→(l.foldr (fun e rest=>if e.ino≤(t.length:Int)∧(nodeAt t e.ino).kind=2 then(match gE t bt f e.ino with
    |none=>none
    |some true=>some true
    |some false=>rest)else rest) (some false)).isSome=true:=by
    intro l;induction l with
    |nil=>intro _;rfl
    |cons e l ih=>
     intro hm;have Qj:=ih (fun x hx=>hm x (amI _ hx));rw[List.foldr_cons];split
     ·rename_i hc;have BG:=hm e apV;have hi:=pF e BG;have:=Vg h bt f (n+1) e.ino (.step hd BG) hi.1 hi.2 hc.2 (by omega);cases hw:gE t bt f e.ino with
      |none=>rw[hw]at this;cases this
      |some b=>cases b with
       |true=>rfl
       |false=>exact Qj
     ·exact Qj
   exact key _ (fun e he=>he)
theorem ajW {t:an} (h:bL t=true) (fr qto:Bs) (own:Bool):∃x,s5 82 t fr qto own=some x:=by
 unfold s5;split
 ·rename_i q l hq hl;simp only;split
  ·exact⟨_,rfl⟩
  ·rename_i hz;split
   ·exact⟨_,rfl⟩
   ·split
    ·exact⟨_,rfl⟩
    ·split
     ·exact⟨_,rfl⟩
     ·split
      ·exact⟨_,rfl⟩
      ·split
       ·exact⟨_,rfl⟩
       ·split
        ·rename_i hk;have hf:=pG (t:=t) (p:=fr) (own:=own) (by simpa using hz);have h9:=(C8 h).1;obtain⟨n,_,hd⟩:=(GP h hf.1 (by omega) hk).1;have:=Vg h (aO t l).1 82 n _ hd hf.1 (by omega) hk (by omega);cases hw:gE t (aO t l).1 82 (bc t fr own).1 with
         |none=>rw[hw]at this;cases this
         |some b=>cases b<;>exact⟨_,rfl⟩
        ·exact⟨_,rfl⟩
 ·exact⟨_,rfl⟩
end Go.Ev
namespace Go.Ev
def lZ (s:Int) (a:Int×Int) (p:ag):Int×Int:=if gI p.addr=s then(a.1+1,max a.2 p.gen)else a
def zH (v:aW) (u:Int×Int):Int:=((64-u.1)*(v.seq+1-u.2)).tdiv (64+u.1)
def zI (b:Option (Int×Int)) (s w:Int):Option (Int×Int):=match b with
 |none=>some (s,w)
 |some x=>if x.2<w then some (s,w)else some x
def M1 (v:aW) (l:List ag) (b:Option (Int×Int)) (s:Int):Option (Int×Int):=
 if s=v.aU∨(l.foldl (lZ s) (0,0)).1=0 then b
 else zI b s (zH v (l.foldl (lZ s) (0,0)))
def ve (v:aW) (l:List ag):Nat→Int→Option (Int×Int)→Option (Int×Int)
 |0,_,b=>b
 |k+1,s,b=>ve v l k (s+1) (M1 v l b s)
def tf (v:aW):Option Int:=(ve v ((blocks v.d v.sum).getD []) (bW v.d) 0 none).map (·.1)
def oh (v:aW):aW×Int×Int:=match tf v with
 |none=>(v,0,2)
 |some s=>
  let x:=dz v (bO s) (bO s+64)
  if x.2=11 then({v with d:=x.1.d},0,11)else if x.2≠0 then(v,0,x.2)else(x.1,s,0)
structure gk where
 kind:Int
 v:Int
 id:Int
 mode:Int
 off:Int
 path:Bs
 dst:Bs
 text:Bs
 deriving DecidableEq
def gm (t:an) (s:gk):an×Int:=
 if s.kind=1 then iU t s.path s.mode 6 0 false
 else if s.kind=2 then il t s.path s.dst false
 else if s.kind=3 then lP t s.path false
 else if s.kind=4 then(s5 82 t s.path s.dst false).getD (t,0)
 else if s.kind=5 then jU t s.path s.off s.text false
 else if s.kind=6 then lQ t s.path s.off false
 else n4 t s.path s.mode false
def iG (v:aW) (s:gk):aW:=
 if s.kind=11 then(eU v v).1
 else if s.kind=12 then(lW v).1
 else if s.kind=13 then(pL v s.id).1
 else if s.kind=14 then(pM v s.id).1
 else(oh v).1
def gK (v:aW) (s:gk):aW:=
 if s.kind≤7 then(if(gm (et v.trees) s).2≠0 then v else{v with trees:=lV v.trees (gm (et v.trees) s).1})
 else if s.kind≤10 then v
 else iG v s
def aJ (l:Bs) (n:Nat) (m:Int):Int×Nat:=if l.length≤n∨m<1 then(0,n)else(((l[n]?).getD 0).toNat%m,n+1)
def zJ:List Bs:=[[47,97],[47,98],[47,99],[47,97,47,98],[47,97,47,99],[47,98,47,97],[47,97,47,98,47,99],[47,100],[47,98,47,99,47,100],[47],[97],[47,97,47,47,98],[47,116,111,111,108,111,110,103],[47,126,49],[47,120,32,121]]
def gL (l:Bs) (n:Nat):Bs×Nat:=((zJ[(aJ l n 15).1.toNat]?).getD [],(aJ l n 15).2)
def vf:List Nat:=[0,1,3,17,40,41,60,121]
def GQ (k:Nat) (c:Int):Bs:=(List.range k).map (fun i=>bS (97+c)+bS ((i%3:Nat):Int))
def pN (l:Bs) (n:Nat):Bs×Nat:=
 let a:=aJ l n 8
 let b:=aJ l a.2 26
 (GQ ((vf[a.1.toNat]?).getD 0) b.1,b.2)
def vg:List Int:=[1,1,1,2,3,4,4,5,5,6,7,1]
def xD:List Int:=[0,0,1,39,40,100,120,130]
def zK:List Int:=[0,1,40,41,120,121,3,80]
def iY (l:Bs) (kind:Int) (path:Bs) (n:Nat):gk×Nat:=
 if kind=1 then
  if(aJ l (aJ l n 2).2 12).1=0 then(⟨kind,0,0,(aJ l (aJ l (aJ l n 2).2 12).2 4).1,0,path,[],[]⟩,(aJ l (aJ l (aJ l n 2).2 12).2 4).2)
  else(⟨kind,0,0,1+(aJ l n 2).1,0,path,[],[]⟩,(aJ l (aJ l n 2).2 12).2)
 else if kind=2∨kind=4 then(⟨kind,0,0,0,0,path,(gL l n).1,[]⟩,(gL l n).2)
 else if kind=5 then(⟨kind,0,0,0,(xD[(aJ l n 8).1.toNat]?).getD 0,path,[],(pN l (aJ l n 8).2).1⟩,(pN l (aJ l n 8).2).2)
 else if kind=6 then(⟨kind,0,0,0,(zK[(aJ l n 8).1.toNat]?).getD 0,path,[],[]⟩,(aJ l n 8).2)
 else if kind=7 then(⟨kind,0,0,(aJ l n 256).1,0,path,[],[]⟩,(aJ l n 256).2)
 else(⟨kind,0,0,0,0,path,[],[]⟩,n)
def tg (l:Bs) (n:Nat):gk×Nat:=iY l ((vg[(aJ l n 12).1.toNat]?).getD 0) (gL l (aJ l n 12).2).1 (gL l (aJ l n 12).2).2
def stepOf (kind id:Int) (path:Bs):gk:=⟨kind,0,id,0,0,path,[],[]⟩
def vh:List Int:=[13,14]
def th:List Int:=[8,9,10]
def kN (l:Bs) (k:Int) (n:Nat):gk×Nat:=
 if k<12 then tg l n
 else if k<15 then(stepOf 11 0 [],n)
 else if k<17 then(stepOf 12 0 [],n)
 else if k=17 then(stepOf ((vh[(aJ l n 2).1.toNat]?).getD 0) (1+(aJ l (aJ l n 2).2 4).1) [],(aJ l (aJ l n 2).2 4).2)
 else if k=18 then(stepOf 15 0 [],n)
 else(stepOf ((th[(aJ l n 3).1.toNat]?).getD 0) (aJ l (gL l (aJ l n 3).2).2 3).1 (gL l (aJ l n 3).2).1,(aJ l (gL l (aJ l n 3).2).2 3).2)
def rj (l:Bs) (n:Nat):gk×Nat:=kN l (aJ l n 20).1 (aJ l n 20).2
def ti (l:Bs):Nat→Nat→aW→aW
 |0,_,v=>v
 |k+1,n,v=>if l.length≤n then v else ti l k (rj l n).2 (gK v (rj l n).1)
end Go.Ev
set_option maxHeartbeats 2000000
namespace Go.Ev
variable{F:Nat→Option aN} {O:Fz}
theorem ajX (a b:Int):mm true (.j a) (.j b)=some (.j (max a b)):=by
 have hk:cW .i64 .i64=true:=rfl;simp only[mm,hk,E7,L4];by_cases h:a<b
 ·rw[decide_eq_true h,E7,Int.max_eq_right (by omega)]
 ·rw[decide_eq_false h,KL,Int.max_eq_left (by omega)]
theorem ajY {a m B:Int} (hm:0<m) (h0:-B≤a) (I:a≤B):-B≤a.tdiv m∧a.tdiv m≤B:=by
 have J:(a.tdiv m).natAbs≤a.natAbs:=by rw[Int.natAbs_tdiv];exact Nat.div_le_self _ _
 omega
theorem ajZ {q:cV} {a m:Int} (hm:0<m) (h0:-9223372036854775807≤a) (I:a≤9223372036854775807):cg .quo q (.j a) (.j m)=some (.j (a.tdiv m)):=by
 show(bif cW .i64 .i64 then(bif iw m 0 then none else some (V.j (e6 .i64 (a.tdiv m))))else none)=_;have J:iw m 0=false:=by rw[ki];simp;omega
 have h3:=ajY hm h0 I;rw[show cW .i64 .i64=true from rfl,J,E7,KL,zm (by omega) (by omega)]
theorem aj0 {s:Bs} {x:aV} (h:hJ s=some x):0≤x.gen∧x.gen<4294967296:=by
 unfold hJ at h;split at h
 ·split at h
  ·cases h;exact⟨Md _,Tz _ (by rw[ab7];omega)⟩
  ·cases h
 ·cases h
theorem aj1 {d:ay} {a g:Int} {x:aV} (h:b7 d a g=some x):0≤x.gen∧x.gen<4294967296:=by
 unfold b7 at h;split at h
 ·split at h
  ·cases h
  ·rename_i I y J;split at h
   ·cases h
   ·cases h;exact aj0 J
 ·cases h
theorem M2 {p:ag} (h:ep p=true):0≤p.gen∧p.gen<4294967296:=by
 unfold ep gg at h;simp only[G7,G6]at h;omega
theorem aj2 {d:ay} {sum:Int} {s:oa} (h:look d sum=some s):∀p∈s.all,0≤p.gen∧p.gen<4294967296:=by
 unfold look at h;split at h
 ·cases h
 ·split at h
  ·cases h
  ·rename_i x hx n i p hp;refine MI (P:=fun p=>0≤p.gen∧p.gen<4294967296) (fun p h=>M2 h) h fun q hq=>?_;rcases Ro.1 hq with rfl|hq
   ·exact aj1 (by assumption)
   ·exact M2 (ap6.1 (UE hp) q hq)
theorem aj3 {d:ay} {sum:Int} {l:List ag} (h:blocks d sum=some l):∀p∈l,0≤p.gen∧p.gen<4294967296:=by
 unfold blocks at h;obtain⟨s,I,J⟩:=aqp.1 h;subst J;exact fun p hp=>aj2 I p (UH hp)
theorem M3 {s:Int}:∀(l:List ag) (a:Int×Int) (k:Nat),(∀p∈l,0≤p.gen∧p.gen<4294967296)→0≤a.1∧a.1≤k∧0≤a.2∧a.2<4294967296→0≤(l.foldl (lZ s) a).1∧(l.foldl (lZ s) a).1≤((k+l.length:Nat):Int)∧0≤(l.foldl (lZ s) a).2∧(l.foldl (lZ s) a).2<4294967296
 |[],a,k,_,h=>h
 |p::l,a,k,hp,h=>by
  have JG:=hp p apV;have:=M3 (s:=s) l (lZ s a p) (k+1) (fun q hq=>hp q (amI _ hq)) (by
   unfold lZ;split
   ·simp only;refine⟨by omega,by omega,by omega,by omega⟩
   ·omega)
  rw[aqk,WW];omega
theorem aj4 {a b A B:Int} (I:-A≤a) (J:a≤A) (h3:-B≤b) (h4:b≤B):-(A*B)≤a*b∧a*b≤A*B:=by
 have h5:a.natAbs≤A.toNat:=by omega
 have h6:b.natAbs≤B.toNat:=by omega
 have h7:=aq4 h5 h6;rw[←Int.natAbs_mul]at h7;have h8:((A.toNat*B.toNat:Nat):Int)=A*B:=by rw[Int.natCast_mul,Int.toNat_of_nonneg (by omega),Int.toNat_of_nonneg (by omega)]
 omega
theorem aj5 [Fx F] {cs:List V} {v:aW} (hv:bZ O cs v) (hb:VB v):
 bk F 180 [.agg cs] O (.aM [.j ((tf v).getD 0),.bool (tf v).isSome]):=by
 obtain⟨lv,wv,tv,rfl,hl,hw,ht,sl,sw,st,hd⟩:=hv.open;obtain⟨L,hL⟩:∃L,L=(blocks v.d v.sum).getD []:=⟨_,rfl⟩
 have wA:∀p∈L,p.addr≤9223372036854775807∧0≤p.gen∧p.gen<4294967296:=by
  intro p hp;have yD:=hb.lX;cases dD:blocks v.d v.sum with
  |none=>rw[hL,dD]at hp;cases hp
  |some l=>
   rw[hL,dD]at hp;have hg:=aj3 dD p hp;rcases MJ dD p hp with h|h
   ·unfold ep at h;simp only[G7,G6]at h;omega
   ·omega
 have Jc:L.length≤2360:=by
  cases dD:blocks v.d v.sum with
  |none=>rw[hL,dD];simp
  |some l=>rw[hL,dD];exact GD dD
 have Es:bW v.d≤1000000:=by have:=hb.last;unfold bW;omega
 have Pe:=hb.nb;have mo:=hb.seq1;refine ai.ak (au ?_);refine S.box fun bs=>?_;refine S.af 0 ?_;refine S.ld 0 ?_;refine S.call (MG hd (by have:=hb.wait;omega)) fun v20 sb yr se cU=>?_;obtain⟨rfl,pv,rfl,hp⟩:=cU;rw[←hL]at hp;have hd:=hd.mono se;refine S.af 0 ?_;refine S.ak (MK hd hb.last) ?_;refine SW.bG (fun m E ψ R=>∃(s:Nat) (b:Option (Int×Int)),s+m=bW v.d∧ve v L m (s:Int) b=ve v L (bW v.d) 0 none∧sb=ψ∧R=[(some bs,.cells [lv,wv,.j v.d.arm,.bool v.d.down,.j v.seq,.j v.sum,.j v.aU,.j v.pos,.j v.n,.j v.next,.j v.id,tv] false)]∧Sub [(1,.ptr bs 0),(4,pv),(6,.j ((bW v.d:Nat):Int)),(7,.j ((b.map (·.1)).getD 0)),(8,.j ((b.map (·.2)).getD 0)),(9,.bool b.isSome),(10,.j (s:Int))] E) (m:=bW v.d) (.done ⟨0,none,by omega,rfl,rfl,rfl,.r rfl⟩) ?_;intro m0 E ψ R ac hI;obtain⟨s,b,ni,ab,rfl,rfl,hE⟩:=hI;refine C.sub hE ?_;refine S.bin ?_;refine C.D (fun bq=>?_) fun bq=>?_
 ·obtain⟨k,rfl⟩:∃k,m0=k+1:=⟨m0-1,by omega⟩
  simp only[ve]at ab;refine SW.bG (fun m E ψ R=>∃(j:Nat) (u:Int×Int),j+m=L.length∧u=(L.take j).foldl (lZ (s:Int)) (0,0)∧sb=ψ∧R=[(some bs,.cells [lv,wv,.j v.d.arm,.bool v.d.down,.j v.seq,.j v.sum,.j v.aU,.j v.pos,.j v.n,.j v.next,.j v.id,tv] false)]∧Sub [(1,.ptr bs 0),(4,pv),(6,.j ((bW v.d:Nat):Int)),(7,.j ((b.map (·.1)).getD 0)),(8,.j ((b.map (·.2)).getD 0)),(9,.bool b.isSome),(10,.j (s:Int)),(11,.j u.1),(12,.j u.2),(13,.j (j:Int))] E) (m:=L.length) (.done ⟨0,(0,0),by omega,rfl,rfl,rfl,.r rfl⟩) ?_;intro m2 E ψ R ac hI;obtain⟨j,u,e5,hu,rfl,rfl,hE⟩:=hI;refine C.sub hE ?_;refine S.len ?_ (hl:=aa.len hp);refine S.bin ?_;refine C.D (fun vO=>?_) fun vO=>?_
  ·have hj:j<L.length:=by omega
   have JL:=M3 (s:=(s:Int)) (L.take j) (0,0) 0 (fun p hp=>(wA p (List.mem_of_mem_take hp)).2) (by simp);rw[←hu,ab7]at JL;have hjg:=wA _ (W1 hj);have b3:=vb (lZ (s:Int)) (0,0) L j hj;rw[←hu]at b3;refine S.aF hp hj fun OF AJ=>?_;refine S.bl AJ fun p40 e40=>?_;refine S.aX ?_;refine S.ak (ML hjg.1) ?_;refine S.bin ?_;refine C.D (fun fX=>?_) fun fX=>?_
   ·have e:lZ (s:Int) u L[j]=(u.1+1,max u.2 L[j].gen):=by unfold lZ;rw[B4 fX]
    rw[e]at b3;refine S.bin ?_;refine S.aF hp hj fun Pi D7=>?_;refine S.bl D7 fun Zs Zt=>?_;refine S.aX ?_;refine S.pB (ajX _ _) ?_;refine S.CL ?_;refine S.bin ?_;exact⟨m2-1,by omega,.done ⟨j+1,_,by omega,b3.symm,rfl,rfl,.r rfl⟩⟩
   ·have e:lZ (s:Int) u L[j]=u:=by unfold lZ;rw[pg fX]
    rw[e]at b3;refine S.bin ?_;exact⟨m2-1,by omega,.done ⟨j+1,_,by omega,b3.symm,rfl,rfl,.r rfl⟩⟩
  ·obtain rfl:j=L.length:=by omega
   rw[ap2]at hu;have JL:=M3 (s:=(s:Int)) L (0,0) 0 (fun p hp=>(wA p hp).2) (by simp);rw[←hu]at JL;simp only[M1]at ab;rw[←hu]at ab;refine S.ld 0 ?_;refine S.bin ?_;refine G.mv ?_;refine G.bin ?_;refine G.or ?_;refine C.B (fun JM=>?_) fun JM=>?_
   ·rw[B4 (by simpa using JM)]at ab;refine S.bin ?_;exact⟨k,by omega,.done ⟨s+1,b,by omega,ab,rfl,rfl,.r rfl⟩⟩
   ·rw[pg (by simpa using JM)]at ab;refine S.bin ?_;refine S.ld 0 ?_;refine S.bin ?_;refine S.bin ?_;have hmul:=aj4 (a:=64-u.1) (b:=v.seq+1-u.2) (A:=2400) (B:=10737418240) (by omega) (by omega) (by omega) (by omega);refine S.bin ?_ (v:=.j ((64-u.1)*(v.seq+1-u.2))) (hv:=F5 (by omega) (by omega));refine S.bin ?_;refine S.bin ?_ (v:=.j (zH v u)) (hv:=ajZ (by omega) (by omega) (by omega));refine S.un ?_;refine G.mv ?_;refine G.mv ?_;refine G.bin ?_;refine G.or ?_;refine C.B (fun qi=>?_) fun qi=>?_
    ·have e:zI b (s:Int) (zH v u)=some ((s:Int),zH v u):=by
      cases b with
      |none=>rfl
      |some x=>simp at qi;unfold zI;simp only;rw[B4 qi]
     rw[e]at ab;refine S.bin ?_;exact⟨k,by omega,.done ⟨s+1,some ((s:Int),zH v u),by omega,ab,rfl,rfl,.r rfl⟩⟩
    ·have e:zI b (s:Int) (zH v u)=b:=by
      cases b with
      |none=>simp at qi
      |some x=>simp at qi;unfold zI;simp only;rw[pg (by omega)]
     rw[e]at ab;refine S.bin ?_;exact⟨k,by omega,.done ⟨s+1,b,by omega,ab,rfl,rfl,.r rfl⟩⟩
 ·obtain rfl:m0=0:=by omega
  simp only[ve]at ab;have e:tf v=b.map (·.1):=by unfold tf;rw[←hL,←ab]
  have e2:(tf v).isSome=b.isSome:=by rw[e];cases b<;>rfl
  rw[e2,e];refine⟨_,.t rfl (.t rfl .nil),.done ?_⟩;rfl
end Go.Ev
set_option maxHeartbeats 2000000
namespace Go.Ev
variable{F:Nat→Option aN} {O:Fz}
theorem Vh {v:aW} {l:List ag}:∀(k:Nat) (s:Int) (b:Option (Int×Int)) (B:Int),0≤s→s+k≤B→(∀x,b=some x→0≤x.1∧x.1<B)→∀x,ve v l k s b=some x→0≤x.1∧x.1<B
 |0,s,b,B,_,_,h,x,hx=>h x hx
 |k+1,s,b,B,h0,I,h,x,hx=>by
  simp only[ve]at hx;refine Vh k (s+1) _ B (by omega) (by omega) (fun y hy=>?_) x hx;unfold M1 at hy;split at hy
  ·exact h y hy
  ·unfold zI at hy;split at hy
   ·cases hy;exact⟨h0,by show s<B;omega⟩
   ·split at hy
    ·cases hy;exact⟨h0,by show s<B;omega⟩
    ·cases hy;exact h _ rfl
theorem aj6 {v:aW} {s:Int} (h:tf v=some s):0≤s∧s<(bW v.d:Nat):=by
 unfold tf at h;obtain⟨x,I,J⟩:=aqp.1 h;subst J;exact Vh _ _ _ _ (aqc 0) (by omega) (fun x hx=>by cases hx) x I
theorem aj7 [Fx F] {cs:List V} {v:aW} (hv:bZ O cs v) (hb:VB v):
 ai F 139 [.agg cs] O [] (fun r ψ R=>R=[]∧∃cs',r=.aM [.agg cs',.j (oh v).2.1,.j (oh v).2.2]∧bZ ψ cs' (oh v).1) never:=by
 obtain⟨lv,wv,tv,rfl,hl,hw,ht,sl,sw,st,hd⟩:=hv.open;obtain⟨X,hX⟩:∃X,X=tf v:=⟨_,rfl⟩
 refine au ?_;refine S.box fun bs=>?_;refine S.alloc fun a2=>?_;refine S.af 1 ?_;refine S.ak (aj5 hv hb) ?_;rw[←hX];refine S.un ?_;refine C.B (fun cp=>?_) fun cp=>?_
 ·have e:oh v=(v,0,2):=by
   unfold oh;rw[←hX];cases X with
   |none=>rfl
   |some z=>simp at cp
  rw[e];refine S.af 1 ?_;refine S.store 0 ?_;exact⟨_,.cN 0 rfl rfl rfl rfl (.t rfl (.t rfl .nil)),.none ⟨rfl,_,rfl,lv,wv,tv,rfl,hl,hw,ht⟩⟩
 ·obtain⟨s,rfl⟩:∃z,X=some z:=ap4.1 (by simpa using cp);obtain⟨s0,s1⟩:=aj6 hX.symm;have Es:bW v.d≤1000000:=by have:=hb.last;unfold bW;omega
  have hf:=C4 (s:=s) s0 (by omega);obtain⟨Y,hY⟩:∃Y,Y=dz v (bO s) (bO s+64):=⟨_,rfl⟩
  have iO:oh v=(if Y.2=11 then({v with d:=Y.1.d},0,11)else if Y.2≠0 then(v,0,Y.2)else(Y.1,s,0)):=by unfold oh;rw[←hX,hY]
  refine S.af 1 ?_;refine S.alloc fun c1=>?_;refine S.ak (va (s:=s) (by omega)) ?_;refine S.jq 0 ?_;refine S.dy 2 ?_ (hs:=GN hl hw ht);refine S.ak (va (s:=s) (by omega)) ?_;refine S.jq 0 ?_;refine S.dy 2 ?_ (hs:=GN hl hw ht);refine S.bin ?_;refine S.call (MW (lo:=bO s) (hi:=bO s+64) hv hb) fun JN JO JP wN gN=>?_;obtain⟨rfl,ao7,rfl,JQ⟩:=gN;rw[←hY]at JQ⊢;have hl:=hl.mono wN;have hw:=hw.mono wN;have ht:=ht.mono wN;have hd:=hd.mono wN;obtain⟨ly,wy,ty,rfl,gt,gu,fY,cA,cB,cC,jI⟩:=JQ.open;refine S.jq 0 ?_;refine S.store (v:=.agg (be ly wy ty Y.1)) 0 ?_ (hs:=cT cA cB cC);refine S.bin ?_;refine C.D (fun bq=>?_) fun bq=>?_
  ·rw[B4 bq]at iO;rw[iO,bq];refine S.af 0 ?_;refine S.store (v:=.agg [ly,wy,.j Y.1.d.arm,.bool Y.1.d.down]) 2 ?_;refine S.af 2 ?_;refine S.store 1 ?_;exact⟨_,.cN 1 rfl rfl rfl rfl (.t rfl (.t rfl .nil)),.none ⟨rfl,_,rfl,ly,wy,tv,rfl,gt,gu,ht⟩⟩
  ·rw[pg bq]at iO;refine S.bin ?_;refine C.B (fun wO=>?_) fun wO=>?_
   ·rw[B4 (by simpa using wO)]at iO;rw[iO];refine S.af 2 ?_;refine S.store 1 ?_;exact⟨_,.cN 1 rfl rfl rfl rfl (.t rfl (.t rfl .nil)),.none ⟨rfl,_,rfl,lv,wv,tv,rfl,hl,hw,ht⟩⟩
   ·rw[pg (by simpa using wO)]at iO;rw[iO];refine S.af 0 ?_;refine S.store (v:=.agg (be ly wy ty Y.1)) 1 ?_ (hs:=cT cA cB cC);exact⟨_,.cN 1 rfl rfl rfl rfl (.t rfl (.t rfl .nil)),.none ⟨rfl,_,rfl,JQ⟩⟩
end Go.Ev
set_option maxHeartbeats 2000000
namespace Go.Ev
variable{F:Nat→Option aN} {O:Fz}
theorem asx (a:dn):cg .neq (.agg [(0,.i),(1,.i),(2,.i),(3,.i),(4,.i)]) (.agg (dW.f a)) (.agg (dW.f a))=some (.bool false):=by
 have hk:cW .i64 .i64=true:=rfl;show(pj [V.j a.kind,.j a.id,.j a.dx,.j a.base,.j a.done] [V.j a.kind,.j a.id,.j a.dx,.j a.base,.j a.done] [(0,.i),(1,.i),(2,.i),(3,.i),(4,.i)]).map (fun b=>V.bool (!b))=_;have n0:∀(a b c d e:V),nth [a,b,c,d,e] 0=some a:=fun _ _ _ _ _=>rfl;have n1:∀(a b c d e:V),nth [a,b,c,d,e] 1=some b:=fun _ _ _ _ _=>rfl;have n2:∀(a b c d e:V),nth [a,b,c,d,e] 2=some c:=fun _ _ _ _ _=>rfl;have n3:∀(a b c d e:V),nth [a,b,c,d,e] 3=some d:=fun _ _ _ _ _=>rfl;have ql:∀(a b c d e:V),nth [a,b,c,d,e] 4=some e:=fun _ _ _ _ _=>rfl;simp[pj,n0,n1,n2,n3,ql,fq,hk,ki]
theorem asy [Fx F] {cs ds:List V} {a b:oa} (ha:tc O cs a) (hb:tc O ds b) (ase:a.next=b.next) (hid:a.id=b.id) (ht:a.trees=b.trees) (hlen:a.trees.length≤1000000) (bJ:∀x∈a.trees,x.ao.length≤1000000∧x.tree.length≤1000000):
 bk F 42 [.agg cs,.agg ds] O (.bool true):=by
 obtain⟨v2,v3,v4,v5,v6,n3,ql,qm,rfl,k2,k3,tM,k4,anO,k5,Er,k6⟩:=ha;obtain⟨w2,I8,I9,Ja,Jb,Yw,aaw,Id,rfl,q2,q3,aqZ,Dr,aq0,HA,aq1,q6⟩:=hb;have:=k2.av;have:=k3.av;have:=k4.av;have:=k5.av;have:=k6.av;have:=q2.av;have:=q3.av;have:=Dr.av;have:=HA.av;have:=q6.av;obtain⟨T,kW⟩:∃T,T=a.trees:=⟨_,rfl⟩
 rw[←ht]at q2 aqZ aq0 aq1;rw[←kW]at k2 tM anO Er q2 aqZ aq0 aq1 hlen bJ;have z3:=tM.1;have z4:=anO.1;have z5:=Er.1;have Ak:=aqZ.1;have Oe:=aq0.1;have Of:=aq1.1;rw[apZ]at z3 z4 z5 Ak Oe Of;refine ai.ak (au ?_);refine S.box fun a2=>?_;refine S.box fun a3=>?_;refine S.ld 1 ?_;refine S.ld 0 ?_;refine S.bin ?_;refine G.aE ?_;refine G.ld 1 ?_;refine G.aE ?_;refine G.ld 0 ?_;refine G.bin ?_;refine G.or ?_;refine G.aE ?_;refine G.ld 1 ?_;refine G.len ?_ (hl:=aa.len k2);refine G.aE ?_;refine G.ld 0 ?_;refine G.len ?_ (hl:=aa.len q2);refine G.bin ?_;refine G.or ?_;refine G.aE ?_;refine G.ld 1 ?_;refine G.len ?_ (hl:=aa.len k3);refine G.aE ?_;refine G.ld 0 ?_;refine G.len ?_ (hl:=aa.len q3);refine G.bin ?_;refine G.or ?_;refine G.aE ?_;refine G.ld 1 ?_;refine G.len ?_ (hl:=aa.len k4);refine G.aE ?_;refine G.ld 0 ?_;refine G.len ?_ (hl:=aa.len Dr);refine G.bin ?_;refine G.or ?_;refine G.aE ?_;refine G.ld 1 ?_;refine G.len ?_ (hl:=aa.len k5);refine G.aE ?_;refine G.ld 0 ?_;refine G.len ?_ (hl:=aa.len HA);refine G.bin ?_;refine G.or ?_;refine C.B (fun k9=>?_) fun k9=>?_
 ·exfalso;simp[ase,hid,z3,z4,z5,Ak,Oe,Of]at k9
 ·refine SW.bG (fun m E ψ R=>∃j:Nat,j+m=T.length∧O=ψ∧R=[(some a3,.cells [.j b.next,.j b.id,w2,I8,I9,Ja,Jb] false),(some a2,.cells [.j a.next,.j a.id,v2,v3,v4,v5,v6] false)]∧Sub [(2,.ptr a2 0),(3,.ptr a3 0),(5,.j (j:Int))] E) (m:=T.length) (.done ⟨0,by omega,rfl,rfl,.r rfl⟩) ?_;intro m0 E ψ R ac hI;obtain⟨j,e5,rfl,rfl,hE⟩:=hI;refine C.sub hE ?_;refine S.ld 1 ?_;refine S.len ?_ (hl:=aa.len k2);refine S.bin ?_;refine C.D (fun Yx=>?_) fun Yx=>?_
  ·rw[apZ]at Yx;have hj:j<T.length:=by omega
   refine S.ld 1 ?_;refine S.aF k2 (j:=j) (by rw[apZ];omega) fun Yz DV=>?_;refine S.bP ?_;refine S.ld 0 ?_;refine S.aF q2 (j:=j) (by rw[apZ];omega) fun p70 e70=>?_;refine S.bP ?_;refine S.bin ?_ (v:=.bool false) (hv:=asx _);refine C.B (fun mt=>?_) fun mt=>?_
   ·exfalso;cases mt
   ·refine S.bin ?_;exact⟨m0-1,by omega,.done ⟨j+1,by omega,rfl,rfl,.r rfl⟩⟩
  ·refine SW.bG (fun m E ψ R=>∃j:Nat,j+m=T.length∧O=ψ∧R=[(some a3,.cells [.j b.next,.j b.id,w2,I8,I9,Ja,Jb] false),(some a2,.cells [.j a.next,.j a.id,v2,v3,v4,v5,v6] false)]∧Sub [(2,.ptr a2 0),(3,.ptr a3 0),(6,.j (j:Int))] E) (m:=T.length) (.done ⟨0,by omega,rfl,rfl,.r rfl⟩) ?_;intro m2 E ψ R ac hI;obtain⟨j,e5,rfl,rfl,hE⟩:=hI;refine C.sub hE ?_;refine S.ld 1 ?_;refine S.len ?_ (hl:=aa.len k3);refine S.bin ?_;refine G.mv ?_;refine G.aE ?_;refine G.ld 1 ?_;refine G.len ?_ (hl:=aa.len k4);refine G.bin ?_;refine G.and ?_;refine G.mv ?_;refine G.aE ?_;refine G.ld 1 ?_;refine G.len ?_ (hl:=aa.len k5);refine G.bin ?_;refine G.and ?_;refine C.B (fun EO=>?_) fun EO=>?_
   ·rw[z3,z4,z5]at EO;have hj:j<T.length:=by simp at EO;omega
    have f3:=tM.at (i:=j) (by omega) (by rw[apZ];omega);have ar4:=anO.at (i:=j) (by omega) (by rw[apZ];omega);have ar5:=Er.at (i:=j) (by omega) (by rw[apZ];omega);have l8:=aqZ.at (i:=j) (by omega) (by rw[apZ];omega);have A4:=aq0.at (i:=j) (by omega) (by rw[apZ];omega);have A5:=aq1.at (i:=j) (by omega) (by rw[apZ];omega);simp only[aqX]at f3 ar4 ar5 l8 A4 A5;obtain⟨s1,s2⟩:=bJ T[j] (W1 hj);refine S.ld 1 ?_;refine S.aF k3 (j:=j) (by omega) fun p97 e97=>?_;refine S.aX ?_;refine S.ld 0 ?_;refine S.aF q3 (j:=j) (by omega) fun ann Zk=>?_;refine S.aX ?_;refine S.ak (ajo f3 l8 (by rw[apZ];omega)) ?_;refine S.un ?_;refine G.aE ?_;refine G.ld 1 ?_;refine G.mv ?_;refine G.aF k4 (j:=j) (z:=ql[j]) (fun apI ab8=>?_) (hj:=fun _=>KJ (by omega));refine G.aX ?_;refine G.aE ?_;refine G.ld 0 ?_;refine G.mv ?_;refine G.aF Dr (j:=j) (z:=aaw[j]) (fun amO YH=>?_) (hj:=fun _=>KJ (by omega));refine G.aX ?_;refine G.ak (fun _=>ajp ar4 A4 (by rw[apZ];omega)) ?_;refine G.un ?_;refine G.or ?_;refine G.aE ?_;refine G.ld 1 ?_;refine G.mv ?_;refine G.aF k5 (j:=j) (z:=qm[j]) (fun anW PY=>?_) (hj:=fun _=>KJ (by omega));refine G.aX ?_;refine G.aE ?_;refine G.ld 0 ?_;refine G.mv ?_;refine G.aF HA (j:=j) (z:=Id[j]) (fun asU asV=>?_) (hj:=fun _=>KJ (by omega));refine G.aX ?_;refine G.ak (fun _=>asw ar5 A5 (by omega)) ?_;refine G.un ?_;refine G.or ?_;refine C.B (fun ar6=>?_) fun ar6=>?_
    ·exfalso;simp at ar6
    ·refine S.bin ?_;exact⟨m2-1,by omega,.done ⟨j+1,by omega,rfl,rfl,.r rfl⟩⟩
   ·refine⟨_,.t rfl .nil,.done ?_⟩;rfl
end Go.Ev
set_option maxHeartbeats 1000000
namespace Go.Ev
variable{F:Nat→Option aN} {O:Fz}
theorem ai.forget {n:Nat} {args:List V} {P:V→Prop} (hc:ai F n args O [] (fun r _ _=>P r) never):ai F n args O [] (fun r ψ R=>ψ=O∧R=[]∧P r) never:=fun ad h sh=>by
 rcases hc ad h sh with⟨r,h',I,ψ,O',J,h3,h4⟩|⟨_,_,_,_,_,_,_,h⟩
 ·refine .inl ⟨r,h',I,O,[],.refl O,?_,rfl,rfl,h4⟩;have:=h3.less J;refine this.pick (fun j=>O'.length+j) (fun i o hi=>?_) (fun _ _ _ _ e=>by omega);rw[apG (by omega),aqT];exact hi
 ·exact h.elim
abbrev pO (s:gk) (kv:V):List V:=[.j s.kind,.j s.v,.j s.id,.j s.mode,.j s.off,.str s.path,.str s.dst,.str s.text,kv]
structure Db (s:gk):Prop where
 path:s.path.length≤1000
 dst:s.dst.length≤1000
 text:s.text.length≤1000
 off:s.off≤1000000
def zL (O:Fz) (l:List V):Prop:=∃(e:Int) (tx:Bs) (a b c d f:Int) (lv:V) (L:List aT) (n:Int),l=[.j e,.str tx,.j a,.j b,.j c,.j d,.j f,lv,.j n]∧aa c9 O lv L
theorem zL.plain {O:Fz} (e n:Int):zL O [.j e,.str [],.j 0,.j 0,.j 0,.j 0,.j 0,.no .sl,.j n]:=⟨e,[],0,0,0,0,0,_,[],n,rfl,aa.nil _⟩
structure VG (v:aW):Prop where
 b:VB v
 may:∀h∈v.trees,bL h.t=true
 Vi:v.trees.length≤900000
 Dc:0≤v.id
 Dd:v.id≤1000000
 xE:0≤v.next
theorem M4 {t:an} (hb:bN t) (d:Int) (e:aT):bN (gD t d e).1:=by
 unfold gD;split
 ·exact hb
 ·rename_i b h;exact xz hb (by have:=T3 h;show b.length≤_;omega)
theorem M5:bL u1=true:=by decide+kernel
theorem VG.head {v:aW} (h:VG v):bL (et v.trees)=true:=MY (P:=fun t=>bL t=true) M5 h.may
theorem aj8:ff.body.length≤100000:=by decide
theorem Vj (s:Bs) (n:Nat):(lO s n).length=n:=by unfold lO;simp only[amv,ab7,aqL];omega
theorem aj9 {t:an} (hb:bN t) (p:Bs) (k m i:Int) (o:Bool):bN (iU t p k m i o).1:=by
 unfold iU
 repeat' (first|split|exact hb)
 all_goals (try simp only)
 all_goals repeat' (first|split|exact hb)
 all_goals exact xz (M4 hb _ _) (by show 0≤100000;omega)
theorem aka {t:an} (hb:bN t) (p q:Bs) (o:Bool):bN (il t p q o).1:=by
 unfold il
 repeat' (first|split|exact hb)
 all_goals exact M4 hb _ _
theorem akb {t:an} (hb:bN t) (p:Bs) (o:Bool):bN (lP t p o).1:=by
 unfold lP;simp only
 repeat' (first|split|exact hb)
 ·exact xz (CQ hb _ _) aj8
 ·exact CQ hb _ _
theorem akc {t:an} (hb:bN t) (f:Nat) (p q:Bs) (o:Bool) {x:an×Int} (h:s5 f t p q o=some x):bN x.1:=by
 unfold s5 at h;simp only at h;split at h
 ·repeat' (split at h)
  all_goals first|(cases h;exact hb)|(cases h;exact M4 (CQ hb _ _) _ _)|(cases h;done)
 ·cases h;exact hb
theorem akd {t:an} (hb:bN t) (p:Bs) (f:Int) (x:Bs) (o:Bool):bN (jU t p f x o).1:=by
 unfold jU;simp only
 repeat' (first|split|exact hb)
 refine xz hb ?_;have I:=Mu hb (b5 t p o).1;show(xu _ _ _).length≤_;unfold xu;simp only[amv,ab7,Rn,Vj];omega
theorem ake {t:an} (hb:bN t) (p:Bs) (f:Int) (o:Bool):bN (lQ t p f o).1:=by
 unfold lQ;simp only
 repeat' (first|split|exact hb)
 refine xz hb ?_;show(lO _ _).length≤_;rw[Vj];omega
theorem akf {t:an} (hb:bN t) (p:Bs) (f:Int) (o:Bool):bN (n4 t p f o).1:=by
 unfold n4;simp only
 repeat' (first|split|exact hb)
 exact xz hb (Mu hb _)
theorem akg {t:an} (hb:bN t) (s:gk):bN (gm t s).1:=by
 unfold gm
 repeat' split
 ·exact aj9 hb _ _ _ _ _
 ·exact aka hb _ _ _
 ·exact akb hb _ _
 ·cases h:s5 82 t s.path s.dst false with
  |none=>exact hb
  |some x=>exact akc hb _ _ _ _ h
 ·exact akd hb _ _ _ _
 ·exact ake hb _ _ _
 ·exact akf hb _ _ _
abbrev hT (lv wv tv:V) (v:aW) (lx wx tx:V) (x:aW) (w:Bs):List V:=[lv,wv,.j v.d.arm,.bool v.d.down,.j v.seq,.j v.sum,.j v.aU,.j v.pos,.j v.n,.j v.next,.j v.id,tv,lx,wx,.j x.d.arm,.bool x.d.down,.j x.seq,.j x.sum,.j x.aU,.j x.pos,.j x.n,.j x.next,.j x.id,tx,.str w]
theorem De {lv wv tv lx wx tx:V} {v x:aW} {w:Bs} (I:isScalar lv=true) (J:isScalar wv=true) (h3:isScalar tv=true) (h4:isScalar lx=true) (h5:isScalar wx=true) (h6:isScalar tx=true):aY (hT lv wv tv v lx wx tx x w)=true:=by simp[hT,aY,lH,mR,pC, *]
theorem Vk [Fx F] {lv wv tv lx wx tx:V} {v x:aW} {w:Bs} {e:Int} (I:isScalar lv=true) (J:isScalar wv=true) (h3:isScalar tv=true) (h4:isScalar lx=true) (h5:isScalar wx=true) (h6:isScalar tx=true):
 bk F 75 [.agg (hT lv wv tv v lx wx tx x w),.j e] O (.aM [.agg (hT lv wv tv v lx wx tx x w),.agg [.j e,.str [],.j 0,.j 0,.j 0,.j 0,.j 0,.no .sl,.j 0]]):=by
 have jx:=De (v:=v) (x:=x) (w:=w) I J h3 h4 h5 h6;refine ai.ak (au ?_);refine S.box fun a2=>?_;refine S.alloc fun a4=>?_;refine S.alloc fun a5=>?_;refine S.af 2 ?_;refine S.build ?_;refine S.store (v:=.agg (hT lv wv tv v lx wx tx x w)) 1 ?_ (hs:=jx);refine S.store 0 ?_;exact⟨_,.cN 1 rfl rfl rfl rfl (.cN 0 rfl rfl rfl rfl .nil),.none rfl⟩
theorem akh [Fx F] {tv kv:V} {t:an} {s:gk} (ht:aa aH O tv t) (hm:bL t=true) (hs:Db s) (hk:isScalar kv=true):
 ai F 76 [tv,.agg (pO s kv)] O [] (fun r ψ R=>R=[]∧∃v,r=.aM [v,.j (gm t s).2]∧aa aH ψ v (gm t s).1) never:=by
 have hb:=C9 hm;have hp:s.path.length≤100000:=by have:=hs.path;omega
 have tZ:s.dst.length≤100000:=by have:=hs.dst;omega
 have hp3:s.text.length≤100000:=by have:=hs.text;omega
 refine au ?_;refine S.box fun a3=>?_;refine S.ld 0 ?_;refine S.bin ?_;refine C.B (fun g7=>?_) fun g7=>?_
 ·have e:gm t s=iU t s.path s.mode 6 0 false:=by
   unfold gm;rw[B4 (by simpa using g7)]
  rw[e];refine S.ld 0 ?_;refine S.ld 0 ?_;refine S.call (ai4 (kind:=s.mode) (mode:=6) (ino:=0) (own:=false) ht hb hp) fun rM qd x7 oR dR=>?_;obtain⟨u,rfl,hu,rfl⟩:=dR;exact⟨_,.t rfl (.t rfl .nil),.none ⟨rfl,_,rfl,hu⟩⟩
 ·refine S.bin ?_;refine C.B (fun cy=>?_) fun cy=>?_
  ·have e:gm t s=il t s.path s.dst false:=by
    unfold gm;rw[pg (by simpa using g7)];rw[B4 (by simpa using cy)]
   rw[e];refine S.ld 0 ?_;refine S.ld 0 ?_;refine S.call (ai5 (own:=false) ht hb hp tZ) fun v25 AW AX t6 fF=>?_;obtain⟨u,rfl,hu,rfl⟩:=fF;exact⟨_,.t rfl (.t rfl .nil),.none ⟨rfl,_,rfl,hu⟩⟩
  ·refine S.bin ?_;refine C.B (fun bq=>?_) fun bq=>?_
   ·have e:gm t s=lP t s.path false:=by
     unfold gm;rw[pg (by simpa using g7)];rw[pg (by simpa using cy)];rw[B4 (by simpa using bq)]
    rw[e];refine S.ld 0 ?_;refine S.call (ai6 (own:=false) ht hb hp U5) fun Be wq Eh ud io=>?_;obtain⟨u,rfl,hu,rfl⟩:=io;exact⟨_,.t rfl (.t rfl .nil),.none ⟨rfl,_,rfl,hu⟩⟩
   ·refine S.bin ?_;refine C.B (fun ck=>?_) fun ck=>?_
    ·obtain⟨x,hx⟩:=ajW hm s.path s.dst false;have e:gm t s=x:=by
      unfold gm;rw[pg (by simpa using g7)];rw[pg (by simpa using cy)];rw[pg (by simpa using bq)];rw[B4 (by simpa using ck)];rw[hx];(try rfl)
     rw[e];refine S.ld 0 ?_;refine S.ld 0 ?_;refine S.call (aja (own:=false) (f:=82) (x:=x) ht hb hp tZ hx ajR) fun Qk Ql Qm Qn mE=>?_;obtain⟨u,rfl,hu,rfl⟩:=mE;exact⟨_,.t rfl (.t rfl .nil),.none ⟨rfl,_,rfl,hu⟩⟩
    ·refine S.bin ?_;refine C.B (fun rY=>?_) fun rY=>?_
     ·have e:gm t s=jU t s.path s.off s.text false:=by
       unfold gm;rw[pg (by simpa using g7)];rw[pg (by simpa using cy)];rw[pg (by simpa using bq)];rw[pg (by simpa using ck)];rw[B4 (by simpa using rY)]
      rw[e];refine S.ld 0 ?_;refine S.ld 0 ?_;refine S.ld 0 ?_;refine S.call (ai9 (own:=false) ht hb hp hp3 hs.off) fun v55 JR PA BH oZ=>?_;obtain⟨u,rfl,hu,rfl⟩:=oZ;exact⟨_,.t rfl (.t rfl .nil),.none ⟨rfl,_,rfl,hu⟩⟩
     ·refine S.bin ?_;refine C.B (fun e4=>?_) fun e4=>?_
      ·have e:gm t s=lQ t s.path s.off false:=by
        unfold gm;rw[pg (by simpa using g7)];rw[pg (by simpa using cy)];rw[pg (by simpa using bq)];rw[pg (by simpa using ck)];rw[pg (by simpa using rY)];rw[B4 (by simpa using e4)]
       rw[e];refine S.ld 0 ?_;refine S.ld 0 ?_;refine S.call (ai7 (own:=false) ht hb hp) fun v65 aa3 O65 Qo JS=>?_;obtain⟨u,rfl,hu,rfl⟩:=JS;exact⟨_,.t rfl (.t rfl .nil),.none ⟨rfl,_,rfl,hu⟩⟩
      ·have e:gm t s=n4 t s.path s.mode false:=by
        unfold gm;rw[pg (by simpa using g7)];rw[pg (by simpa using cy)];rw[pg (by simpa using bq)];rw[pg (by simpa using ck)];rw[pg (by simpa using rY)];rw[pg (by simpa using e4)]
       rw[e];refine S.ld 0 ?_;refine S.ld 0 ?_;refine S.call (ai8 (own:=false) ht hb hp) fun v73 aa4 O73 EL JT=>?_;obtain⟨u,rfl,hu,rfl⟩:=JT;exact⟨_,.t rfl (.t rfl .nil),.none ⟨rfl,_,rfl,hu⟩⟩
theorem aki [Fx F] {tv kv:V} {t:an} {s:gk} (ht:aa aH O tv t) (hb:bN t) (hs:Db s) (hk:isScalar kv=true):
 ai F 80 [tv,.agg (pO s kv)] O [] (fun r ψ R=>R=[]∧∃l,r=.agg l∧zL ψ l) never:=by
 have hp:s.path.length≤100000:=by have:=hs.path;omega
 refine au ?_;refine S.box fun a3=>?_;refine S.alloc fun a4=>?_;refine S.alloc fun a5=>?_;refine S.ld 2 ?_;refine S.bin ?_;refine C.B (fun d4=>?_) fun d4=>?_
 ·refine S.ld 2 ?_;refine S.ak (ajb (own:=false) ht hb hp) ?_;refine S.store 0 ?_;refine S.store 0 ?_;refine S.af 0 ?_;refine S.store 1 ?_;exact⟨_,.cN 1 rfl rfl rfl rfl .nil,.none ⟨rfl,_,rfl,_,_,_,_,_,_,_,_,[],_,rfl,aa.nil _⟩⟩
 ·refine S.bin ?_;refine C.B (fun bq=>?_) fun bq=>?_
  ·refine S.ld 2 ?_;refine S.call (ai.forget (ajc (own:=false) ht hb hp)) fun Ze Pc Zf Iy t8=>?_;obtain⟨rfl,rfl,a,b,c,d,e,f,rfl⟩:=t8;refine S.store 0 ?_;refine S.store 0 ?_;refine S.af 0 ?_;refine S.store 1 ?_;exact⟨_,.cN 1 rfl rfl rfl rfl .nil,.none ⟨rfl,_,rfl,_,_,_,_,_,_,_,_,[],_,rfl,aa.nil _⟩⟩
  ·refine S.ld 2 ?_;refine S.call (ajd (own:=false) ht hb hp) fun g4 kX p7 mj cd=>?_;obtain⟨u,L,e,rfl,hu,rfl⟩:=cd;have ao8:=hu.av;refine S.hK 0 ?_;refine S.store 0 ?_;refine S.af 0 ?_;refine S.store 1 ?_;exact⟨_,.cN 1 rfl rfl rfl rfl .nil,.none ⟨rfl,_,rfl,_,_,_,_,_,_,_,_,L,_,rfl,hu⟩⟩
end Go.Ev
