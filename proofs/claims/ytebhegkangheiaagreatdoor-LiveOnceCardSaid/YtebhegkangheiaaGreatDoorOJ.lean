/- A part of the proof of glacislaw13.LiveOnce. -/
import Derived.Test.YtebhegkangheiaaGreatDoorOI
set_option maxHeartbeats 1000000
namespace Go.Ev
variable{F:Nat->Option aP} {O:Fz}
def KQ (a:Pa) (A o wv:V) (gen fr:Int) (s:hg) (R:List Ob):Prop:=∃d h,R=[(some a,.cells [d,A,o,wv,.j gen,.j fr,.bool s.bad] false),bu.ob h s.new]/\af bu d s.new h
theorem wA [Fx F] {a:Pa} {o U A wv:V} {W:Option Pa} {gen fr:Int} {aC:List (ah×aT)} {s:hg} {x:aT} (ho:af bu o s.new W) (Z:aa aq O A (aC.map (·.1))) (ac:aa bu O wv (aC.map (·.2))) (aU:aC.length<=1000000) (aR:s.new.length<=1000000) (aL:0<=fr) (aM:fr<=1000000000000):
 ai F 65 [.ptr a 0,.agg [.j x.kind,.j x.gen,.str x.load]] O [(some a,.cells [o,U,A,wv,.j gen,.j fr,.bool s.bad] false),bu.ob W s.new] (fun r ψ R=>ψ=O/\r=.agg (aq.f (gE aC gen fr s x).1)/\KQ a U A wv gen fr (gE aC gen fr s x).2 R) never:=by
 have aV:=Z.ax;have aW:=ac.ax;have aS:=ho.ax;refine ai.same (ar ?_);refine S.box fun a3=>?_;refine S.alloc fun a4=>?_;refine SW.bF (fun m E ψ R=>∃j:Nat,j+m=aC.length/\p0 x (aC.drop j)=p0 x aC/\O=ψ/\R=[(some a4,.cells [.j 0,.j 0] false),(some a3,.cells [.j x.kind,.j x.gen,.str x.load] false),(some a,.cells [o,U,A,wv,.j gen,.j fr,.bool s.bad] false),bu.ob W s.new]/\Sub [(0,.ptr a 0),(3,.ptr a3 0),(4,.ptr a4 0),(5,.j (j:Int))] E) (m:=aC.length) (.done ⟨0,by omega,rfl,rfl,rfl,.r rfl⟩) ?_;intro aB E ψ R al Y;obtain⟨j,aQ,d,rfl,rfl,Q⟩:=Y;refine C.sub Q ?_;refine S.ld 2 ?_;refine S.len ?_ (hl:=aa.len Z);refine S.bin ?_;refine C.D (fun O0=>?_) fun O0=>?_
 ·rw[hS]at O0;have hj:j<aC.length:=by omega
  obtain⟨q,hq⟩:∃q,q=aC[j]:=⟨_,rfl⟩
  rw[bQ hj,<-hq]at d;simp only[p0]at d;have aO:(aC.map (·.2))[j]? =some q.2:=by rw[k1,bj hj,hq];(try rfl)
  refine S.ld 2 ?_;refine S.aF ac (j:=j) (by simpa using hj) fun aX ak=>?_;rw[nU,<-hq]at ak;refine S.bl ak fun aZ aJ=>?_;refine S.a1 ?_;refine S.ld 1 ?_;refine S.bin ?_;refine G.mv ?_;refine G.nil? ?_;refine G.aD ?_;refine G.ld 2 ?_;refine G.mv ?_;refine G.aF ac (j:=j) (z:=q.2) fun a2 ap=>?_;refine G.bl ap fun a6 aK=>?_;refine G.a1 ?_;refine G.aD ?_;refine G.ld 1 ?_;refine G.bin ?_;refine G.and ?_;refine C.B (fun L=>?_) fun L=>?_
  ·change alike x q.2=true at L;rw[ae L]at d;have e:gE aC gen fr s x=(q.1,s):=by unfold gE;rw[<-d]
   rw[e];refine S.ld 2 ?_;refine S.aF Z (j:=j) (by simpa using hj) fun a7 au=>?_;rw[nU,<-hq]at au;refine S.bJ ?_;refine S.store (v:=.agg (aq.f q.1)) 0 ?_ (hs:=aq.sc q.1);exact⟨_,.cN 0 rfl rfl rfl rfl .nil,.drop 0 (.drop 0 (.done ⟨rfl,o,W,rfl,ho⟩))⟩
  ·change alike x q.2=false at L;rw[ab (by rw[L];simp)]at d;refine S.bin ?_;exact⟨aB-1,by omega,.done ⟨j+1,by omega,d,rfl,rfl,.r rfl⟩⟩
 ·rw[hS]at O0;obtain rfl:j=aC.length:=by omega
  rw[b6]at d;simp only[p0]at d;refine SW.bF (fun m E ψ R=>∃i:Nat,i+m=s.new.length/\newAt x (fr+i) (s.new.drop i)=newAt x fr s.new/\O=ψ/\R=[(some a4,.cells [.j 0,.j 0] false),(some a3,.cells [.j x.kind,.j x.gen,.str x.load] false),(some a,.cells [o,U,A,wv,.j gen,.j fr,.bool s.bad] false),bu.ob W s.new]/\Sub [(0,.ptr a 0),(3,.ptr a3 0),(4,.ptr a4 0),(6,.j (i:Int))] E) (m:=s.new.length) (.done ⟨0,by omega,by rw[nb,show fr+((0:Nat):Int)=fr by omega],rfl,rfl,.r rfl⟩) ?_;intro aE E ψ R al Y;obtain⟨i,aP,h,rfl,rfl,Q⟩:=Y;refine C.sub Q ?_;refine S.ld 2 ?_;refine S.len ?_ (hl:=af.len ho);refine S.bin ?_;refine C.D (fun ao=>?_) fun ao=>?_
  ·have hi:i<s.new.length:=by omega
   rw[bQ hi]at h;simp only[newAt]at h;refine S.ld 2 ?_;refine S.ct ho hi fun aI av=>?_;subst av;refine S.aD ?_;refine S.eJ (e:=bu) (l:=s.new) (j:=i) 0 3 ?_;refine S.ld 1 ?_;refine S.bin ?_;refine G.mv ?_;refine G.nil? ?_;refine G.aD ?_;refine G.aD ?_;refine G.ld 2 ?_;refine G.mv ?_;refine G.ct ho hi fun a77 aw=>?_;cases aw;refine G.aD ?_;refine G.eJ (d5:=bu) (l:=s.new) (j:=i) 2 3 ?_;refine G.aD ?_;refine G.ld 1 ?_;refine G.bin ?_;refine G.and ?_;refine C.B (fun M=>?_) fun M=>?_
   ·change alike x s.new[i]=true at M;rw[ae M]at h;have e:gE aC gen fr s x=(⟨fr+i,gen⟩,s):=by unfold gE;rw[<-d];simp only;rw[<-h]
    rw[e];refine S.ld 2 ?_;refine S.bin ?_;refine S.ld 2 ?_;refine S.build ?_;refine S.store 0 ?_;exact⟨_,.cN 0 rfl rfl rfl rfl .nil,.drop 0 (.drop 0 (.done ⟨rfl,o,_,rfl,ho⟩))⟩
   ·change alike x s.new[i]=false at M;rw[ab (by rw[M];simp),show fr+(i:Int)+1=fr+((i+1:Nat):Int) by omega]at h;refine S.bin ?_;exact⟨aE-1,by omega,.done ⟨i+1,by omega,h,rfl,rfl,.r rfl⟩⟩
  ·obtain rfl:i=s.new.length:=by omega
   rw[b6]at h;simp only[newAt]at h;have e:gE aC gen fr s x=(⟨fr+s.new.length,gen⟩,⟨s.new++[x],s.bad||(decide (fr+s.new.length>65535)||decide (fr+s.new.length<0))⟩):=by unfold gE;rw[<-d];simp only;rw[<-h]
   rw[e];have aA:((s.new++[x]).length:Int)=(s.new.length:Int)+1:=by simp
   refine S.ld 2 ?_;refine S.ag 1 ?_;refine S.a8 fun aH=>?_;refine S.br (m:=[x]) 4 ho (.lit 0) (by simp;omega) fun an am aj=>?_;refine S.drop 0 ?_;have ba:=aj.ax;refine S.nil? ?_;refine S.fB 2 ?_;refine S.ld 2 ?_;refine S.ld 2 ?_;refine S.len ?_ (hl:=af.len aj);refine S.bin ?_;refine S.bin ?_ (v:=.j (fr+(s.new.length:Int))) (hv:=by rw[fU (by omega) (by omega),aA,show fr+((s.new.length:Int)+1)-1=fr+(s.new.length:Int) by omega]);refine S.bin ?_;refine G.mv ?_;refine G.bin ?_;refine G.or ?_;refine SW.then (fun E ψ R=>∃b:Bool,b=(s.bad||(decide (fr+s.new.length>65535)||decide (fr+s.new.length<0)))/\O=ψ/\R=[(some a4,.cells [.j 0,.j 0] false),(some a3,.cells [.j x.kind,.j x.gen,.str x.load] false),(some a,.cells [an,U,A,wv,.j gen,.j fr,.bool b] false),bu.ob am (s.new++[x])]/\Sub [(0,.ptr a 0),(4,.ptr a4 0),(7,.j (fr+(s.new.length:Int)))] E) ?_ ?_
   ·refine C.B (fun I=>?_) fun I=>?_
    ·refine S.store 2 ?_;exact⟨true,by change (decide (fr+(s.new.length:Int)>65535)||decide (fr+(s.new.length:Int)<0))=true at I;rw[I];simp,rfl,rfl,.r rfl⟩
    ·exact⟨s.bad,by change (decide (fr+(s.new.length:Int)>65535)||decide (fr+(s.new.length:Int)<0))=false at I;rw[I];simp,rfl,rfl,.r rfl⟩
   intro E ψ R al ay;obtain⟨b,az,rfl,rfl,Q⟩:=ay;refine C.sub Q ?_;refine S.ld 2 ?_;refine S.build ?_;refine S.store 0 ?_;rw[<-az];exact⟨_,.cN 0 rfl rfl rfl rfl .nil,.drop 0 (.drop 0 (.done ⟨rfl,an,am,rfl,aj⟩))⟩
end Go.Ev
namespace Go.Ev
theorem SW.front {F:Nat->Option aP} {K:KX} {E:Env} {O:Fz} {R:List Ob} {Q:bz} {c:IC ak} (i:Nat) {I:Ob} (hn:SW F K c E O (I::R.eraseIdx i) Q) (hi:R[i]? =some I:=by rfl):SW F K c E O R Q:=fun W h sh=>hn W h (by simpa using sh.front hi)
theorem Fin.front {O:Fz} {R:List Ob} {P:Fz->List Ob->Prop} (i:Nat) {I:Ob} (hi:R[i]? =some I) (hn:Fin O (I::R.eraseIdx i) P):Fin O R P:=fun W h sh=>hn W h (by simpa using sh.front hi)
namespace S
variable{F:Nat->Option aP} {K:KX} {E:Env} {O:Fz} {R:List Ob} {Q:bz} {rs:List Op} {d:Nat} {g:Option (Pa×Bool)}
theorem front (i:Nat) {I:Ob} (hn:SA F K rs E O (I::R.eraseIdx i) Q) (hi:R[i]? =some I:=by rfl):SR F K (Op.aK rs) E O R Q:=fun W h sh=>S.r hn W h (by simpa using sh.front hi)
theorem wC [eY K] {n:Nat} {xs:List Od} {vs:List V} {Rt:V->Fz->List Ob->Prop} (k:Nat) (hc:ai F n vs O (R.take k) Rt never) (hn:∀v ψ j,O.Le ψ->Rt v ψ j->SA F K rs ((d,v)::E) ψ (j++R.drop k) Q) (hx:im E xs=some vs:=by rfl) (hw:aA E g .yes:=by first|exact .none|exact .yes rfl):
 SR F K (.op ⟨some (pa d),aI n xs,g⟩::Op.aK rs) E O R Q:=fun W h sh=>by
 rcases hc (R.drop k++W) h (by rw[<-bp,jT];exact sh)with⟨v,h',o,ψ,j,aj,A,B⟩|⟨_,_,_,_,_,_,_,h⟩
 ·exact WR.up aj (ad.call hw (j4 hx) o (S.r (hn v ψ j aj B) W h' (by rw[bp];exact A)))
 ·exact h.elim
end S
theorem KS (k g k' d:Int) (l l':List UInt8):b0 .eql (.agg [(0,.i),(1,.i),(2,.s)]) (.agg [.int .i64 k,.int .i64 g,.str l]) (.agg [.int .i64 k',.int .i64 d,.str l'])=some (.bool (decide (k=k'/\g=d/\l=l'))):=by
 show(ku [V.int .i64 k,.int .i64 g,.str l] [.int .i64 k',.int .i64 d,.str l'] [(0,.i),(1,.i),(2,.s)]).map V.bool=_;have hk:cr .i64 .i64=true:=rfl;have n0:∀(a b c:V),nth [a,b,c] 0=some a:=fun _ _ _=>rfl;have n1:∀(a b c:V),nth [a,b,c] 1=some b:=fun _ _ _=>rfl;have D:∀(a b c:V),nth [a,b,c] 2=some c:=fun _ _ _=>rfl;simp only[ku,n0,n1,D,en,hk,aE,h3,lv];by_cases o:k=k'
 ·have h:(k==k')=true:=by simpa using o
  by_cases aj:g=d
  ·have j:(g==d)=true:=by simpa using aj
   by_cases A:l=l'
   ·have B:(l==l')=true:=by simpa using A
    rw[h,j,B];simp[o,aj,A]
   ·have B:(l==l')=false:=by simpa using A
    rw[h,j,B];simp[A]
  ·have j:(g==d)=false:=by simpa using aj
   rw[h,j];simp[aj]
 ·have h:(k==k')=false:=by simpa using o
  rw[h];simp[o]
theorem KT (a b:aT):b0 .eql (.agg [(0,.i),(1,.i),(2,.s)]) (.agg (bu.f a)) (.agg (bu.f b))=some (.bool (decide (a=b))):=by
 have h:=KS a.kind a.gen b.kind b.gen a.load b.load;rw[show decide (a=b)=decide (a.kind=b.kind/\a.gen=b.gen/\a.load=b.load)from decide_eq_decide.2 (zO a b)];exact h
end Go.Ev
set_option maxHeartbeats 16000000
namespace Go.Ev
variable{F:Nat->Option aP} {O:Fz}
theorem rn (aC:List (ah×aT)) (gen fr:Int) (s:hg) (x:aT):(gE aC gen fr s x).2.new.length<=s.new.length+1:=by
 unfold gE;split
 ·simp
 ·split<;>simp
theorem tA (gen:Int):∀(f:Nat) (l:List bO),(gC gen f l).length<=f
 |0,_=>aB _
 |f+1,[]=>cS _
 |f+1,a::l=>by have:=tA gen f ((a::l).drop 6);simp only[gC,b7];omega
theorem wD [Fx F] {cs:List V} {d:au} {sum gen fr lo hi:Int} {aD:V} {trees:List bC} (hd:cu O cs d) (bR:d.wait.length<=1000000) (ht:hf O aD trees) (co:∀h∈trees,bI h.t/\(b3 h.t).length<=1000) (bh:fr<=1000000000000):
 ai F 30 [.agg cs,.j sum,.j gen,.j fr,.j lo,.j hi,aD] O [] (fun r ψ R=>R=[]/\∃Q ap,r=.aN [.agg [Q,ap],.bool (lay d sum gen fr lo hi trees).isSome]/\aa bu ψ Q ((lay d sum gen fr lo hi trees).getD ([],[])).1/\aa aq ψ ap ((lay d sum gen fr lo hi trees).getD ([],[])).2) never:=by
 obtain⟨aW,a6,rfl,hl,hw,sl,d4⟩:=hd.open;obtain⟨hs,W,hr⟩:=ht;have bO:=hr.len;obtain⟨L,hL⟩:∃L,L=(blocks d sum).getD []:=⟨_,rfl⟩
 have dk:L.length<=2360:=by
  cases bg:blocks d sum with
  |none=>rw[hL,bg];simp
  |some l=>rw[hL,bg];exact rj bg
 refine ar ?_;refine S.box fun aE=>?_;refine S.alloc fun an=>?_;refine S.len ?_ (hl:=aa.len W);refine S.bin ?_;refine G.mv ?_;refine G.al (fun _=>kc) ?_;refine G.un ?_;refine G.or ?_;refine G.mv ?_;refine G.bin ?_;refine G.or ?_;refine C.B (fun av=>?_) fun av=>?_
 ·have e:lay d sum gen fr lo hi trees=none:=by
   unfold lay;rw[ae];rw[bO]at av;simp only[cx,aR,c3]at av;rcases av with(h|h)|h
   ·exact .inl (by omega)
   ·exact .inr (.inl h)
   ·exact .inr (.inr h)
  rw[e];refine S.build ?_;refine S.store 0 ?_;exact⟨_,.cN 0 rfl rfl rfl rfl (.t rfl .nil),.none ⟨rfl,_,_,rfl,aa.nil _,aa.nil _⟩⟩
 ·rw[bO]at av;simp only[cg,bD,du]at av;obtain⟨⟨dD,ck⟩,dn⟩:=av;have el:lay d sum gen fr lo hi trees=(match mJ (tz d sum lo hi) gen fr ⟨[],false⟩ trees []with|none=>none|some (s,roots)=>if s.bad then none else some (s.new,roots)):=by
   unfold lay;refine ab ?_;rintro(h|h|h)
   ·omega
   ·rw[ck]at h;cases h
   ·omega
  refine S.build ?_;refine S.box fun a46=>?_;refine S.ag 2 ?_;refine S.call (tr hd bR) fun v50 cO cZ bn cf=>?_;obtain⟨rfl,cB,rfl,hp⟩:=cf;rw[<-hL]at hp;have hd:=hd.mono bn;have W:=W.mono bn;have hr:=hr.mono bn;refine SW.new bu ?_;refine SW.new aq ?_;refine SW.bF (fun m E ψ R=>∃(j:Nat) (I:List (ah×aT)) (ao wv:V) (aZ a2:Option Pa),j+m=L.length/\I=(L.take j).filterMap (lS d lo hi)/\I.length<=j/\cO=ψ/\R=[aq.ob aZ (I.map (·.1)),bu.ob a2 (I.map (·.2)),(some a46,.cells [.no .sl,.no .sl,ao,wv,.j gen,.j fr,.bool false] false),(some an,.cells [.no .sl,.no .sl] false),(some aE,.cells [aW,a6,.j d.arm,.bool d.down] false)]/\af aq ao (I.map (·.1)) aZ/\af bu wv (I.map (·.2)) a2/\Sub [(2,.j gen),(3,.j fr),(4,.j lo),(5,.j hi),(6,aD),(7,.ptr aE 0),(14,.ptr an 0),(16,.ptr a46 0),(17,cB),(19,.j (j:Int))] E) (m:=L.length) (.done ⟨0,[],.no .sl,.no .sl,none,none,by omega,rfl,by simp,rfl,rfl,af.nil,af.nil,.r rfl⟩) ?_;intro bS E ψ R aI az;obtain⟨j,I,ao,wv,aZ,a2,dr,hole,dw,rfl,rfl,bt,aX,ay⟩:=az;refine C.sub ay ?_;refine S.len ?_ (hl:=aa.len hp);refine S.bin ?_;refine C.D (fun b2=>?_) fun b2=>?_
  ·have hj:j<L.length:=by omega
   obtain⟨p,aL⟩:∃p,p=L[j]:=⟨_,rfl⟩
   obtain⟨X,bd⟩:∃X,X=bP d p.addr p.gen:=⟨_,rfl⟩
   have aU:(L.take (j+1)).filterMap (lS d lo hi)=I++([p].filterMap (lS d lo hi)):=by rw[fm hj,List.filterMap_append,<-hole,aL]
   have dp:L[j]? =some p:=by rw[bj hj,aL]
   refine S.ag 4 ?_;refine S.aF hp hj fun dU bA=>?_;rw[<-aL]at bA;refine S.bl bA fun dV dd=>?_;refine S.a1 ?_;refine S.aF hp hj fun dW bB=>?_;rw[<-aL]at bB;refine S.bl bB fun dX dh=>?_;refine S.a1 ?_;refine S.alloc fun a20=>?_;refine S.al (pX hd bR) ?_;rw[<-bd];refine S.gZ 0 ?_;refine S.store 0 ?_;refine G.mv ?_;refine G.mv ?_;refine G.aF hp (j:=j) (z:=p) fun dZ b5=>?_;refine G.bl b5 fun d0 di=>?_;refine G.a1 ?_;refine G.mv ?_;refine G.bin ?_;refine G.mv ?_;refine G.mv ?_;refine G.mv ?_;refine G.aF hp (j:=j) (z:=p) fun d1 b7=>?_;refine G.bl b7 fun d2 dj=>?_;refine G.a1 ?_;refine G.mv ?_;refine G.bin ?_;refine G.nF ?_;refine G.and ?_;refine C.B (fun aC=>?_) fun aC=>?_
   ·obtain⟨x,rfl⟩:∃x,X=some x:=by
     cases X with
     |none=>simp at aC
     |some x=>exact⟨x,rfl⟩
    have bk:[p].filterMap (lS d lo hi)=[(p,x)]:=by
     have:lS d lo hi p=some (p,x):=by
      unfold lS;rw[<-bd];simp only;rw[ae];change (true&&(decide (p.addr<lo)||decide (hi<=p.addr)))=true at aC;simpa using aC
     simp[this]
    rw[bk]at aU;refine S.ld 3 ?_;refine S.aF hp hj fun dK b4=>?_;rw[<-aL]at b4;refine S.bJ ?_;refine S.a8 fun c0=>?_;refine S.ld 4 ?_;refine S.ag 1 ?_;refine S.a8 fun c1=>?_;refine S.br (m:=[p]) 3 bt (.lit 1) (by simp;omega) fun cH cC bT=>?_;refine S.e2 0 ?_;refine S.dg 2 ?_;refine S.bE 5 ?_ (hs:=aX.same);refine S.br (m:=[x]) 4 aX (.lit 0) (by simp;omega) fun cJ cD bU=>?_;have d8:=bT.ax;have d9:=bU.ax;refine S.fB 5 ?_;refine S.fB 5 ?_;refine S.drop 0 ?_;refine S.drop 0 ?_;refine S.drop 0 ?_;refine S.bin ?_;exact⟨bS-1,by omega,.done ⟨j+1,I++[(p,x)],cH,cJ,cC,cD,by omega,aU.symm,by simp;omega,rfl,by rw[cX,cX];(try rfl),by rw[cX];exact bT,by rw[cX];exact bU,.r rfl⟩⟩
   ·have bk:[p].filterMap (lS d lo hi)=[]:=by
     have:lS d lo hi p=none:=by
      unfold lS;rw[<-bd];cases X with
      |none=>rfl
      |some x=>
       simp only;rw[ab];change (true&&(decide (p.addr<lo)||decide (hi<=p.addr)))=false at aC;simpa using aC
     simp[this]
    rw[bk,e9]at aU;refine S.bin ?_;exact⟨bS-1,by omega,.drop 0 (.done ⟨j+1,I,ao,wv,aZ,a2,by omega,aU.symm,by omega,rfl,rfl,bt,aX,.r rfl⟩)⟩
  ·obtain rfl:j=L.length:=by omega
   rw[dT]at hole;have hold:tz d sum lo hi=I:=by unfold tz;rw[<-hL,hole]
   rw[hold]at el;have dx:I.length<=2360:=by omega
   refine SW.bF (fun m E ψ R=>∃(i:Nat) (s:hg) (roots:List ah) (Q ap:V) (Z aQ:Option Pa),i+m=trees.length/\mJ I gen fr s (trees.drop i) roots=mJ I gen fr ⟨[],false⟩ trees []/\s.new.length<=3000*i/\roots.length=i/\aa aq ψ ao (I.map Prod.fst)/\aa bu ψ wv (I.map Prod.snd)/\R=[(some a46,.cells [Q,ap,ao,wv,.j gen,.j fr,.bool s.bad] false),bu.ob Z s.new,aq.ob aQ roots,(some an,.cells [.no .sl,.no .sl] false),(some aE,.cells [aW,a6,.j d.arm,.bool d.down] false)]/\af bu Q s.new Z/\af aq ap roots aQ/\Sub [(2,.j gen),(3,.j fr),(6,aD),(14,.ptr an 0),(16,.ptr a46 0),(22,.j (i:Int))] E) (m:=trees.length) (.bL 0 rfl bt fun cP cq ak=>.bL 0 rfl aX fun cQ bo am=>.new aq (.new bu (.front 2 rfl (.done ⟨0,⟨[],false⟩,[],.no .sl,.no .sl,none,none,by omega,rfl,by simp,rfl,aa.mono (e:=aq) ak bo,am,rfl,af.nil,af.nil,.r rfl⟩)))) ?_;intro cr E ψ R aI az;obtain⟨i,s,roots,Q,ap,Z,aQ,dq,U,ds,dA,ak,am,rfl,ho,aK,ay⟩:=az;refine C.sub ay ?_;refine S.len ?_ (hl:=aa.len W);refine S.bin ?_;refine C.D (fun bZ=>?_) fun bZ=>?_
   ·have hi:i<trees.length:=by omega
    have W:=W.mono aI;have hr:=hr.mono aI;obtain⟨w,aV⟩:∃w,w=hs[i]:=⟨_,rfl⟩
    obtain⟨bY,bv⟩:=hr.at (i:=i) (by omega) hi;obtain⟨h,bi⟩:∃h,h=trees[i]:=⟨_,rfl⟩
    rw[<-aV,<-bi]at bY bv;have eb:=w.2.2;obtain⟨bM,dy⟩:=co h (by rw[bi];exact cw hi);rw[bQ hi,<-bi]at U;simp only[mJ]at U;have cn:=aK.ax;refine S.aF W (j:=i) (by omega) fun dL bw=>?_;rw[<-aV]at bw;refine S.bl bw fun dM c8=>?_;refine S.a1 ?_;refine S.al (tm bv bM) ?_;refine S.un ?_;refine C.B (fun aS=>?_) fun aS=>?_
    ·have bb:nL I gen fr s h=none:=by unfold nL;rw[ab (by intro hm;rw[hm]at aS;cases aS)]
     rw[bb]at U;simp only at U;rw[<-U]at el;simp only at el;rw[el];refine S.build ?_;refine S.store 3 ?_;exact⟨_,.cN 3 rfl rfl rfl rfl (.t rfl .nil),.none ⟨rfl,_,_,rfl,aa.nil _,aa.nil _⟩⟩
    ·have hm:bH h.t=true:=by simpa using aS
     obtain⟨ad,bc⟩:∃ad,ad=(b3 h.t).map (fZ gen):=⟨_,rfl⟩
     have dl:ad.length=(b3 h.t).length:=by rw[bc];simp
     obtain⟨A,bK⟩:∃A,A=eO I gen fr s ad:=⟨_,rfl⟩
     obtain⟨Y,be⟩:∃Y,Y=gD gen ((b3 h.t).zip A.1):=⟨_,rfl⟩
     have aH:nL I gen fr s h=(if ey gen h.r (eO I gen fr A.2 Y).1=fA then none else some (gE I gen fr (eO I gen fr A.2 Y).2 (ey gen h.r (eO I gen fr A.2 Y).1))):=by
      rw[be,bK,bc];unfold nL;rw[ae hm]
     have dm:Y.length<=1000:=by
      rw[be];unfold gD;refine fL (tA _ _ _) ?_;rw[rV];omega
     refine S.aF W (j:=i) (by omega) fun dN bx=>?_;rw[<-aV]at bx;refine S.bl bx fun dO c9=>?_;refine S.a1 ?_;refine S.call (Aj bv bM) fun cK cM cS bm aw=>?_;obtain⟨rfl,aw⟩:=aw;have ak:=ak.mono bm;have am:=am.mono bm;have W:=W.mono bm;refine SW.new aq ?_;refine SW.front 2 ?_;refine SW.front 2 ?_;refine SW.bF (fun m E ψ R=>∃(k:Nat) (M:hg) (ac:List ah) (Q aA:V) (Z st:Option Pa),k+m=ad.length/\ac++(eO I gen fr M (ad.drop k)).1=(eO I gen fr s ad).1/\(eO I gen fr M (ad.drop k)).2=(eO I gen fr s ad).2/\M.new.length<=s.new.length+k/\ac.length=k/\cM=ψ/\R=[(some a46,.cells [Q,ap,ao,wv,.j gen,.j fr,.bool M.bad] false),bu.ob Z M.new,aq.ob st ac,aq.ob aQ roots,(some an,.cells [.no .sl,.no .sl] false),(some aE,.cells [aW,a6,.j d.arm,.bool d.down] false)]/\af bu Q M.new Z/\af aq aA ac st/\Sub [(2,.j gen),(3,.j fr),(6,aD),(14,.ptr an 0),(16,.ptr a46 0),(22,.j (i:Int)),(23,cK),(24,aA),(25,.no .sl),(26,.j (k:Int))] E) (m:=ad.length) (.done ⟨0,s,[],Q,.no .sl,Z,none,by omega,rfl,rfl,by omega,rfl,rfl,rfl,ho,af.nil,.r rfl⟩) ?_;intro ct E ψ R aI az;obtain⟨k,M,ac,Q,aA,Z,st,cm,o,aj,dB,dE,rfl,rfl,ho,aO,ay⟩:=az;refine C.sub ay ?_;refine S.len ?_ (hl:=aa.len aw);refine S.bin ?_;refine C.D (fun b0=>?_) fun b0=>?_
     ·have hk:k<ad.length:=by omega
      have cl:k<(b3 h.t).length:=by omega
      have ci:ad[k]=fZ gen (b3 h.t)[k]:=by subst bc;rw[nU]
      rw[bQ hk,ci]at o aj;simp only[eO]at o aj;refine S.aF aw cl fun dP da=>?_;refine S.bJ ?_;refine S.al (zR (r:=(b3 h.t)[k]) (gen:=gen)) ?_;refine S.wC 2 (wA (s:=M) (x:=fZ gen (b3 h.t)[k]) ho ak am (by omega) (by omega) (by omega) bh) fun d5 ec cT dG ca=>?_;obtain⟨rfl,rfl,aM,aP,rfl,aJ⟩:=ca;have bN:=rn I gen fr M (fZ gen (b3 h.t)[k]);refine S.a8 fun c2=>?_;refine S.br (m:=[(gE I gen fr M (fZ gen (b3 h.t)[k])).1]) 3 aO (.lit 0) (by simp;omega) fun v152 cE cy=>?_;refine S.drop 0 ?_;refine S.mv ?_;refine S.bin ?_;exact⟨ct-1,by omega,.done ⟨k+1,_,_,aM,v152,aP,cE,by omega,by rw[bp];exact o,aj,by omega,by simp;omega,rfl,rfl,aJ,cy,.r rfl⟩⟩
     ·obtain rfl:k=ad.length:=by omega
      rw[b6]at o aj;simp only[eO,e9]at o aj;rw[<-bK]at o aj;subst o;subst aj;refine S.cd 2 aO fun eg lt b8=>?_;have aw:=aw.mono lt;refine S.call (zS (gen:=gen) aw b8 (by omega)) fun cL ed cU dH cb=>?_;obtain⟨rfl,d3,rfl,bV⟩:=cb;rw[<-be]at bV⊢;refine S.cd 0 bV fun cR bs bG=>?_;have ak:=(ak.mono lt).mono bs;have am:=(am.mono lt).mono bs;have W:=(W.mono lt).mono bs;refine S.mv ?_;refine SW.new aq ?_;refine SW.front 2 ?_;refine SW.front 2 ?_;refine SW.bF (fun m E ψ R=>∃(k:Nat) (M:hg) (ac:List ah) (Q aA:V) (Z st:Option Pa),k+m=Y.length/\ac++(eO I gen fr M (Y.drop k)).1=(eO I gen fr A.2 Y).1/\(eO I gen fr M (Y.drop k)).2=(eO I gen fr A.2 Y).2/\M.new.length<=A.2.new.length+k/\ac.length=k/\cR=ψ/\R=[(some a46,.cells [Q,ap,ao,wv,.j gen,.j fr,.bool M.bad] false),bu.ob Z M.new,aq.ob st ac,aq.ob aQ roots,(some an,.cells [.no .sl,.no .sl] false),(some aE,.cells [aW,a6,.j d.arm,.bool d.down] false)]/\af bu Q M.new Z/\af aq aA ac st/\Sub [(2,.j gen),(3,.j fr),(6,aD),(14,.ptr an 0),(16,.ptr a46 0),(22,.j (i:Int)),(27,cL),(25,aA),(28,.j (k:Int))] E) (m:=Y.length) (.done ⟨0,A.2,[],Q,.no .sl,Z,none,by omega,rfl,rfl,by omega,rfl,rfl,rfl,ho,af.nil,.r rfl⟩) ?_;intro cv E ψ R aI az;obtain⟨k,M,ac,Q,aA,Z,st,cm,o,aj,dC,dF,rfl,rfl,ho,aO,ay⟩:=az;refine C.sub ay ?_;refine S.len ?_ (hl:=aa.len bG);refine S.bin ?_;refine C.D (fun b1=>?_) fun b1=>?_
      ·have hk:k<Y.length:=by omega
       rw[bQ hk]at o aj;simp only[eO]at o aj;refine S.aF bG hk fun dQ db=>?_;refine S.bJ ?_;refine S.wC 2 (wA (s:=M) (x:=Y[k]) ho ak am (by omega) (by omega) (by omega) bh) fun d6 ee cV dI cc=>?_;obtain⟨rfl,rfl,aM,aP,rfl,aJ⟩:=cc;have bN:=rn I gen fr M (Y[k]);refine S.a8 fun c5=>?_;refine S.br (m:=[(gE I gen fr M Y[k]).1]) 3 aO (.lit 0) (by simp;omega) fun v171 cF cz=>?_;refine S.drop 0 ?_;refine S.mv ?_;refine S.bin ?_;exact⟨cv-1,by omega,.done ⟨k+1,_,_,aM,v171,aP,cF,by omega,by rw[bp];exact o,aj,by omega,by simp;omega,rfl,rfl,aJ,cz,.r rfl⟩⟩
      ·obtain rfl:k=Y.length:=by omega
       rw[b6]at o aj;simp only[eO,e9]at o aj;rw[<-o,<-aj]at aH;refine S.aF W (j:=i) (by omega) fun dR bz=>?_;rw[<-aV]at bz;refine S.bl bz fun dS dc=>?_;refine S.bJ ?_ (l:=df.f w.1);refine S.vC 2 aO (fun ψ _ cj=>zZ (gen:=gen) (r:=w.1) cj) ?_;rw[bY];obtain⟨aB,ch⟩:∃aB,aB=ey gen h.r ac:=⟨_,rfl⟩
       rw[<-ch]at aH⊢;refine S.alloc fun c6=>?_;refine S.store 0 ?_;refine S.ag 0 ?_;refine S.build ?_;refine S.bin ?_ (hv:=KT aB fA);refine C.B (fun a7=>?_) fun a7=>?_
       ·have bb:nL I gen fr s h=none:=by rw[aH];exact ae (by simpa using a7)
        rw[bb]at U;simp only at U;rw[<-U]at el;simp only at el;rw[el];refine S.build ?_;refine S.store 5 ?_;exact⟨_,.cN 5 rfl rfl rfl rfl (.t rfl .nil),.none ⟨rfl,_,_,rfl,aa.nil _,aa.nil _⟩⟩
       ·rw[ab (by simpa using a7)]at aH;rw[aH]at U;simp only at U;refine S.ld 1 ?_;refine S.ag 0 ?_;refine S.drop 3 ?_;refine S.front 2 ?_;refine S.front 2 ?_;refine S.wC 2 (wA (s:=M) (x:=aB) ho ak am (by omega) (by omega) (by omega) bh) fun d7 ef cW dJ ce=>?_;obtain⟨rfl,rfl,aM,aP,rfl,aJ⟩:=ce;have bN:=rn I gen fr M (aB);refine S.bE 0 ?_ (hs:=aK.same);refine S.a8 fun a193=>?_;refine S.br (m:=[(gE I gen fr M aB).1]) 4 aK (.lit 0) (by simp;omega) fun v194 cG bW=>?_;have ea:=bW.ax;refine S.fB 1 ?_;refine S.drop 0 ?_;refine S.drop 2 ?_;refine S.bin ?_;exact⟨cr-1,by omega,.done ⟨i+1,_,_,aM,v194,aP,cG,by omega,U,by omega,by simp;omega,ak,am,rfl,aJ,bW,.r rfl⟩⟩
   ·obtain rfl:i=trees.length:=by omega
    rw[b6]at U;simp only[mJ]at U;rw[<-U]at el;simp only at el;rw[el];have cn:=aK.ax;have dt:=ho.ax;refine S.ld 0 ?_;refine C.B (fun ba=>?_) fun ba=>?_
    ·rw[ae ba];refine S.build ?_;refine S.store 3 ?_;exact⟨_,.cN 3 rfl rfl rfl rfl (.t rfl .nil),.none ⟨rfl,_,_,rfl,aa.nil _,aa.nil _⟩⟩
    ·rw[ab (by rw[ba];simp)];refine S.ag 0 ?_;refine S.store 3 ?_;exact⟨_,.cN 3 rfl rfl rfl rfl (.t rfl .nil),.bL 1 rfl ho fun cP cq cp=>.bL 1 rfl aK fun cQ bo k2=>.none ⟨rfl,_,_,rfl,cp.mono bo,k2⟩⟩
end Go.Ev
namespace Go.Ev
def sameAs (v:aV) (p:List aT×List ah) (lo hi:Int):Bool:=match bP v.d v.sum (-1)with
 |none=>false
 |some x=>p.1.isEmpty&&(decide (v.sum<lo)||decide (hi<=v.sum))&&(match c0 x with
  |none=>false
  |some (next,id,roots)=>(look v.d v.sum).isSome&&decide (next=v.next)&&decide (id=v.id)&&decide (roots=p.2))
def hh (st v:aV) (gen:Int) (p:List aT×List ah):aV×Int:=
 let fr:=bB v.aJ+v.pos
 let r:=cQ v.d fr p.1
 if r.2=false then({st with d:=r.1},11)
 else
  let q:=cQ r.1 (fr+p.1.length) [eM gen v.next v.id p.2]
  if q.2=false then({st with d:=q.1},11)
  else({v with d:=q.1,seq:=gen,sum:=fr+p.1.length,pos:=v.pos+p.1.length+1},0)
def writeNew (v:aV) (lo hi:Int):aV×Int:=match ke v.d v.sum v.aJ with
 |none=>(v,8)
 |some aJ=>
  if bB aJ<hi/\lo<bB aJ+64/\lo<hi then(v,8)
  else match lay v.d v.sum (v.seq+1) (bB aJ) lo hi v.trees with
   |none=>(v,8)
   |some p=>
    if 64<p.1.length+1 then(v,8)
    else
     let r:=gu v.d ⟨v.n+1,v.seq,v.sum,aJ,0⟩
     if r.2=false then({v with d:=r.1},11)
     else hh v {v with d:=r.1,n:=v.n+1,aJ:=aJ,pos:=0} (v.seq+1) p
def cq (v:aV) (lo hi:Int):aV×Int:=
 if v.d.down=true then(v,11)
 else if(lay v.d v.sum 0 0 lo hi v.trees).isSome=false then(v,1)
 else if 1073741824<v.seq+1 then(v,8)
 else match lay v.d v.sum (v.seq+1) (bB v.aJ+v.pos) lo hi v.trees with
  |none=>(v,1)
  |some p=>
   if sameAs v p lo hi=true then(v,0)
   else if 64<v.pos+p.1.length+1 then writeNew v lo hi
   else hh v v (v.seq+1) p
def dK (v x:aV):aV×Int:=
 let y:=cq x 0 0
 if y.2=11 then({v with d:=y.1.d},11)else if y.2≠0 then(v,y.2)else(y.1,0)
def hR (v:aV):aV×Int×Int:=
 if 4<=(pZ v.trees).length\/65535<v.next then(v,0,8)
 else
  let y:=dK v {v with trees:=dX v.trees ⟨⟨3,v.next,v.id*65536+v.next,0,0⟩,dD v.trees⟩,next:=v.next+1}
  if y.2≠0 then(y.1,0,y.2)else(y.1,v.next,0)
def kf (v:aV) (id:Int):aV×Int:=match fF v.trees 3 id with
 |none=>(v,2)
 |some l=>dK v {v with trees:=l}
def kg (v:aV) (id:Int):aV×Int:=match iz v.trees 3 id with
 |none=>(v,2)
 |some h=>({v with trees:=jj v.trees h.t},0)
theorem wE (bv:Int):∀(i:Int) (l:List Int) (k:Int),hb bv i l=some k->i<=k/\k<i+l.length
 |_,[],_,h=>by cases h
 |i,n::l,k,h=>by
  simp only[hb]at h;split at h
  ·cases h;rw[b7];omega
  ·have:=wE bv (i+1) l k h;rw[b7];omega
theorem rp {s:Int} (h0:0<=s) (o:s<=1000000):0<=bB s/\bB s<=64000002:=by unfold bB;rw[ab (by omega)];omega
theorem tB:∀(l:List aT) (d:au) (i:Int),(cQ d i l).1.last.length=d.last.length/\(cQ d i l).1.wait.length<=d.wait.length+l.length/\(cQ d i l).1.arm<=max d.arm 0
 |[],d,i=>by
  have:=Ap d;simp only[cQ];exact⟨this.1,by simp;exact this.2.1,by rw[this.2.2];omega⟩
 |x::l,d,i=>by
  have o:=ts d i (dn x);simp only[cQ];split
  ·have aj:=tB l (d.write i (dn x)).1 (i+1);rw[b7];exact⟨by omega,by omega,by omega⟩
  ·rw[b7];refine⟨o.2.1,?_,o.2.2⟩;show(d.write i (dn x)).1.wait.length<=_;omega
theorem rq (d:au) (s:mC):(gu d s).1.last.length=d.last.length/\(gu d s).1.wait.length<=d.wait.length+1/\(gu d s).1.arm<=max d.arm 0:=by
 have o:=ts d (s.n%2) (ir s);have aj:=Ap (d.write (s.n%2) (ir s)).1;unfold gu;split
 ·exact⟨by omega,by omega,by omega⟩
 ·exact⟨o.2.1,o.1,o.2.2⟩
end Go.Ev
set_option maxHeartbeats 32000000
namespace Go.Ev
variable{F:Nat->Option aP} {O:Fz}
structure VB (v:aV):Prop where
 wait:v.d.wait.length<=100000
 last:v.d.last.length<=1000000
 arm:v.d.arm<=1000000
 jM:0<=v.seq
 seq1:v.seq<=1073741824
 lT:0<=v.sum
 jk:v.sum<=1000000000
 jl:0<=v.aJ
 jm:v.aJ<=1000000
 gF:0<=v.pos
 kh:v.pos<=1000
 n0:0<=v.n
 n1:v.n<=1000000000000
 trees:v.trees.length<=1000000
 cP:∀h∈v.trees,bI h.t/\(b3 h.t).length<=1000
theorem wF (aC:List (ah×aT)) (gen fr:Int):∀(s:hg) (l:List aT),(eO aC gen fr s l).2.new.length<=s.new.length+l.length/\(eO aC gen fr s l).1.length=l.length
 |_,[]=>⟨aB _,rfl⟩
 |s,x::l=>by
  have o:=rn aC gen fr s x;have aj:=wF aC gen fr (gE aC gen fr s x).2 l;simp only[eO,b7];exact⟨by omega,by omega⟩
theorem KU {aC:List (ah×aT)} {gen fr:Int} {s s':hg} {h:bC} {p:ah} (d:nL aC gen fr s h=some (p,s')) (hp:(b3 h.t).length<=1000):s'.new.length<=s.new.length+2001:=by
 unfold nL at d;split at d
 ·simp only at d;split at d
  ·cases d
  ·obtain⟨A,j⟩:∃A,A=eO aC gen fr s ((b3 h.t).map (fZ gen)):=⟨_,rfl⟩
   rw[<-j]at d;obtain⟨B,D⟩:∃B,B=eO aC gen fr A.2 (gD gen ((b3 h.t).zip A.1)):=⟨_,rfl⟩
   rw[<-D]at d;have o:=(wF aC gen fr s ((b3 h.t).map (fZ gen))).1;have aj:=(wF aC gen fr A.2 (gD gen ((b3 h.t).zip A.1))).1;rw[<-j,hS]at o;rw[<-D]at aj;have G:(gD gen ((b3 h.t).zip A.1)).length<=1000:=by
    unfold gD;refine fL (tA _ _ _) ?_;rw[rV];omega
   have I:=rn aC gen fr B.2 (ey gen h.r B.1);injection d with d
   have F:s'=(gE aC gen fr B.2 (ey gen h.r B.1)).2:=by rw[d]
   rw[F];omega
 ·cases d
theorem AG {aC:List (ah×aT)} {gen fr:Int}:∀{l:List bC} {s s':hg} {q d:List ah},mJ aC gen fr s l q=some (s',d)->(∀h∈l,(b3 h.t).length<=1000)->s'.new.length<=s.new.length+2001*l.length
 |[],_,_,_,_,h,_=>by cases h;exact aB _
 |x::l,s,s',q,d,h,hp=>by
  simp only[mJ]at h;split at h
  ·cases h
  ·rename_i p A hx;have o:=KU hx (hp x dc);have aj:=AG h (fun y j=>hp y (cR _ j));rw[b7];omega
theorem AH {d:au} {sum gen fr lo hi:Int} {l:List bC} {p:List aT×List ah} (h:lay d sum gen fr lo hi l=some p) (hp:∀h∈l,(b3 h.t).length<=1000):p.1.length<=14007:=by
 unfold lay at h;split at h
 ·cases h
 ·rename_i hc;split at h
  ·cases h
  ·rename_i s roots hs;have o:=AG hs hp;split at h
   ·cases h
   ·cases h;simp only[na]at o;show s.new.length<=_;omega
theorem AI {U:Type} (l:List U):l.isEmpty=decide ((l.length:Int)=0):=by cases l<;>simp;omega
theorem wG [Fx F] {cs:List V} {v:aV} {lo hi:Int} (hv:bR O cs v) (A:VB v):
 ai F 69 [.agg cs,.j lo,.j hi] O [] (fun r ψ R=>R=[]/\∃cs',r=.aN [.agg cs',.j (cq v lo hi).2]/\bR ψ cs' (cq v lo hi).1) never:=by
 obtain⟨U,wv,Q,rfl,hl,hw,ht,sl,dZ,st,hd⟩:=hv.open;have c9:=A.jM;have db:=A.seq1;have dc:=rp A.jl A.jm;have bV:=A.gF;have bW:=A.kh;have bY:=A.jm;have dh:=A.n0;have di:=A.n1;have da:=A.wait;have bT:=A.last;have bU:=A.arm;refine ar ?_;refine S.box fun a3=>?_;refine S.alloc fun a8=>?_;refine S.ld 1 ?_;refine C.B (fun OT=>?_) fun OT=>?_
 ·have e:cq v lo hi=(v,11):=by unfold cq;exact ae OT
  rw[e];refine S.ag 1 ?_;refine S.store 0 ?_;exact⟨_,.cN 0 rfl rfl rfl rfl (.t rfl .nil),.none ⟨rfl,_,rfl,U,wv,Q,rfl,hl,hw,ht⟩⟩
 ·refine S.ag 1 ?_;refine S.ld 1 ?_;refine S.ld 1 ?_;refine S.call (wD (sum:=v.sum) (gen:=0) (fr:=0) (lo:=lo) (hi:=hi) hd (by have:=A.wait;omega) ht A.cP (by omega)) fun v39 eD c1 bj cm=>?_;obtain⟨rfl,dS,dU,rfl,b4,b5⟩:=cm;have ee:=b4.ax;have eh:=b5.ax;have hl:=hl.mono bj;have hw:=hw.mono bj;have ht:=ht.mono bj;have hd:=hd.mono bj;refine S.alloc fun dL=>?_;refine S.store 0 ?_;refine S.un ?_;refine C.B (fun aC=>?_) fun aC=>?_
  ·have e:cq v lo hi=(v,1):=by unfold cq;rw[ab (by rw[OT];simp),ae (by simp only[c3]at aC;exact aC)]
   rw[e];refine S.ag 2 ?_;refine S.store 1 ?_;exact⟨_,.cN 1 rfl rfl rfl rfl (.t rfl .nil),.none ⟨rfl,_,rfl,U,wv,Q,rfl,hl,hw,ht⟩⟩
  ·refine S.drop 0 ?_;refine S.aD ?_;refine S.ld 1 ?_;refine S.bin ?_;refine S.bin ?_;refine C.D (fun b0=>?_) fun b0=>?_
   ·have e:cq v lo hi=(v,8):=by unfold cq;rw[ab (by rw[OT];simp),ab (by simp only[du]at aC;simp[aC]),ae (by omega)]
    rw[e];refine S.ag 1 ?_;refine S.store 0 ?_;exact⟨_,.cN 0 rfl rfl rfl rfl (.t rfl .nil),.none ⟨rfl,_,rfl,U,wv,Q,rfl,hl,hw,ht⟩⟩
   ·refine S.ag 1 ?_;refine S.alloc fun a6=>?_;refine S.store 0 ?_;refine S.ag 2 ?_;refine S.ld 2 ?_;refine S.ld 2 ?_;refine S.ld 2 ?_;refine S.ld 2 ?_;refine S.alloc fun a7=>?_;refine S.al (oR (s:=v.aJ) (by omega)) ?_;refine S.gZ 0 ?_;refine S.bE 3 ?_ (hs:=ht.same);refine S.bE 3 ?_;refine S.bE 3 ?_;refine S.dg 3 ?_ (hs:=rm hl hw);refine S.bin ?_;refine S.call (wD (sum:=v.sum) (gen:=v.seq+1) (fr:=bB v.aJ+v.pos) (lo:=lo) (hi:=hi) hd (by have:=A.wait;omega) ht A.cP (by omega)) fun ed eE c2 bk cn=>?_;obtain⟨rfl,tC,bF,rfl,W,ac⟩:=cn;have ef:=W.ax;have ei:=ac.ax;have hl:=hl.mono bk;have hw:=hw.mono bk;have ht:=ht.mono bk;have hd:=hd.mono bk;have b3:∀P:Option (List aT×List ah),P=lay v.d v.sum (v.seq+1) (bB v.aJ+v.pos) lo hi v.trees->cq v lo hi=(match P with|none=>(v,1)|some p=>if sameAs v p lo hi=true then(v,0)else if 64<v.pos+p.1.length+1 then writeNew v lo hi else hh v v (v.seq+1) p):=fun P h=>by
     subst h;unfold cq;rw[ab (by rw[OT];simp),ab (by simp only[du]at aC;simp[aC]),ab (by omega)];(try rfl)
    obtain⟨P,bs⟩:∃P,P=lay v.d v.sum (v.seq+1) (bB v.aJ+v.pos) lo hi v.trees:=⟨_,rfl⟩
    rw[<-bs]at W ac⊢;have L:=b3 P bs;refine S.gZ 0 ?_;refine S.store 0 ?_;refine S.un ?_;refine C.B (fun bo=>?_) fun bo=>?_
    ·have e:cq v lo hi=(v,1):=by
      rw[L];cases P with
      |none=>rfl
      |some x=>simp at bo
     rw[e];refine S.ag 3 ?_;refine S.store 2 ?_;exact⟨_,.cN 2 rfl rfl rfl rfl (.t rfl .nil),.none ⟨rfl,_,rfl,U,wv,Q,rfl,hl,hw,ht⟩⟩
    ·obtain⟨p,rfl⟩:∃p,P=some p:=eS.1 (by simpa using bo);change aa bu _ tC p.1 at W;change aa aq _ bF p.2 at ac;simp only at L;have dH:=AH bs.symm (fun h bA=>(A.cP h bA).2);obtain⟨X,bg⟩:∃X,X=bP v.d v.sum (-1):=⟨_,rfl⟩
     refine S.ag 3 ?_;refine S.ld 3 ?_;refine S.al (pX hd (by have:=A.wait;omega)) ?_;rw[<-bg];refine S.alloc fun c5=>?_;refine S.store 0 ?_;refine G.aD ?_;refine G.ld 1 ?_;refine G.len ?_ (hl:=aa.len W);refine G.bin ?_;refine G.and ?_;refine G.aD ?_;refine G.ld 4 ?_;refine G.mv ?_;refine G.bin ?_;refine G.mv ?_;refine G.aD ?_;refine G.ld 4 ?_;refine G.mv ?_;refine G.bin ?_;refine G.nF ?_;refine G.and ?_;refine SW.oB (fun E ψ R=>sameAs v p lo hi=false/\R=[(some a7,.cells [tC,bF] false),(some a6,.cells [U,wv,.j v.d.arm,.bool v.d.down,.j v.seq,.j v.sum,.j v.aJ,.j v.pos,.j v.n,.j v.next,.j v.id,Q] false),(some a8,.cells [.no .sl,.no .sl,.j 0,.bool false,.j 0,.j 0,.j 0,.j 0,.j 0,.j 0,.j 0,.no .sl] false),(some a3,.cells [U,wv,.j v.d.arm,.bool v.d.down,.j v.seq,.j v.sum,.j v.aJ,.j v.pos,.j v.n,.j v.next,.j v.id,Q] false)]/\Sub [(1,.j lo),(2,.j hi),(3,.ptr a3 0),(6,.ptr a8 0),(10,.j (v.seq+1)),(11,.ptr a6 0),(12,.ptr a7 0)] E) ?_ ?_
     ·refine C.B (fun ao=>?_) fun ao=>?_
      ·have bC:X.isSome=true/\(p.1.length:Int)=0/\(decide (v.sum<lo)||decide (hi<=v.sum))=true:=by
        simp only[be,aR]at ao;exact⟨ao.1.1,ao.1.2,ao.2⟩
       obtain⟨x,rfl⟩:=eS.1 bC.1;have dJ:=kd bg.symm;obtain⟨Y,bw⟩:∃Y,Y=c0 x:=⟨_,rfl⟩
       obtain⟨Z,bI⟩:∃Z,Z=look v.d v.sum:=⟨_,rfl⟩
       have es:sameAs v p lo hi=(Y.isSome&&Z.isSome&&decide ((Y.getD (0,0,[])).1=v.next)&&decide ((Y.getD (0,0,[])).2.1=v.id)&&decide ((Y.getD (0,0,[])).2.2=p.2)):=by
        unfold sameAs;rw[<-bg];simp only;rw[bC.2.2,AI,decide_eq_true bC.2.1,<-bw,<-bI];cases Y with
        |none=>rfl
        |some y=>simp
       refine S.ag 0 ?_;refine S.call (z6 (x:=x) (by omega)) fun d3 er cO aM cc=>?_;obtain⟨rfl,dT,rfl,bh⟩:=cc;rw[<-bw]at bh⊢;have hl:=hl.mono aM;have hw:=hw.mono aM;have ht:=ht.mono aM;have hd:=hd.mono aM;have W:=W.mono aM;have ac:=ac.mono aM;refine S.ag 4 ?_;refine S.ld 4 ?_;refine S.call (Ao hd (by have:=A.wait;omega)) fun d4 et cR aF cd=>?_;obtain⟨rfl,b1,rfl,bM⟩:=cd;rw[<-bI]at bM⊢;obtain⟨em,en,eo,ep,eq,dP,dQ,dR,rfl,k2,cD,_,cE,_,cF,_,cG⟩:=bM;have dm:=k2.ax;have dn:=cD.ax;have dp:=cE.ax;have dq:=cF.ax;have dr:=cG.ax;have bh:=bh.mono aF;have hl:=hl.mono aF;have hw:=hw.mono aF;have ht:=ht.mono aF;have hd:=hd.mono aF;have W:=W.mono aF;have ac:=ac.mono aF;refine S.alloc fun c6=>?_;refine S.store 0 ?_;refine G.mv ?_;refine G.and ?_;refine G.mv ?_;refine G.aD ?_;refine G.ld 5 ?_;refine G.bin ?_;refine G.and ?_;refine G.mv ?_;refine G.aD ?_;refine G.ld 5 ?_;refine G.bin ?_;refine G.and ?_;refine G.mv ?_;refine G.aD ?_;refine G.ld 2 ?_;refine G.al (fun _=>Kx bh ac (by
        cases Y with
        |none=>simp
        |some y=>have:=rh (n:=y.1) (i:=y.2.1) (p:=y.2.2) bw.symm;show y.2.2.length<=_;omega)) ?_
       refine G.and ?_;refine C.B (fun bl=>?_) fun bl=>?_
       ·rw[ae (by rw[es];exact bl)]at L;rw[L];refine S.ag 5 ?_;refine S.store 4 ?_;exact⟨_,.cN 4 rfl rfl rfl rfl (.t rfl .nil),.none ⟨rfl,_,rfl,U,wv,Q,rfl,hl,hw,ht⟩⟩
       ·exact .drop 0 (.drop 0 (.done ⟨by rw[es];exact bl,rfl,.r rfl⟩))
      ·refine .drop 0 (.done ⟨?_,rfl,.r rfl⟩);unfold sameAs;rw[<-bg];cases X with
       |none=>rfl
       |some x=>
        change (true&&decide ((p.1.length:Int)=0)&&(decide (v.sum<lo)||decide (hi<=v.sum)))=false at ao;simp only;rw[AI];rw[gL]at ao;rw[ao];(try rfl)
     intro E ψ R ak br;obtain⟨cx,rfl,bp⟩:=br;have hl:=hl.mono ak;have hw:=hw.mono ak;have ht:=ht.mono ak;have hd:=hd.mono ak;have W:=W.mono ak;have ac:=ac.mono ak;rw[ab (by rw[cx];simp)]at L;refine C.sub bp ?_;refine S.ld 3 ?_;refine S.ld 0 ?_;refine S.len ?_ (hl:=aa.len W);refine S.bin ?_;refine S.bin ?_;refine S.bin ?_;refine SW.oB (fun E ψ R=>∃(v2:aV) (I:List aT×List ah) (aP aQ bD bG:V),cq v lo hi=hh v v2 (v.seq+1) I/\v2.trees=v.trees/\v2.next=v.next/\v2.id=v.id/\v2.d.wait.length<=100001/\v2.d.last.length<=1000000/\v2.d.arm<=1000000/\0<=v2.aJ/\v2.aJ<=1000000/\0<=v2.pos/\v2.pos<=1000/\I.1.length<=64/\aa dA ψ aP v2.d.last/\aa j5 ψ aQ v2.d.wait/\aa bu ψ bD I.1/\aa aq ψ bG I.2/\R=[(some a7,.cells [bD,bG] false),(some a6,.cells [U,wv,.j v.d.arm,.bool v.d.down,.j v.seq,.j v.sum,.j v.aJ,.j v.pos,.j v.n,.j v.next,.j v.id,Q] false),(some a8,.cells [.no .sl,.no .sl,.j 0,.bool false,.j 0,.j 0,.j 0,.j 0,.j 0,.j 0,.j 0,.no .sl] false),(some a3,.cells [aP,aQ,.j v2.d.arm,.bool v2.d.down,.j v2.seq,.j v2.sum,.j v2.aJ,.j v2.pos,.j v2.n,.j v2.next,.j v2.id,Q] false)]/\Sub [(3,.ptr a3 0),(6,.ptr a8 0),(10,.j (v.seq+1)),(11,.ptr a6 0),(12,.ptr a7 0)] E) ?_ ?_
     ·refine C.D (fun bZ=>?_) fun bZ=>?_
      ·rw[ae (by omega)]at L;obtain⟨az,bd⟩:∃az,az=ke v.d v.sum v.aJ:=⟨_,rfl⟩
       have aS:0<=az.getD 0/\az.getD 0<=1000000:=by
        cases az with
        |none=>simp
        |some k=>
         have o:=wE v.aJ 0 (ga v.d v.sum) k bd.symm;rw[rk]at o;have aj:=A.last;unfold bK at o;show 0<=k/\k<=1000000;omega
       have co:=rp aS.1 aS.2;unfold writeNew at L;refine S.ag 3 ?_;refine S.ld 3 ?_;refine S.ld 3 ?_;refine S.al (KK (sum:=v.sum) (bv:=v.aJ) hd (by have:=A.wait;omega) A.last (by have:=A.jk;omega)) ?_;rw[<-bd];refine S.un ?_;refine G.mv ?_;refine G.al (fun _=>oR (s:=az.getD 0) (by omega)) ?_;refine G.mv ?_;refine G.bin ?_;refine G.mv ?_;refine G.mv ?_;refine G.al (fun _=>oR (s:=az.getD 0) (by omega)) ?_;refine G.bin ?_;refine G.mv ?_;refine G.bin ?_;refine G.fV ?_;refine G.mv ?_;refine G.mv ?_;refine G.mv ?_;refine G.bin ?_;refine G.fV ?_;refine G.or ?_;refine C.B (fun am=>?_) fun am=>?_
       ·have e:cq v lo hi=(v,8):=by
         rw[L,<-bd];cases az with
         |none=>rfl
         |some aJ=>
          change (!true||(decide (bB aJ<hi)&&decide (lo<bB aJ+64)&&decide (lo<hi)))=true at am;simp only;rw[ae];simp only[l5,jw,be,aR]at am;exact⟨am.1.1,am.1.2,am.2⟩
        rw[e];refine S.ag 1 ?_;refine S.store 2 ?_;exact⟨_,.cN 2 rfl rfl rfl rfl (.t rfl .nil),.none ⟨rfl,_,rfl,U,wv,Q,rfl,hl,hw,ht⟩⟩
       ·obtain⟨aJ,rfl⟩:∃aJ,az=some aJ:=by
         cases az with
         |none=>simp at am
         |some aJ=>exact⟨aJ,rfl⟩
        change 0<=aJ/\aJ<=1000000 at aS;change 0<=bB aJ/\bB aJ<=64000002 at co;change (!true||(decide (bB aJ<hi)&&decide (lo<bB aJ+64)&&decide (lo<hi)))=false at am;have cv:¬(bB aJ<hi/\lo<bB aJ+64/\lo<hi):=by rintro⟨cK,cL,cM⟩;simp[cK,cL,cM]at am
        rw[<-bd]at L;simp only at L;rw[ab cv]at L;refine S.ag 3 ?_;refine S.ld 3 ?_;refine S.ld 3 ?_;refine S.al (oR (s:=aJ) (by omega)) ?_;refine S.bE 3 ?_ (hs:=ht.same);refine S.bE 3 ?_;refine S.dg 3 ?_ (hs:=rm hl hw);refine S.call (wD (sum:=v.sum) (gen:=v.seq+1) (fr:=bB aJ) (lo:=lo) (hi:=hi) hd (by have:=A.wait;omega) ht A.cP (by omega)) fun d5 eu cS bi ce=>?_;obtain⟨rfl,bQ,bS,rfl,aE,aK⟩:=ce;have eg:=aE.ax;have ek:=aK.ax;have hl:=hl.mono bi;have hw:=hw.mono bi;have ht:=ht.mono bi;have hd:=hd.mono bi;obtain⟨aA,bb⟩:∃aA,aA=lay v.d v.sum (v.seq+1) (bB aJ) lo hi v.trees:=⟨_,rfl⟩
        rw[<-bb]at aE aK⊢;have dI:(aA.getD ([],[])).1.length<=14007:=by
         cases aA with
         |none=>simp
         |some z=>exact AH bb.symm (fun h bA=>(A.cP h bA).2)
        refine S.store 0 ?_;refine S.un ?_;refine G.aD ?_;refine G.ld 0 ?_;refine G.len ?_ (hl:=aa.len aE);refine G.bin ?_;refine G.bin ?_;refine G.or ?_;refine C.B (fun aI=>?_) fun aI=>?_
        ·have e:cq v lo hi=(v,8):=by
          rw[L,<-bb];cases aA with
          |none=>rfl
          |some z=>
           change (!true||decide (64<(z.1.length:Int)+1))=true at aI;simp only;rw[ae (by simp at aI;omega)]
         rw[e];refine S.ag 1 ?_;refine S.store 2 ?_;exact⟨_,.cN 2 rfl rfl rfl rfl (.t rfl .nil),.none ⟨rfl,_,rfl,U,wv,Q,rfl,hl,hw,ht⟩⟩
        ·obtain⟨I,rfl⟩:∃z,aA=some z:=by
          cases aA with
          |none=>simp at aI
          |some z=>exact⟨z,rfl⟩
         change aa bu _ bQ I.1 at aE;change aa aq _ bS I.2 at aK;rw[<-bb]at L;simp only at L;have dG:I.1.length+1<=64:=by
          change (!true||decide (64<(I.1.length:Int)+1))=false at aI;simp at aI;omega
         rw[ab (by omega)]at L;refine S.ag 3 ?_;refine S.ld 3 ?_;refine S.bin ?_;refine S.ld 3 ?_;refine S.ld 3 ?_;refine S.build ?_;refine S.call (Ay (v:=v) (x:=⟨v.n+1,v.seq,v.sum,aJ,0⟩) ⟨U,wv,Q,rfl,hl,hw,ht⟩ (by omega) A.last A.arm (by show 0<=v.n+1;omega)) fun d6 ev cT aO cf=>?_;obtain⟨rfl,b1,rfl,bx⟩:=cf;have hl:=hl.mono aO;have hw:=hw.mono aO;have ht:=ht.mono aO;have hd:=hd.mono aO;have aE:=aE.mono aO;have aK:=aK.mono aO;obtain⟨sd,dl⟩:∃sd,sd=gu v.d ⟨v.n+1,v.seq,v.sum,aJ,0⟩:=⟨_,rfl⟩
         have cy:=rq v.d ⟨v.n+1,v.seq,v.sum,aJ,0⟩;rw[<-dl]at cy bx L⊢;obtain⟨aP,aQ,rfl,cr,cz,dV,d0⟩:=bx.open;refine S.alloc fun c8=>?_;refine S.store 0 ?_;refine S.un ?_;refine C.B (fun bm=>?_) fun bm=>?_
         ·rw[ae (by simpa using bm)]at L;rw[L];refine S.ag 2 ?_;refine S.ag 0 ?_;refine S.call (wz (v:=v) (d:=sd.1) ⟨U,wv,Q,rfl,hl,hw,ht⟩ bx) fun d7 ew cU dK cg=>?_;obtain⟨rfl,bH,rfl,av⟩:=cg;obtain⟨aU,a2,a1,rfl,bL,bO,bN,aW,aZ,aX,bJ⟩:=av.open;refine S.store (v:=.agg (bf aU a2 a1 {v with d:=sd.1})) 3 ?_ (hs:=cp aW aZ aX);exact⟨_,.cN 3 rfl rfl rfl rfl (.t rfl .nil),.none ⟨rfl,_,rfl,av⟩⟩
         ·rw[ab (by simpa using bm)]at L;refine S.ag 0 ?_;refine S.ld 4 ?_;refine S.bin ?_;refine S.store 4 ?_;refine S.store 4 ?_;refine S.store 4 ?_;refine S.store 4 ?_;exact .drop 0 (.done ⟨{v with d:=sd.1,n:=v.n+1,aJ:=aJ,pos:=0},I,aP,aQ,bQ,bS,L,rfl,rfl,rfl,by show sd.1.wait.length<=_;omega,by show sd.1.last.length<=_;omega,by show sd.1.arm<=_;omega,aS.1,aS.2,ej 0,by show(0:Int)<=1000;decide,by omega,cr,cz,aE,aK,rfl,.r rfl⟩)
      ·rw[ab (by omega)]at L;exact .done ⟨v,p,U,wv,tC,bF,L,rfl,rfl,rfl,by omega,bT,bU,A.jl,bY,bV,bW,by omega,hl,hw,W,ac,rfl,.r rfl⟩
     intro E ψ R ak br;obtain⟨v2,I,aP,aQ,bD,bG,b2,b6,dw,dx,dy,b7,b8,ca,cb,dB,ds,dt,gl,au,M,ap,rfl,bp⟩:=br;have hl:=hl.mono ak;have hw:=hw.mono ak;have ht:=ht.mono ak;have hd:=hd.mono ak;have dC:=gl.ax;have dF:=au.ax;have dD:=M.ax;have dE:=ap.ax;have dd:=rp ca cb;rw[b2];refine C.sub bp ?_;refine S.ld 3 ?_;refine S.ld 3 ?_;refine S.al (oR (s:=v2.aJ) (by omega)) ?_;refine S.bE 3 ?_;refine S.bin ?_;refine S.ag 3 ?_;refine S.ld 0 ?_;refine S.call (Ax (d:=v2.d) (fr:=bB v2.aJ+v2.pos) (l:=I.1) ⟨aP,aQ,rfl,gl,au⟩ M (by omega) b7 b8 (by omega) (by omega)) fun d8 ey cV aw ch=>?_;obtain⟨rfl,dj,rfl,aL⟩:=ch;have hl:=hl.mono aw;have hw:=hw.mono aw;have ht:=ht.mono aw;have hd:=hd.mono aw;have gl:=gl.mono aw;have au:=au.mono aw;have M:=M.mono aw;have ap:=ap.mono aw;obtain⟨aB,bc⟩:∃aB,aB=cQ v2.d (bB v2.aJ+v2.pos) I.1:=⟨_,rfl⟩
     have cw:=tB I.1 v2.d (bB v2.aJ+v2.pos);rw[<-bc]at aL cw⊢;obtain⟨dO,el,rfl,ct,cB,dW,d1⟩:=aL.open;refine S.alloc fun a25=>?_;refine S.store 0 ?_;refine S.un ?_;refine C.B (fun ba=>?_) fun ba=>?_
     ·have e:hh v v2 (v.seq+1) I=({v with d:=aB.1},11):=by unfold hh;simp only;rw[<-bc,ae (by simpa using ba)]
      rw[e];refine S.ag 2 ?_;refine S.ag 0 ?_;refine S.call (wz (v:=v) (d:=aB.1) ⟨U,wv,Q,rfl,hl,hw,ht⟩ aL) fun d9 ez cW dM ci=>?_;obtain⟨rfl,bH,rfl,av⟩:=ci;obtain⟨aU,a2,a1,rfl,bL,bO,bN,aW,aZ,aX,bJ⟩:=av.open;refine S.store (v:=.agg (bf aU a2 a1 {v with d:=aB.1})) 3 ?_ (hs:=cp aW aZ aX);exact⟨_,.cN 3 rfl rfl rfl rfl (.t rfl .nil),.none ⟨rfl,_,rfl,av⟩⟩
     ·refine S.ag 0 ?_;refine S.ld 1 ?_;refine S.len ?_ (hl:=aa.len M);refine S.bin ?_;refine S.ld 4 ?_;refine S.ld 4 ?_;refine S.ld 1 ?_;refine S.al (z1 (gen:=v.seq+1) (next:=v2.next) (id:=v2.id) ap) ?_;refine S.bE 1 ?_ (hs:=M.same);refine S.dg 0 ?_ (hs:=rm ct cB);refine S.pO (e:=bu) [eM (v.seq+1) v2.next v2.id I.2] fun ea eA an cj=>?_;have aL:=aL.mono an;have hl:=hl.mono an;have hw:=hw.mono an;have ht:=ht.mono an;have hd:=hd.mono an;have gl:=gl.mono an;have au:=au.mono an;have M:=M.mono an;have ap:=ap.mono an;refine S.call (Ax (d:=aB.1) (fr:=bB v2.aJ+v2.pos+I.1.length) (l:=[eM (v.seq+1) v2.next v2.id I.2]) aL cj (by simp;omega) (by omega) (by omega) (by omega) (by omega)) fun eb eB cX ay ck=>?_;obtain⟨rfl,dk,rfl,bz⟩:=ck;have hl:=hl.mono ay;have hw:=hw.mono ay;have ht:=ht.mono ay;have hd:=hd.mono ay;have gl:=gl.mono ay;have au:=au.mono ay;have M:=M.mono ay;have ap:=ap.mono ay;obtain⟨aH,bt⟩:∃aH,aH=cQ aB.1 (bB v2.aJ+v2.pos+I.1.length) [eM (v.seq+1) v2.next v2.id I.2]:=⟨_,rfl⟩
      rw[<-bt]at bz⊢;obtain⟨cH,cJ,rfl,cu,cC,dX,d2⟩:=bz.open;refine S.store 0 ?_;refine S.un ?_;refine C.B (fun bn=>?_) fun bn=>?_
      ·have e:hh v v2 (v.seq+1) I=({v with d:=aH.1},11):=by unfold hh;simp only;rw[<-bc,ab (by simpa using ba),<-bt,ae (by simpa using bn)]
       rw[e];refine S.ag 2 ?_;refine S.ag 0 ?_;refine S.call (wz (v:=v) (d:=aH.1) ⟨U,wv,Q,rfl,hl,hw,ht⟩ bz) fun ec eC cZ dN cl=>?_;obtain⟨rfl,bH,rfl,av⟩:=cl;obtain⟨aU,a2,a1,rfl,bL,bO,bN,aW,aZ,aX,bJ⟩:=av.open;refine S.store (v:=.agg (bf aU a2 a1 {v with d:=aH.1})) 3 ?_ (hs:=cp aW aZ aX);exact⟨_,.cN 3 rfl rfl rfl rfl (.t rfl .nil),.none ⟨rfl,_,rfl,av⟩⟩
      ·have e:hh v v2 (v.seq+1) I=({v2 with d:=aH.1,seq:=v.seq+1,sum:=bB v2.aJ+v2.pos+I.1.length,pos:=v2.pos+I.1.length+1},0):=by unfold hh;simp only;rw[<-bc,ab (by simpa using ba),<-bt,ab (by simpa using bn)]
       rw[e];rw[<-b6]at ht;refine S.ag 0 ?_;refine S.ld 1 ?_;refine S.len ?_ (hl:=aa.len M);refine S.bin ?_;refine S.ld 4 ?_;refine S.ld 1 ?_;refine S.len ?_ (hl:=aa.len M);refine S.bin ?_;refine S.bin ?_;refine S.store 4 ?_;refine S.bE 1 ?_ (hs:=M.same);refine S.bE 1 ?_ (hs:=M.same);refine S.store 4 ?_;refine S.bE 1 ?_ (hs:=M.same);refine S.bE 1 ?_ (hs:=M.same);refine S.store 4 ?_;refine S.bE 1 ?_ (hs:=M.same);refine S.store 4 ?_;refine S.ag 4 ?_;refine S.store 3 ?_;exact⟨_,.cN 3 rfl rfl rfl rfl (.t rfl .nil),.none ⟨rfl,_,rfl,cH,cJ,Q,rfl,cu,cC,ht⟩⟩
set_option maxHeartbeats 2000000
theorem wH [Fx F] {cs ds:List V} {v x:aV} (hv:bR O cs v) (hx:bR O ds x) (ac:VB x):
 ai F 32 [.agg cs,.agg ds] O [] (fun r ψ R=>R=[]/\∃cs',r=.aN [.agg cs',.j (dK v x).2]/\bR ψ cs' (dK v x).1) never:=by
 obtain⟨ak,wv,Y,rfl,hl,hw,ht,sl,aA,st,hd⟩:=hv.open;obtain⟨lx,wx,tx,rfl,au,aw,av,ay,aB,az,ap⟩:=hx.open;refine ar ?_;refine S.box fun am=>?_;refine S.box fun a3=>?_;refine S.alloc fun a4=>?_;refine S.ag 1 ?_;refine S.call (wG (v:=x) (lo:=0) (hi:=0) hx ac) fun aC aD al o Z=>?_;obtain⟨rfl,ao,rfl,I⟩:=Z;have hl:=hl.mono o;have hw:=hw.mono o;have ht:=ht.mono o;have hd:=hd.mono o;obtain⟨A,G,ty,rfl,L,M,aj,Q,W,U,ah⟩:=I.open;obtain⟨y,h⟩:∃y,y=cq x 0 0:=⟨_,rfl⟩
 rw[<-h]at I L M aj ah⊢;refine S.alloc fun an=>?_;refine S.store (v:=.agg (bf A G ty y.1)) 0 ?_ (hs:=cp Q W U);refine S.bin ?_;refine C.D (fun O0=>?_) fun O0=>?_
 ·have e:dK v x=({v with d:=y.1.d},y.2):=by unfold dK;simp only;rw[<-h,ae O0,O0]
  rw[e];refine S.ag 0 ?_;refine S.store (v:=.agg [A,G,.j y.1.d.arm,.bool y.1.d.down]) 3 ?_;refine S.ag 3 ?_;refine S.store 1 ?_;exact⟨_,.cN 1 rfl rfl rfl rfl (.t rfl .nil),.none ⟨rfl,_,rfl,A,G,Y,rfl,L,M,ht⟩⟩
 ·refine S.bin ?_;refine C.B (fun Pl=>?_) fun Pl=>?_
  ·have e:dK v x=(v,y.2):=by unfold dK;simp only;rw[<-h,ab O0,ae (by simpa using Pl)]
   rw[e];refine S.ag 3 ?_;refine S.store 1 ?_;exact⟨_,.cN 1 rfl rfl rfl rfl (.t rfl .nil),.none ⟨rfl,_,rfl,ak,wv,Y,rfl,hl,hw,ht⟩⟩
  ·have e:dK v x=(y.1,0):=by unfold dK;simp only;rw[<-h,ab O0,ab (by simpa using Pl)]
   rw[e];refine S.ag 0 ?_;refine S.store (v:=.agg (bf A G ty y.1)) 1 ?_ (hs:=cp Q W U);exact⟨_,.cN 1 rfl rfl rfl rfl (.t rfl .nil),.none ⟨rfl,_,rfl,I⟩⟩
theorem KV [Fx F] {cs:List V} {v:aV} (hv:bR O cs v) (A:VB v):
 ai F 8 [.agg cs] O [] (fun r ψ R=>R=[]/\∃cs',r=.aN [.agg cs',.j (dK v v).2]/\bR ψ cs' (dK v v).1) never:=by
 obtain⟨ae,wv,aj,rfl,hl,hw,ht,sl,ah,st,hd⟩:=hv.open;refine ar ?_;refine S.box fun Q=>?_;refine S.alloc fun U=>?_;refine S.ag 1 ?_;refine S.ag 1 ?_;refine S.call (wH hv hv A) fun ak al M d o=>?_;obtain⟨rfl,W,rfl,h⟩:=o;have hl:=hl.mono d;have hw:=hw.mono d;have ht:=ht.mono d;have hd:=hd.mono d;obtain⟨B,L,ty,rfl,Z,ac,ab,D,I,G,Y⟩:=h.open;refine S.store (v:=.agg (bf B L ty (dK v v).1)) 0 ?_ (hs:=cp D I G);exact⟨_,.cN 0 rfl rfl rfl rfl (.t rfl .nil),.none ⟨rfl,_,rfl,h⟩⟩
theorem KW [Fx F] {cs:List V} {v:aV} {id:Int} (hv:bR O cs v) (d:VB v):
 ai F 191 [.agg cs,.j id] O [] (fun r ψ R=>R=[]/\∃cs',r=.aN [.agg cs',.j (kf v id).2]/\bR ψ cs' (kf v id).1) never:=by
 obtain⟨al,wv,az,rfl,hl,hw,ht,sl,aT,st,hd⟩:=hv.open;refine ar ?_;refine S.box fun aI=>?_;refine S.alloc fun a4=>?_;refine S.ag 1 ?_;refine S.call (AA (kind:=3) (id:=id) hv d.trees) fun aU aX aF D M=>?_;obtain⟨rfl,aK,rfl,I⟩:=M;have hl:=hl.mono D;have hw:=hw.mono D;have ht:=ht.mono D;have hd:=hd.mono D;obtain⟨am,aB,ty,rfl,Y,ac,ab,ao,aw,au,W⟩:=I.open;have hv:=hv.mono D;obtain⟨X,G⟩:∃X,X=fF v.trees 3 id:=⟨_,rfl⟩
 rw[<-G]at I Y ac ab W⊢;refine S.alloc fun aJ=>?_;refine S.store (v:=.agg (bf am aB ty {v with trees:=X.getD v.trees})) 0 ?_ (hs:=cp ao aw au);refine S.un ?_;refine C.B (fun OX=>?_) fun OX=>?_
 ·have e:kf v id=(v,2):=by
   unfold kf;rw[<-G];cases X with
   |none=>rfl
   |some z=>simp at OX
  rw[e];refine S.ag 2 ?_;refine S.store 1 ?_;exact⟨_,.cN 1 rfl rfl rfl rfl (.t rfl .nil),.none ⟨rfl,_,rfl,al,wv,az,rfl,hl,hw,ht⟩⟩
 ·obtain⟨l,rfl⟩:∃z,X=some z:=eS.1 (by simpa using OX);have e:kf v id=dK v {v with trees:=l}:=by unfold kf;rw[<-G]
  rw[e];have Z:∀(l k:List bC),fF l 3 id=some k->k.length<=l.length/\∀h∈k,h∈l:=by
   intro l;induction l with
   |nil=>intro k hk;cases hk
   |cons a l ah=>
    intro k hk;simp only[fF]at hk;split at hk
    ·cases hk;exact⟨by simp,fun h A=>cR _ A⟩
    ·obtain⟨z,aD,aE⟩:=jR.1 hk;subst aE;obtain⟨aR,ae⟩:=ah z aD;refine⟨by simp;omega,fun h A=>?_⟩;rcases bS.1 A with o|o
     ·rw[o];exact dc
     ·exact cR _ (ae h o)
  obtain⟨aj,ak⟩:=Z _ _ G.symm;have U:VB {v with trees:=l}:={wait:=d.wait,last:=d.last,arm:=d.arm,jM:=d.jM,seq1:=d.seq1,lT:=d.lT,jk:=d.jk,jl:=d.jl,jm:=d.jm,gF:=d.gF,kh:=d.kh,n0:=d.n0,n1:=d.n1,trees:=fL aj d.trees,cP:=fun h A=>d.cP h (ak h A)}
  refine S.ag 2 ?_;refine S.ag 0 ?_;refine S.call (wH hv I U) fun aW aZ aH aS Q=>?_;obtain⟨rfl,aL,rfl,L⟩:=Q;obtain⟨an,aC,aA,rfl,aO,aQ,aP,ap,ay,av,aM⟩:=L.open;refine S.store (v:=.agg (bf an aC aA (dK v {v with trees:=l}).1)) 1 ?_ (hs:=cp ap ay av);exact⟨_,.cN 1 rfl rfl rfl rfl (.t rfl .nil),.none ⟨rfl,_,rfl,L⟩⟩
theorem KY [Fx F] {cs:List V} {v:aV} {id:Int} (hv:bR O cs v) (o:VB v):
 ai F 192 [.agg cs,.j id] O [] (fun r ψ R=>R=[]/\∃cs',r=.aN [.agg cs',.j (kg v id).2]/\bR ψ cs' (kg v id).1) never:=by
 obtain⟨Q,wv,ab,rfl,hl,hw,ht,sl,aw,st,hd⟩:=hv.open;refine ar ?_;refine S.box fun aj=>?_;refine S.alloc fun a4=>?_;refine S.ag 1 ?_;refine S.call (tv (kind:=3) (id:=id) hv o.trees) fun ay aA ae au G=>?_;obtain⟨rfl,rfl,w,rfl,M,A⟩:=G;have az:=w.2.2;obtain⟨X,d⟩:∃X,X=iz v.trees 3 id:=⟨_,rfl⟩
 rw[<-d]at M A⊢;refine S.alloc fun ak=>?_;refine S.store (v:=.agg (eA.f w)) 0 ?_ (hs:=eA.sc w);refine S.un ?_;refine C.B (fun OX=>?_) fun OX=>?_
 ·have e:kg v id=(v,2):=by
   unfold kg;rw[<-d];cases X with
   |none=>rfl
   |some z=>simp at OX
  rw[e];refine S.ag 2 ?_;refine S.store 1 ?_;exact⟨_,.cN 1 rfl rfl rfl rfl (.t rfl .nil),.none ⟨rfl,_,rfl,Q,wv,ab,rfl,hl,hw,ht⟩⟩
 ·obtain⟨h,rfl⟩:∃z,X=some z:=eS.1 (by simpa using OX);have e:kg v id=({v with trees:=jj v.trees h.t},0):=by unfold kg;rw[<-d]
  rw[e];change aa aG _ w.2.1 h.t at A;have L:=(o.cP h (AE d.symm)).1;refine S.ag 2 ?_;refine S.ld 0 ?_;refine S.call (AF hv o.trees A L) fun v20 aB ah av I=>?_;obtain⟨rfl,al,rfl,D⟩:=I;obtain⟨U,ac,ty,rfl,an,ap,ao,W,Z,Y,am⟩:=D.open;refine S.store (v:=.agg (bf U ac ty {v with trees:=jj v.trees h.t})) 1 ?_ (hs:=cp W Z Y);exact⟨_,.cN 1 rfl rfl rfl rfl (.t rfl .nil),.none ⟨rfl,_,rfl,D⟩⟩
def rr:Bs:=List.replicate 64 0
def AJ (n:Nat):au:=⟨List.replicate n rr,[],0,false⟩
theorem KZ [Fx F]:bm F 120 [] O (.str rr):=by
 refine ai.al (ar ?_);refine S.oE (e:=aU) (0:UInt8) (n:=64) (by omega) (by omega) fun h d=>?_;refine S.hM 0 d ?_;refine⟨_,.t rfl .nil,.done ?_⟩;rfl
theorem K0 [Fx F] {n:Nat} (hn:n<=770):
 ai F 70 [.j (n:Int)] O [] (fun r ψ R=>R=[]/\∃cs,r=.agg cs/\cu ψ cs (AJ n)) never:=by
 refine ar ?_;refine S.alloc fun h=>?_;refine S.build ?_;refine S.alloc fun a3=>?_;refine S.store 0 ?_;refine SW.new dA ?_;refine SW.bF (fun m E ψ R=>∃(j:Nat) (v:V) (s:Option Pa),j+m=n/\O=ψ/\R=[dA.ob s (List.replicate j rr),(some a3,.cells [v,.no .sl,.j 0,.bool false] false),(some h,.cells [.no .sl,.no .sl,.j 0,.bool false] false)]/\af dA v (List.replicate j rr) s/\Sub [(0,.j (n:Int)),(2,.ptr h 0),(3,.ptr a3 0),(4,.j (j:Int))] E) (m:=n) (.done ⟨0,.no .sl,none,by omega,rfl,rfl,af.nil,.r rfl⟩) ?_;intro I E ψ R W A;obtain⟨j,v,s,U,rfl,rfl,ho,o⟩:=A;refine C.sub o ?_;refine S.bin ?_;refine G.mv ?_;refine G.bin ?_;refine G.and ?_;refine C.B (fun Ph=>?_) fun Ph=>?_
 ·simp only[be,aR]at Ph;refine S.ld 1 ?_;refine S.al (KZ) ?_;refine S.bE 1 ?_ (hs:=ho.same);refine S.a8 fun Q=>?_;refine S.br (m:=[rr]) 1 ho (.lit 0) (by simp;omega) fun M L d=>?_;refine S.drop 0 ?_;have Z:=d.ax;rw[<-List.replicate_succ']at d⊢;refine S.aD ?_;refine S.fB 1 ?_;refine S.bin ?_;exact⟨I-1,by omega,.done ⟨j+1,M,L,by omega,rfl,rfl,d,.r rfl⟩⟩
 ·have hj:j=n:=by simp only[iF,bD]at Ph;omega
  subst hj;have wv:=ho.ax;refine S.ag 1 ?_;refine S.store 2 ?_;exact⟨_,.cN 2 rfl rfl rfl rfl .nil,.bL 0 rfl ho fun ab Y D=>.none ⟨rfl,_,rfl,v,.no .sl,rfl,D,aa.nil _⟩⟩
end Go.Ev
namespace Go.Ev
theorem AK {h x:bC}:∀{l:List bC},x∈ji h l->x=h\/x∈l
 |[],hx=>.inl (hB.1 hx)
 |a::l,hx=>by
  simp only[ji]at hx;split at hx
  ·rcases bS.1 hx with o|o
   ·exact .inl o
   ·exact .inr o
  ·rcases bS.1 hx with o|o
   ·exact .inr (bS.2 (.inl o))
   ·rcases AK o with aj|aj
    ·exact .inl aj
    ·exact .inr (cR _ aj)
theorem AL {k i:Int} {x:bC}:∀{l r:List bC},fF l k i=some r->x∈r->x∈l
 |[],_,h,_=>by cases h
 |a::l,r,h,hx=>by
  simp only[fF]at h;split at h
  ·cases h;exact cR _ hx
  ·obtain⟨z,d,j⟩:=jR.1 h;subst j;rcases bS.1 hx with o|o
   ·rw[o];exact dc
   ·exact cR _ (AL d o)
theorem AN {h x:bC} {l:List bC} (hx:x∈dX l h):x=h\/x∈l:=by
 unfold dX at hx;rcases AK hx with o|o
 ·exact .inl o
 ·refine .inr ?_;cases hl:fF l h.r.kind h.r.id with
  |none=>rw[hl]at o;exact o
  |some r=>rw[hl]at o;exact AL hl o
theorem wI {l:List bC} {P:ao->Prop} (h0:P nG) (hp:∀h∈l,P h.t):P (dD l):=by
 unfold dD;cases d:iz l 1 0 with
 |none=>exact h0
 |some h=>exact hp h (qa d)
end Go.Ev
set_option maxHeartbeats 4000000
namespace Go.Ev
variable{F:Nat->Option aP} {O:Fz}
theorem AO:bI nG/\(b3 nG).length<=1000:=⟨⟨by decide,by decide⟩,by decide+kernel⟩
theorem tD {O:Fz} {h wv j:V} {v:aV} (hl:aa dA O h v.d.last) (hw:aa j5 O wv v.d.wait) (ht:hf O j v.trees):same (.agg (bf h wv j v)) (.agg (bf h wv j v))=true:=by
 simp[bf,same,b9,hl.c7,hw.c7,ht.c7,e0,kL]
theorem K1 [Fx F] {cs:List V} {v:aV} (hv:bR O cs v) (d:VB v) (a8:v.trees.length<=900000) (a1:0<=v.id) (a2:v.id<=1000000) (a7:0<=v.next):
 ai F 190 [.agg cs] O [] (fun r ψ R=>R=[]/\∃cs',r=.aN [.agg cs',.j (hR v).2.1,.j (hR v).2.2]/\bR ψ cs' (hR v).1) never:=by
 obtain⟨aE,wv,aJ,rfl,hl,hw,ht,sl,bd,st,hd⟩:=hv.open;refine ar ?_;refine S.box fun aQ=>?_;refine S.alloc fun aS=>?_;refine S.ag 1 ?_;refine S.al (KP hv d.trees) ?_;refine S.bin ?_;refine G.aD ?_;refine G.ld 1 ?_;refine G.bin ?_;refine G.or ?_;refine C.B (fun OX=>?_) fun OX=>?_
 ·have e:hR v=(v,0,8):=by
   unfold hR;rw[ae];simp only[cx,aR]at OX;rcases OX with h|h
   ·exact .inl (by omega)
   ·exact .inr h
  rw[e];refine S.ag 1 ?_;refine S.store 0 ?_;exact⟨_,.cN 0 rfl rfl rfl rfl (.t rfl (.t rfl .nil)),.none ⟨rfl,_,rfl,aE,wv,aJ,rfl,hl,hw,ht⟩⟩
 ·simp only[cg,bD]at OX;have A:hR v=(if(dK v {v with trees:=dX v.trees ⟨⟨3,v.next,v.id*65536+v.next,0,0⟩,dD v.trees⟩,next:=v.next+1}).2≠0 then((dK v {v with trees:=dX v.trees ⟨⟨3,v.next,v.id*65536+v.next,0,0⟩,dD v.trees⟩,next:=v.next+1}).1,0,(dK v {v with trees:=dX v.trees ⟨⟨3,v.next,v.id*65536+v.next,0,0⟩,dD v.trees⟩,next:=v.next+1}).2)else((dK v {v with trees:=dX v.trees ⟨⟨3,v.next,v.id*65536+v.next,0,0⟩,dD v.trees⟩,next:=v.next+1}).1,v.next,0)):=by
   unfold hR;rw[ab (by omega)]
  refine S.ag 1 ?_;refine S.ld 1 ?_;refine S.ld 1 ?_;refine S.bin ?_;refine S.ld 1 ?_;refine S.bin ?_;refine S.build ?_;refine S.ag 1 ?_;refine S.alloc fun a5=>?_;refine S.call (wq hv d.trees) fun aK bh aM D L=>?_;obtain⟨rfl,L⟩:=L;have aL:=L.ax;have hv:=hv.mono D;have hl:=hl.mono D;have hw:=hw.mono D;have ht:=ht.mono D;have hd:=hd.mono D;refine S.gZ 0 ?_;refine S.bE 2 ?_;refine S.bE 2 ?_;refine S.bE 2 ?_;refine S.dg 2 ?_ (hs:=tD hl hw ht);refine S.build ?_;refine S.call (AD (h:=⟨⟨3,v.next,v.id*65536+v.next,0,0⟩,dD v.trees⟩) (ht:=⟨aK,aL⟩) hv d.trees L) fun be bi aO I an=>?_;obtain⟨rfl,aU,rfl,az⟩:=an;have hv:=hv.mono I;have hl:=hl.mono I;have hw:=hw.mono I;have ht:=ht.mono I;have hd:=hd.mono I;obtain⟨ak,am,ty,rfl,aw,aA,ay,aF,aI,aH,aX⟩:=az.open;refine S.gZ 0 ?_;refine S.store (v:=.agg (bf ak am ty {v with trees:=dX v.trees ⟨⟨3,v.next,v.id*65536+v.next,0,0⟩,dD v.trees⟩})) 0 ?_ (hs:=cp aF aI aH);refine S.ld 0 ?_;refine S.bin ?_ (v:=.j (v.next+1)) (hv:=dz (by omega) (by omega));refine S.store 0 ?_;refine S.ag 2 ?_;refine S.ag 0 ?_;have aC:(dX v.trees ⟨⟨3,v.next,v.id*65536+v.next,0,0⟩,dD v.trees⟩).length<=1000000:=by
   unfold dX;rw[AB];exact fL (Nat.succ_le_succ (wu (l:=v.trees))) (by omega)
  have aB:∀h∈dX v.trees ⟨⟨3,v.next,v.id*65536+v.next,0,0⟩,dD v.trees⟩,bI h.t/\(b3 h.t).length<=1000:=fun h av=>by
   rcases AN av with o|o
   ·rw[o];exact wI (P:=fun t=>bI t/\(b3 t).length<=1000) AO d.cP
   ·exact d.cP h o
  have au:VB {v with trees:=dX v.trees ⟨⟨3,v.next,v.id*65536+v.next,0,0⟩,dD v.trees⟩,next:=v.next+1}:={wait:=d.wait,last:=d.last,arm:=d.arm,jM:=d.jM,seq1:=d.seq1,lT:=d.lT,jk:=d.jk,jl:=d.jl,jm:=d.jm,gF:=d.gF,kh:=d.kh,n0:=d.n0,n1:=d.n1,trees:=aC,cP:=aB}
  refine S.call (wH (x:={v with trees:=dX v.trees ⟨⟨3,v.next,v.id*65536+v.next,0,0⟩,dD v.trees⟩,next:=v.next+1}) hv ⟨ak,am,ty,rfl,aw,aA,ay⟩ au) fun bg bj aP bc ao=>?_;obtain⟨rfl,aW,rfl,M⟩:=ao;obtain⟨Y,ap⟩:∃Y,Y=dK v {v with trees:=dX v.trees ⟨⟨3,v.next,v.id*65536+v.next,0,0⟩,dD v.trees⟩,next:=v.next+1}:=⟨_,rfl⟩
  rw[<-ap]at M A⊢;obtain⟨U,aj,ah,rfl,a6,bb,ba,W,ac,Z,aZ⟩:=M.open;refine S.alloc fun aT=>?_;refine S.store (v:=.agg (bf U aj ah Y.1)) 0 ?_ (hs:=cp W ac Z);refine S.bin ?_;refine C.B (fun Q=>?_) fun Q=>?_
  ·rw[ae (by simpa using Q)]at A;rw[A];refine S.ag 0 ?_;refine S.store (v:=.agg (bf U aj ah Y.1)) 2 ?_ (hs:=cp W ac Z);exact⟨_,.cN 2 rfl rfl rfl rfl (.t rfl (.t rfl .nil)),.none ⟨rfl,_,rfl,M⟩⟩
  ·rw[ab (by simpa using Q)]at A;rw[A];refine S.ag 0 ?_;refine S.ld 3 ?_;refine S.store (v:=.agg (bf U aj ah Y.1)) 2 ?_ (hs:=cp W ac Z);refine S.bE 3 ?_;exact⟨_,.cN 2 rfl rfl rfl rfl (.t rfl (.t rfl .nil)),.none ⟨rfl,_,rfl,M⟩⟩
end Go.Ev
namespace Go.Ev
def DB (v w:aV):Prop:=w.d.last.length=v.d.last.length/\w.d.wait.length<=v.d.wait.length+100/\w.d.arm<=max v.d.arm 0
theorem DB.refl (v:aV):DB v v:=⟨rfl,by omega,by omega⟩
theorem AP {st v:aV} {gen:Int} {p:List aT×List ah} (h:v.d.last.length=st.d.last.length/\v.d.wait.length<=st.d.wait.length+1/\v.d.arm<=max st.d.arm 0) (hp:p.1.length<=64):DB st (hh st v gen p).1:=by
 obtain⟨o,aj,j⟩:=tB p.1 v.d (bB v.aJ+v.pos);obtain⟨A,k2,B⟩:=tB [eM gen v.next v.id p.2] (cQ v.d (bB v.aJ+v.pos) p.1).1 (bB v.aJ+v.pos+p.1.length);simp only[b7,na]at k2;unfold hh;simp only;split
 ·exact⟨by show(cQ _ _ _).1.last.length=_;omega,by show(cQ _ _ _).1.wait.length<=_;omega,by show(cQ _ _ _).1.arm<=_;omega⟩
 ·split
  ·exact⟨by show(cQ (cQ _ _ _).1 _ _).1.last.length=_;omega,by show(cQ (cQ _ _ _).1 _ _).1.wait.length<=_;omega,by show(cQ (cQ _ _ _).1 _ _).1.arm<=_;omega⟩
  ·exact⟨by show(cQ (cQ _ _ _).1 _ _).1.last.length=_;omega,by show(cQ (cQ _ _ _).1 _ _).1.wait.length<=_;omega,by show(cQ (cQ _ _ _).1 _ _).1.arm<=_;omega⟩
theorem ru {v:aV} {lo hi:Int} (h:0<=v.pos):DB v (cq v lo hi).1:=by
 unfold cq;split
 ·exact .refl v
 ·split
  ·exact .refl v
  ·split
   ·exact .refl v
   ·split
    ·exact .refl v
    ·split
     ·exact .refl v
     ·split
      ·unfold writeNew;split
       ·exact .refl v
       ·rename_i aJ o;split
        ·exact .refl v
        ·split
         ·exact .refl v
         ·rename_i A j;split
          ·exact .refl v
          ·have hs:=rq v.d ⟨v.n+1,v.seq,v.sum,aJ,0⟩;simp only;split
           ·exact⟨hs.1,by show(gu _ _).1.wait.length<=_;omega,hs.2.2⟩
           ·exact AP hs (by omega)
      ·exact AP ⟨rfl,by omega,by omega⟩ (by omega)
end Go.Ev
set_option maxHeartbeats 4000000
namespace Go.Ev
variable{F:Nat->Option aP} {O:Fz}
def eB (ap:Nat) (id:Int):aV:=⟨AJ (2+ap*64),0,0,0,0,0,1,id,[⟨⟨1,0,0,0,0⟩,nG⟩]⟩
def nM (w:aV):au×Bool:=gu w.d ⟨1,w.seq,w.sum,w.aJ,w.pos⟩
def mK (ap:Nat) (id:Int):aV×Bool:=({(cq (eB ap id) 0 0).1 with d:=(nM (cq (eB ap id) 0 0).1).1,n:=1},decide ((cq (eB ap id) 0 0).2=0)&&(nM (cq (eB ap id) 0 0).1).2)
theorem AQ {ap:Nat} {id:Int} (h:ap<=12):VB (eB ap id):={wait:=by show 0<=100000;omega,last:=by show(List.replicate _ _).length<=1000000;rw[k0];omega,arm:=by show(0:Int)<=1000000;omega,jM:=ej 0,seq1:=by show(0:Int)<=1073741824;omega,lT:=ej 0,jk:=by show(0:Int)<=1000000000;omega,jl:=ej 0,jm:=by show(0:Int)<=1000000;omega,gF:=ej 0,kh:=by show(0:Int)<=1000;omega,n0:=ej 0,n1:=by show(0:Int)<=1000000000000;omega,trees:=by show 1<=1000000;omega,cP:=fun x hx=>by rw[hB.1 hx];exact AO}
theorem K2 [Fx F] {ap:Nat} {id:Int} (aP:4<=ap) (M:ap<=12) (aS:0<=id) (aT:id<=1000):
 ai F 33 [.j (ap:Int),.j id] O [] (fun r ψ R=>R=[]/\∃cs',r=.aN [.agg cs',.bool (mK ap id).2]/\bR ψ cs' (mK ap id).1) never:=by
 refine ar ?_;refine S.alloc fun a4=>?_;refine S.bin ?_;refine G.mv ?_;refine G.bin ?_;refine G.or ?_;refine G.mv ?_;refine G.bin ?_;refine G.or ?_;refine G.mv ?_;refine G.bin ?_;refine G.or ?_;refine C.B (fun O5=>?_) fun O5=>?_
 ·simp only[cx,aR]at O5;exfalso;omega
 ·refine S.bin ?_ (v:=.j ((ap*64:Nat):Int)) (hv:=by rw[sR (by omega) (by omega)];(try rfl));refine S.bin ?_ (v:=.j ((2+ap*64:Nat):Int)) (hv:=by rw[dz (by omega) (by omega)];(try rfl));refine S.call (K0 (n:=2+ap*64) (by omega)) fun a6 a7 aF aW ab=>?_;obtain⟨rfl,ds,rfl,hd⟩:=ab;obtain⟨W,wv,rfl,hl,hw,sl,a1⟩:=hd.open;refine S.build ?_;refine S.call (zC) fun aA ba aH U h=>?_;obtain⟨h,rfl⟩:=h;have aB:=h.ax;refine S.build ?_;refine S.a8 fun A=>?_;have av:af eA (.sl A 0 1 (.ex 1)) [((⟨1,0,0,0,0⟩:cK),(⟨aA,aB⟩:SV))] (some A):=af.new rfl;refine S.cd 0 av fun aE L ac=>?_;have hl:=(hl.mono U).mono L;have hw:=(hw.mono U).mono L;have al:bR aE (bf W wv (.sl A 0 1 (.ex 1)) (eB ap id)) (eB ap id):=⟨W,wv,_,rfl,hl,hw,_,ac,HR.one (h.mono L)⟩
  refine S.build ?_;refine S.alloc fun aL=>?_;refine S.store 0 ?_;refine S.ag 0 ?_;refine S.call (wG (lo:=0) (hi:=0) al (AQ M)) fun v37 bb aI aX ae=>?_;obtain⟨rfl,aM,rfl,I⟩:=ae;obtain⟨Y,Q⟩:∃Y,Y=cq (eB ap id) 0 0:=⟨_,rfl⟩
  have o:=ru (v:=eB ap id) (lo:=0) (hi:=0) (ej 0);have Z:mK ap id=({Y.1 with d:=(nM Y.1).1,n:=1},decide (Y.2=0)&&(nM Y.1).2):=by unfold mK;rw[Q]
  rw[Z];rw[<-Q]at I o⊢;obtain⟨ao,aC,ty,rfl,aU,aV,D,aw,az,ay,aQ⟩:=I.open;refine S.store (v:=.agg (bf ao aC ty Y.1)) 0 ?_ (hs:=cp aw az ay);refine S.ag 0 ?_;refine S.ld 0 ?_;refine S.ld 0 ?_;refine S.ld 0 ?_;refine S.ld 0 ?_;refine S.build ?_;refine S.call (Ay (x:=⟨1,Y.1.seq,Y.1.sum,Y.1.aJ,Y.1.pos⟩) I (by have:=o.2.1;have h0:(eB ap id).d.wait.length=0:=rfl;omega) (by rw[o.1];exact(AQ M).last) (by have:=o.2.2;have h0:(eB ap id).d.arm=0:=rfl;omega) (by show(0:Int)<=1;omega)) fun v51 bc aK an ah=>?_;obtain⟨rfl,aO,rfl,aj⟩:=ah;obtain⟨au,aD,rfl,ak,am,aZ,a2⟩:=aj.open;have D:=D.mono an;refine S.alloc fun dL=>?_;refine S.store 0 ?_;refine S.ag 0 ?_;refine S.store 1 ?_;refine S.store 1 ?_;refine S.ag 1 ?_;refine S.bin ?_;refine G.mv ?_;refine G.and ?_;refine S.store 2 ?_;exact⟨_,.cN 2 rfl rfl rfl rfl (.t rfl .nil),.none ⟨rfl,_,rfl,au,aD,ty,rfl,ak,am,D⟩⟩
end Go.Ev
namespace Go.Ev
theorem AR (t:ao) (x:Bs):∀(l:List Bs) (a:Int),(hO t a (l++[x])).2=0->(hO t a l).2=0/\(nodeAt t (hO t a l).1).kind=2
 |[],a,h=>by
  simp only[fo,hO]at h⊢;split at h
  ·cases h
  ·rename_i hk;exact⟨trivial,by simpa using hk⟩
 |b::l,a,h=>by
  simp only[k3,hO]at h⊢;split at h
  ·cases h
  ·rename_i hk;rw[ab hk];cases d:fe (aW t a) b with
   |none=>rw[d]at h;cases h
   |some n=>
    rw[d]at h;simp only at h⊢;split at h
    ·cases h
    ·rename_i hn;rw[ab hn];exact AR t x l n h
theorem K3 {t:ao} {q:List Bs} (h0:q≠[]) (h:(dV t q).2=0):(aQ t q).2.2=0:=by
 have e:q=q.dropLast++[q.getLast h0]:=(tX h0).symm;have hl:¬t.length<1:=fun hl=>by unfold dV at h;rw[ae hl]at h;cases h
 have o:(dV t q.dropLast).2=0/\(nodeAt t (dV t q.dropLast).1).kind=2:=by
  rw[e]at h;unfold dV at h⊢;rw[ab hl]at h⊢;exact AR t _ _ _ h
 unfold aQ;rw[ab (by rw[o.1];decide),ab (by rw[o.2];decide)]
theorem AS {t:ao} {path:Bs} {own:Bool} (h:(bb t path own).2=0) (o:(bb t path own).1≠1):(aQ t ((parts path own).getD [])).2.2=0:=by
 unfold bb at h o;cases hp:parts path own with
 |none=>rw[hp]at h;cases h
 |some l=>
  rw[hp]at h o;simp only at h o;show(aQ t l).2.2=0;refine K3 (fun e=>?_) h;subst e;unfold dV at h o;split at h
  ·cases h
  ·rename_i hl;rw[ab hl]at o;exact o rfl
theorem K4 {t:ao} {path:Bs} {own:Bool}:∀q,parts path own=some q->(bb t path own).2=0->(bb t path own).1≠1->(aQ t q).2.2=0:=fun q hq h o=>by
 have:=AS h o;rw[hq]at this;exact this
theorem AT {nm d:List Int} {n:cj} (h:ff nm n=some d):n.body.length<=120/\(n.kind=2->∃l,cv n.body=some l/\d=l.foldl bump nm)/\(n.kind≠2->d=nm):=by
 unfold ff at h;split at h
 ·rename_i h0;split at h
  ·rename_i o;cases h;subst o;exact⟨by decide,fun h=>(by cases h),fun _=>rfl⟩
  ·cases h
 ·split at h
  ·rename_i o;unfold j6 at h;split at h
   ·cases h
   ·cases h;exact⟨by omega,fun h=>(by rw[o]at h;cases h),fun _=>rfl⟩
  ·split at h
   ·rename_i aj;cases hd:cv n.body with
    |none=>rw[hd]at h;cases h
    |some l=>
     rw[hd]at h;simp only at h;unfold j6 at h;split at h
     ·cases h
     ·cases h;exact⟨by omega,fun _=>⟨l,rfl,rfl⟩,fun h=>absurd aj h⟩
   ·cases h
theorem AU:∀(t:List cj) {nm d:List Int},j7 t nm=some d->∀n∈t,n.body.length<=120
 |[],_,_,_,n,hn=>by cases hn
 |a::r,nm,d,h,n,hn=>by
  simp only[j7]at h;split at h
  ·cases h
  ·rename_i j aj;rcases bS.1 hn with rfl|hn
   ·exact(AT aj).1
   ·exact AU r h n hn
theorem wJ {t:ao} (h:bH t=true):t.length=9/\(nodeAt t 1).kind=2/\∃nm,pP t=some nm/\∀i:Nat,1<=i->i<=9->jJ t nm (eg t) i=false:=by
 unfold bH at h;split at h
 ·rename_i o;cases hn:pP t with
  |none=>rw[hn]at h;cases h
  |some nm=>
   rw[hn]at h;simp only at h;refine⟨o.1,o.2,nm,rfl,fun i o d=>?_⟩;have:=eU.1 h i (by simp only[bS];omega);simpa using this
 ·cases h
theorem rv {t:ao} (h:bH t=true):t.length=9/\∀n∈t,n.body.length<=120:=by
 obtain⟨o,_,nm,aj,_⟩:=wJ h;exact⟨o,AU t aj⟩
theorem ry {t:ao} (h:bH t=true):bI t:=by
 obtain⟨o,aj⟩:=rv h;exact⟨by omega,fun n hn=>by have:=aj n hn;omega⟩
theorem AV (ino:Int):∀(k f:Nat) (idx:Int) (b:Bs),b.length<=40*k->(ix ino f idx b).length<=k
 |_,0,_,_,_=>cS _
 |0,f+1,idx,b,h=>by
  have:b=[]:=e8 (by omega);simp only[ix];rw[ae this];exact aB _
 |k+1,f+1,idx,b,h=>by
  simp only[ix];split
  ·exact cS _
  ·rw[b7];have:=AV ino k f (idx+1) (b.drop 40) (by rw[bW];omega);omega
theorem AW:∀(i:Int) (l:List cj),(∀n∈l,n.body.length<=120)->(fE i l).length<=4*l.length
 |_,[],_=>aB _
 |i,n::r,h=>by
  have o:=AW (i+1) r (fun x hx=>h x (cR _ hx));have aj:(jg i n).length<=4:=by
   unfold jg;split
   ·exact cS _
   ·have:=AV i 3 n.body.length 1 n.body (h n dc);rw[b7];omega
  simp only[fE,c2,b7];omega
theorem AX (t:ao):(b3 t).length<=36:=by
 unfold b3;split
 ·rename_i h;obtain⟨o,aj⟩:=rv h;have:=AW 1 t aj;omega
 ·exact cS _
def iA (c:Int) (l:List aX):Nat:=(l.filter (fun e=>decide (e.ino=c))).length
def e3 (n:cj):List aX:=if n.kind=2 then(cv n.body).getD []else[]
theorem K5 {nm:List Int} {e:aX} {c:Nat} (hc:c<nm.length) (h0:0<=e.ino):((bump nm e)[c]?).getD 0=(nm[c]?).getD 0+(if e.ino=(c:Int)then 1 else 0):=by
 unfold bump;rw[rO];by_cases h:e.ino=(c:Int)
 ·rw[ae h,h];simp[hc]
 ·have hn:e.ino.toNat≠c:=by omega
  rw[ab h];cases hq:nm[c]? with
  |none=>rfl
  |some x=>simp[hn]
theorem AY (nm:List Int) (e:aX):(bump nm e).length=nm.length:=by unfold bump;simp
theorem AZ {c:Nat}:∀(l:List aX) {nm:List Int},c<nm.length->(∀e∈l,1<=e.ino)->((l.foldl bump nm)[c]?).getD 0=(nm[c]?).getD 0+(iA c l:Int)/\(l.foldl bump nm).length=nm.length
 |[],nm,hc,_=>⟨by simp[iA],rfl⟩
 |e::l,nm,hc,h=>by
  have o:=h e dc;obtain⟨d,k2⟩:=AZ l (nm:=bump nm e) (by rw[AY];exact hc) (fun x hx=>h x (cR _ hx));rw[K5 hc (by omega)]at d;rw[gK];refine⟨?_,by rw[k2,AY]⟩;rw[d];unfold iA;rw[qf];by_cases he:e.ino=(c:Int)
  ·simp[he];omega
  ·simp[he]
theorem wK {c:Nat}:∀(t:List cj) {nm d:List Int},c<nm.length->j7 t nm=some d->(d[c]?).getD 0=(nm[c]?).getD 0+(((t.map (fun n=>iA c (e3 n))).sum:Nat):Int)
 |[],nm,d,hc,h=>by simp only[j7,aL]at h;subst h;simp
 |n::r,nm,d,hc,h=>by
  simp only[j7]at h;split at h
  ·cases h
  ·rename_i j aj;obtain⟨_,k2,o⟩:=AT aj;have hd:(j[c]?).getD 0=(nm[c]?).getD 0+(iA c (e3 n):Int)/\j.length=nm.length:=by
    by_cases hk:n.kind=2
    ·obtain⟨l,hl,rfl⟩:=k2 hk;have:e3 n=l:=by unfold e3;rw[ae hk,hl];(try rfl)
     rw[this];exact AZ l hc (fun e he=>(vL hl e he).1)
    ·rw[o hk];have:e3 n=[]:=by unfold e3;rw[ab hk]
     rw[this];exact⟨by simp[iA],rfl⟩
   have:=wK r (c:=c) (nm:=j) (by rw[hd.2];exact hc) h;rw[this,hd.1,eD,ql];omega
theorem A0 {f:cj->Nat}:∀{t:List cj} {i j:Nat} (hi:i<t.length) (hj:j<t.length),i≠j->1<=f t[i]->1<=f t[j]->2<=(t.map f).sum
 |[],i,_,hi,_,_,_,_=>absurd hi (by simp)
 |a::t,i,j,hi,hj,d,o,aj=>by
  have key:∀{t:List cj} {i:Nat} (hi:i<t.length),1<=f t[i]->1<=(t.map f).sum:=by
   intro t;induction t with
   |nil=>intro i hi;exact absurd hi (by simp)
   |cons a t A=>
    intro i hi h;rw[eD,ql];cases i with
    |zero=>have h':1<=f a:=h;omega
    |succ i=>have:=A (by simpa using hi) (by simpa using h);omega
  rw[eD,ql];cases i with
  |zero=>
   cases j with
   |zero=>exact absurd rfl d
   |succ j=>
    have:=key (t:=t) (i:=j) (by simpa using hj) (by simpa using aj);have h':1<=f a:=o;omega
  |succ i=>
   cases j with
   |zero=>
    have:=key (t:=t) (i:=i) (by simpa using hi) (by simpa using o);have h':1<=f a:=aj;omega
   |succ j=>
    have:=A0 (t:=t) (i:=i) (j:=j) (by simpa using hi) (by simpa using hj) (by omega) (by simpa using o) (by simpa using aj);omega
theorem rz {t:ao} {p:Int} {e:aX} (he:e∈aW t p):∃i:Nat,∃h:i<t.length,p=((i+1:Nat):Int)/\e∈e3 t[i]/\(nodeAt t p).kind=2:=by
 unfold aW at he;split at he
 ·cases he
 ·rename_i h0;have o:1<=p/\p<=t.length/\(nodeAt t p).kind=2:=⟨by omega,by omega,by simp only[not_or,Decidable.not_not]at h0;exact h0.2.2⟩
  obtain⟨i,hi⟩:∃i:Nat,p=((i+1:Nat):Int):=⟨(p-1).toNat,by omega⟩
  have d:i<t.length:=by omega
  refine⟨i,d,hi,?_,o.2.2⟩;have hn:=ti d;rw[<-hi]at hn;unfold e3;rw[<-hn,ae o.2.2];exact he
theorem tE {c:Int} {l:List aX} {e:aX} (he:e∈l) (h:e.ino=c):1<=iA c l:=by
 unfold iA;exact List.length_pos_of_mem (List.mem_filter.2 ⟨he,by simp[h]⟩)
inductive Dn (t:ao):Nat->Int->Prop
 |root:Dn t 0 1
 |step {n:Nat} {p:Int} {e:aX}:Dn t n p->e∈aW t p->Dn t (n+1) e.ino
theorem K6 {t:ao} {B:Nat} {seen:List Bool} (h:∀i:Nat,(seen[i]?).getD false=true->∃n,n<=B/\Dn t n i) (k:Nat):∀i:Nat,((jb t seen k)[i]?).getD false=true->∃n,n<=B+1/\Dn t n i:=by
 unfold jb;split
 ·rename_i hk;obtain⟨m,hm,hd⟩:=h k hk;have key:∀(l:List aX) (s:List Bool),(∀e∈l,e∈aW t k)->(∀i:Nat,(s[i]?).getD false=true->∃n,n<=B+1/\Dn t n i)->∀i:Nat,((l.foldl mark s)[i]?).getD false=true->∃n,n<=B+1/\Dn t n i:=by
   intro l;induction l with
   |nil=>intro s _ hs;exact hs
   |cons e l j=>
    intro s hl hs;rw[gK];refine j _ (fun x hx=>hl x (cR _ hx)) (fun i hi=>?_);unfold mark at hi;rw[kn]at hi;split at hi
    ·rename_i A;have d:=hl e dc;have o:=(kM e d).1;have he:e.ino=(i:Int):=by omega
     exact⟨m+1,by omega,by rw[<-he];exact .step hd d⟩
    ·exact hs i hi
  exact key _ _ (fun e he=>he) (fun i hi=>let⟨n,o,aj⟩:=h i hi;⟨n,by omega,aj⟩)
 ·exact fun i hi=>let⟨n,o,aj⟩:=h i hi;⟨n,by omega,aj⟩
theorem K7 {t:ao} {B:Nat} {seen:List Bool} (h:∀i:Nat,(seen[i]?).getD false=true->∃n,n<=B/\Dn t n i):∀i:Nat,((iw t seen)[i]?).getD false=true->∃n,n<=B+9/\Dn t n i:=by
 have key:∀(l:List Nat) (B:Nat) (s:List Bool),(∀i:Nat,(s[i]?).getD false=true->∃n,n<=B/\Dn t n i)->∀i:Nat,((l.foldl (jb t) s)[i]?).getD false=true->∃n,n<=B+l.length/\Dn t n i:=by
  intro l;induction l with
  |nil=>intro B s hs;exact hs
  |cons k l d=>
   intro B s hs i hi;rw[gK]at hi;obtain⟨n,o,aj⟩:=d (B+1) _ (K6 hs k) i hi;exact⟨n,by rw[b7];omega,aj⟩
 exact key [1,2,3,4,5,6,7,8,9] B seen h
theorem A1 {t:ao}:∀i:Nat,((eg t)[i]?).getD false=true->∃n,n<=81/\Dn t n i:=by
 have key:∀(k B:Nat) (s:List Bool),(∀i:Nat,(s[i]?).getD false=true->∃n,n<=B/\Dn t n i)->∀i:Nat,((jI t k s)[i]?).getD false=true->∃n,n<=B+9*k/\Dn t n i:=by
  intro k;induction k with
  |zero=>intro B s hs;exact hs
  |succ k d=>
   intro B s hs i hi;simp only[jI]at hi;obtain⟨n,o,aj⟩:=d (B+9) _ (K7 hs) i hi;exact⟨n,by omega,aj⟩
 refine key 9 0 _ (fun i hi=>?_);rw[kn]at hi;split at hi
 ·rename_i o;subst o;exact⟨0,aB _,.root⟩
 ·rw[tY]at hi;split at hi<;>cases hi
theorem tF {t:ao} (h:bH t=true) {c:Int} (o:1<=c) (Z:c<=9) (hk:(nodeAt t c).kind=2):(∃n,n<=81/\Dn t n c)/\(c=1->∀p,∀e∈aW t p,e.ino≠c)/\(∀p q,∀e∈aW t p,∀e'∈aW t q,e.ino=c->e'.ino=c->p=q):=by
 obtain⟨hl,_,nm,S,I⟩:=wJ h;obtain⟨i,rfl⟩:∃i:Nat,c=(i:Int):=⟨c.toNat,by omega⟩
 have d:=I i (by omega) (by omega);unfold jJ at d;simp only[cg,hk]at d;have U:=wK t (c:=i) (nm:=List.replicate 10 0) (by rw[k0];omega) S;have hz:(((List.replicate 10 (0:Int))[i]?).getD 0)=0:=by rw[tY];split<;>rfl
 rw[hz]at U;refine⟨?_,?_,?_⟩
 ·refine A1 i ?_;have aj:=d.1.1.2;simpa using aj
 ·intro hc p e he D;have A:=d.1.2;simp only[hc,decide_true,gL,bD]at A;obtain⟨j,hj,hp,hm,_⟩:=rz he;have B:=tE hm D;have Y:1<=(t.map (fun n=>iA i (e3 n))).sum:=by
   have:∀{t:List cj} {j:Nat} (hj:j<t.length),1<=iA i (e3 t[j])->1<=(t.map (fun n=>iA i (e3 n))).sum:=by
    intro t;induction t with
    |nil=>intro j hj;exact absurd hj (by simp)
    |cons a t W=>
     intro j hj h;rw[eD,ql];cases j with
     |zero=>have h':1<=iA i (e3 a):=h;omega
     |succ j=>have:=W (by simpa using hj) (by simpa using h);omega
   exact this hj B
  omega
 ·intro p q e he e' L D M;obtain⟨j,hj,hp,hm,_⟩:=rz he;obtain⟨k,O,hq,R,_⟩:=rz L;by_cases F:j=k
  ·subst F;rw[hp,hq]
  ·exfalso;have aj:=A0 (f:=fun n=>iA i (e3 n)) hj O F (tE hm D) (tE R M);have A:=d.2;by_cases G:(i:Int)=1
   ·have B:=d.1.2;simp only[G,decide_true,gL,bD]at B;omega
   ·have Q:(1:Int)<(i:Int):=by omega
    simp only[Q,decide_true,gL,Bool.not_eq_eq_eq_not,Bool.not_false,aR]at A;omega
theorem K8 {t:ao} {p:Int} {e:aX} (he:e∈aW t p):1<=p/\p<=t.length/\(nodeAt t p).kind=2:=by
 obtain⟨i,hi,hp,_,hk⟩:=rz he;exact⟨by omega,by omega,hk⟩
theorem A2 {t:ao} (h:bH t=true):∀{n m:Nat} {c:Int},Dn t n c->Dn t m c->1<=c->c<=9->(nodeAt t c).kind=2->n=m
 |0,m,c,o,aj,_,_,hk=>by
  cases o;have:=(tF h (ej 1) (by decide) hk).2.1 rfl;generalize hc:(1:Int)=c at aj;cases aj with
  |root=>rfl
  |step hd he=>exact absurd hc.symm (this _ _ he)
 |n+1,m,c,o,aj,D,F,hk=>by
  obtain⟨_,A,B⟩:=tF h D F hk;generalize j:c=d at aj;cases o with
  |step hd he=>
   cases aj with
   |root=>exact absurd rfl (A j _ _ he)
   |step G I=>
    have L:=B _ _ _ he _ I rfl j.symm;subst L;obtain⟨M,k2,O⟩:=K8 he;have hl:=(rv h).1;rw[A2 h hd G M (by omega) O]
theorem A3 {t:ao} (h:bH t=true) (bi:Int):∀(f n:Nat) (top:Int),Dn t n top->1<=top->top<=9->(nodeAt t top).kind=2->82<=n+f->(fh t bi f top).isSome=true
 |0,n,top,hd,o,d,hk,D=>by
  obtain⟨m,hm,B⟩:=(tF h o d hk).1;have:=A2 h hd B o d hk;omega
 |f+1,n,top,hd,o,d,hk,D=>by
  simp only[fh];split
  ·rfl
  ·have hl:=(rv h).1;have key:∀l:List aX,(∀e∈l,e∈aW t top)->(l.foldr (fun e rest=>if e.ino<=(t.length:Int)/\(nodeAt t e.ino).kind=2 then(match fh t bi f e.ino with
    |none=>none
    |some true=>some true
    |some false=>rest)else rest) (some false)).isSome=true:=by
    intro l;induction l with
    |nil=>intro _;rfl
    |cons e l F=>
     intro hm;have A:=F (fun x hx=>hm x (cR _ hx));rw[List.foldr_cons];split
     ·rename_i hc;have j:=hm e dc;have hi:=kM e j;have:=A3 h bi f (n+1) e.ino (.step hd j) hi.1 hi.2 hc.2 (by omega);cases hw:fh t bi f e.ino with
      |none=>rw[hw]at this;cases this
      |some b=>cases b with
       |true=>rfl
       |false=>exact A
     ·exact A
   exact key _ (fun e he=>he)
theorem K9 {t:ao} (h:bH t=true) (fr j:Bs) (own:Bool):∃x,mG 82 t fr j own=some x:=by
 unfold mG;split
 ·rename_i q l hq hl;simp only;split
  ·exact⟨_,rfl⟩
  ·rename_i hz;split
   ·exact⟨_,rfl⟩
   ·split
    ·exact⟨_,rfl⟩
    ·split
     ·exact⟨_,rfl⟩
     ·split
      ·exact⟨_,rfl⟩
      ·split
       ·exact⟨_,rfl⟩
       ·split
        ·rename_i hk;have d:=kN (t:=t) (p:=fr) (own:=own) (by simpa using hz);have o:=(rv h).1;obtain⟨n,_,hd⟩:=(tF h d.1 (by omega) hk).1;have:=A3 h (aQ t l).1 82 n _ hd d.1 (by omega) hk (by omega);cases hw:fh t (aQ t l).1 82 (bb t fr own).1 with
         |none=>rw[hw]at this;cases this
         |some b=>cases b<;>exact⟨_,rfl⟩
        ·exact⟨_,rfl⟩
 ·exact⟨_,rfl⟩
def jn (s:Int) (a:Int×Int) (p:ah):Int×Int:=if dW p.addr=s then(a.1+1,max a.2 p.gen)else a
def p1 (v:aV) (u:Int×Int):Int:=((64-u.1)*(v.seq+1-u.2)).tdiv (64+u.1)
def p2 (b:Option (Int×Int)) (s w:Int):Option (Int×Int):=match b with
 |none=>some (s,w)
 |some x=>if x.2<w then some (s,w)else some x
def wL (v:aV) (l:List ah) (b:Option (Int×Int)) (s:Int):Option (Int×Int):=
 if s=v.aJ\/(l.foldl (jn s) (0,0)).1=0 then b
 else p2 b s (p1 v (l.foldl (jn s) (0,0)))
def nN (v:aV) (l:List ah):Nat->Int->Option (Int×Int)->Option (Int×Int)
 |0,_,b=>b
 |k+1,s,b=>nN v l k (s+1) (wL v l b s)
def mL (v:aV):Option Int:=(nN v ((blocks v.d v.sum).getD []) (bK v.d) 0 none).map (·.1)
def jN (v:aV):aV×Int×Int:=match mL v with
 |none=>(v,0,2)
 |some s=>
  let x:=cq v (bB s) (bB s+64)
  if x.2=11 then({v with d:=x.1.d},0,11)else if x.2≠0 then(v,0,x.2)else(x.1,s,0)
structure eC where
 kind:Int
 v:Int
 id:Int
 mode:Int
 off:Int
 path:Bs
 dst:Bs
 text:Bs
 deriving DecidableEq
def e4 (t:ao) (s:eC):ao×Int:=
 if s.kind=1 then gB t s.path s.mode 6 0 false
 else if s.kind=2 then fY t s.path s.dst false
 else if s.kind=3 then jd t s.path false
 else if s.kind=4 then(mG 82 t s.path s.dst false).getD (t,0)
 else if s.kind=5 then hP t s.path s.off s.text false
 else if s.kind=6 then je t s.path s.off false
 else j9 t s.path s.mode false
def fG (v:aV) (s:eC):aV:=
 if s.kind=11 then(dK v v).1
 else if s.kind=12 then(hR v).1
 else if s.kind=13 then(kf v s.id).1
 else if s.kind=14 then(kg v s.id).1
 else(jN v).1
def eP (v:aV) (s:eC):aV:=
 if s.kind<=7 then(if(e4 (dD v.trees) s).2≠0 then v else{v with trees:=jj v.trees (e4 (dD v.trees) s).1})
 else if s.kind<=10 then v
 else fG v s
def aM (l:Bs) (n:Nat) (m:Int):Int×Nat:=if l.length<=n\/m<1 then(0,n)else(((l[n]?).getD 0).toNat%m,n+1)
def p3:List Bs:=[[47,97],[47,98],[47,99],[47,97,47,98],[47,97,47,99],[47,98,47,97],[47,97,47,98,47,99],[47,100],[47,98,47,99,47,100],[47],[97],[47,97,47,47,98],[47,116,111,111,108,111,110,103],[47,126,49],[47,120,32,121]]
def fk (l:Bs) (n:Nat):Bs×Nat:=((p3[(aM l n 15).1.toNat]?).getD [],(aM l n 15).2)
def nO:List Nat:=[0,1,3,17,40,41,60,121]
def tG (k:Nat) (c:Int):Bs:=(List.range k).map (fun i=>bM (97+c)+bM ((i%3:Nat):Int))
def kS (l:Bs) (n:Nat):Bs×Nat:=
 let a:=aM l n 8
 let b:=aM l a.2 26
 (tG ((nO[a.1.toNat]?).getD 0) b.1,b.2)
def nP:List Int:=[1,1,1,2,3,4,4,5,5,6,7,1]
def oS:List Int:=[0,0,1,39,40,100,120,130]
def p4:List Int:=[0,1,40,41,120,121,3,80]
def gG (l:Bs) (kind:Int) (path:Bs) (n:Nat):eC×Nat:=
 if kind=1 then
  if(aM l (aM l n 2).2 12).1=0 then(⟨kind,0,0,(aM l (aM l (aM l n 2).2 12).2 4).1,0,path,[],[]⟩,(aM l (aM l (aM l n 2).2 12).2 4).2)
  else(⟨kind,0,0,1+(aM l n 2).1,0,path,[],[]⟩,(aM l (aM l n 2).2 12).2)
 else if kind=2\/kind=4 then(⟨kind,0,0,0,0,path,(fk l n).1,[]⟩,(fk l n).2)
 else if kind=5 then(⟨kind,0,0,0,(oS[(aM l n 8).1.toNat]?).getD 0,path,[],(kS l (aM l n 8).2).1⟩,(kS l (aM l n 8).2).2)
 else if kind=6 then(⟨kind,0,0,0,(p4[(aM l n 8).1.toNat]?).getD 0,path,[],[]⟩,(aM l n 8).2)
 else if kind=7 then(⟨kind,0,0,(aM l n 256).1,0,path,[],[]⟩,(aM l n 256).2)
 else(⟨kind,0,0,0,0,path,[],[]⟩,n)
def mM (l:Bs) (n:Nat):eC×Nat:=gG l ((nP[(aM l n 12).1.toNat]?).getD 0) (fk l (aM l n 12).2).1 (fk l (aM l n 12).2).2
def stepOf (kind id:Int) (path:Bs):eC:=⟨kind,0,id,0,0,path,[],[]⟩
def nQ:List Int:=[13,14]
def mN:List Int:=[8,9,10]
def iB (l:Bs) (k:Int) (n:Nat):eC×Nat:=
 if k<12 then mM l n
 else if k<15 then(stepOf 11 0 [],n)
 else if k<17 then(stepOf 12 0 [],n)
 else if k=17 then(stepOf ((nQ[(aM l n 2).1.toNat]?).getD 0) (1+(aM l (aM l n 2).2 4).1) [],(aM l (aM l n 2).2 4).2)
 else if k=18 then(stepOf 15 0 [],n)
 else(stepOf ((mN[(aM l n 3).1.toNat]?).getD 0) (aM l (fk l (aM l n 3).2).2 3).1 (fk l (aM l n 3).2).1,(aM l (fk l (aM l n 3).2).2 3).2)
def lU (l:Bs) (n:Nat):eC×Nat:=iB l (aM l n 20).1 (aM l n 20).2
def kT (l:Bs):Nat->Nat->aV->aV
 |0,_,v=>v
 |k+1,n,v=>if l.length<=n then v else kT l k (lU l n).2 (eP v (lU l n).1)
end Go.Ev
set_option maxHeartbeats 2000000
namespace Go.Ev
variable{F:Nat->Option aP} {O:Fz}
theorem La (a b:Int):mm true (.j a) (.j b)=some (.j (max a b)):=by
 have hk:cr .i64 .i64=true:=rfl;simp only[mm,hk,aE,vx];by_cases h:a<b
 ·rw[decide_eq_true h,aE,Int.max_eq_right (by omega)]
 ·rw[decide_eq_false h,bw,Int.max_eq_left (by omega)]
theorem Lb {a m B:Int} (hm:0<m) (h0:-B<=a) (o:a<=B):-B<=a.tdiv m/\a.tdiv m<=B:=by
 have aj:(a.tdiv m).natAbs<=a.natAbs:=by rw[Int.natAbs_tdiv];exact Nat.div_le_self _ _
 omega
theorem Lc {q:cy} {a m:Int} (hm:0<m) (h0:-9223372036854775807<=a) (o:a<=9223372036854775807):b0 .quo q (.j a) (.j m)=some (.j (a.tdiv m)):=by
 show(bif cr .i64 .i64 then(bif gh m 0 then none else some (V.j (ek .i64 (a.tdiv m))))else none)=_;have aj:gh m 0=false:=by rw[h3];simp;omega
 have d:=Lb hm h0 o;rw[show cr .i64 .i64=true from rfl,aj,aE,bw,qT (by omega) (by omega)]
theorem Ld {s:Bs} {x:aT} (h:er s=some x):0<=x.gen/\x.gen<4294967296:=by
 unfold er at h;split at h
 ·split at h
  ·cases h;exact⟨vG _,zg _ (by rw[cE];omega)⟩
  ·cases h
 ·cases h
theorem Lf {d:au} {a g:Int} {x:aT} (h:bP d a g=some x):0<=x.gen/\x.gen<4294967296:=by
 unfold bP at h;split at h
 ·split at h
  ·cases h
  ·rename_i o y aj;split at h
   ·cases h
   ·cases h;exact Ld aj
 ·cases h
theorem wM {p:ah} (h:dI p=true):0<=p.gen/\p.gen<4294967296:=by
 unfold dI e1 at h;simp only[be,aR]at h;omega
theorem Lg {d:au} {sum:Int} {s:jh} (h:look d sum=some s):∀p∈s.all,0<=p.gen/\p.gen<4294967296:=by
 unfold look at h;split at h
 ·cases h
 ·split at h
  ·cases h
  ·rename_i x hx n i p hp;refine wk (P:=fun p=>0<=p.gen/\p.gen<4294967296) (fun p h=>wM h) h fun q hq=>?_;rcases bS.1 hq with rfl|hq
   ·exact Lf (by assumption)
   ·exact wM (eU.1 (Aq hp) q hq)
theorem Lh {d:au} {sum:Int} {l:List ah} (h:blocks d sum=some l):∀p∈l,0<=p.gen/\p.gen<4294967296:=by
 unfold blocks at h;obtain⟨s,o,aj⟩:=jR.1 h;subst aj;exact fun p hp=>Lg o p (wm hp)
theorem wN {s:Int}:∀(l:List ah) (a:Int×Int) (k:Nat),(∀p∈l,0<=p.gen/\p.gen<4294967296)->0<=a.1/\a.1<=k/\0<=a.2/\a.2<4294967296->0<=(l.foldl (jn s) a).1/\(l.foldl (jn s) a).1<=((k+l.length:Nat):Int)/\0<=(l.foldl (jn s) a).2/\(l.foldl (jn s) a).2<4294967296
 |[],a,k,_,h=>h
 |p::l,a,k,hp,h=>by
  have d:=hp p dc;have:=wN (s:=s) l (jn s a p) (k+1) (fun q hq=>hp q (cR _ hq)) (by
   unfold jn;split
   ·simp only;refine⟨by omega,by omega,by omega,by omega⟩
   ·omega)
  rw[gK,b7];omega
theorem Li {a b A B:Int} (o:-A<=a) (aj:a<=A) (D:-B<=b) (F:b<=B):-(A*B)<=a*b/\a*b<=A*B:=by
 have d:a.natAbs<=A.toNat:=by omega
 have h:b.natAbs<=B.toNat:=by omega
 have j:=nW d h;rw[<-Int.natAbs_mul]at j;have G:((A.toNat*B.toNat:Nat):Int)=A*B:=by rw[Int.natCast_mul,Int.toNat_of_nonneg (by omega),Int.toNat_of_nonneg (by omega)]
 omega
theorem Lj [Fx F] {cs:List V} {v:aV} (hv:bR O cs v) (M:VB v):
 bm F 230 [.agg cs] O (.aN [.j ((mL v).getD 0),.bool (mL v).isSome]):=by
 obtain⟨an,wv,au,rfl,hl,hw,ht,sl,a6,st,hd⟩:=hv.open;obtain⟨L,hL⟩:∃L,L=(blocks v.d v.sum).getD []:=⟨_,rfl⟩
 have aj:∀p∈L,p.addr<=9223372036854775807/\0<=p.gen/\p.gen<4294967296:=by
  intro p hp;have aT:=M.jk;cases I:blocks v.d v.sum with
  |none=>rw[hL,I]at hp;cases hp
  |some l=>
   rw[hL,I]at hp;have aO:=Lh I p hp;rcases wo I p hp with h|h
   ·unfold dI at h;simp only[be,aR]at h;omega
   ·omega
 have aL:L.length<=2360:=by
  cases I:blocks v.d v.sum with
  |none=>rw[hL,I];simp
  |some l=>rw[hL,I];exact rj I
 have aM:bK v.d<=1000000:=by have:=M.last;unfold bK;omega
 have aQ:=M.jM;have aS:=M.seq1;refine ai.al (ar ?_);refine S.box fun W=>?_;refine S.ag 0 ?_;refine S.ld 0 ?_;refine S.call (tr hd (by have:=M.wait;omega)) fun v20 av aH aE aB=>?_;obtain⟨rfl,ap,rfl,hp⟩:=aB;rw[<-hL]at hp;have hd:=hd.mono aE;refine S.ag 0 ?_;refine S.al (Av hd M.last) ?_;refine SW.bF (fun m E ψ R=>∃(s:Nat) (b:Option (Int×Int)),s+m=bK v.d/\nN v L m (s:Int) b=nN v L (bK v.d) 0 none/\av=ψ/\R=[(some W,.cells [an,wv,.j v.d.arm,.bool v.d.down,.j v.seq,.j v.sum,.j v.aJ,.j v.pos,.j v.n,.j v.next,.j v.id,au] false)]/\Sub [(1,.ptr W 0),(4,ap),(6,.j ((bK v.d:Nat):Int)),(7,.j ((b.map (·.1)).getD 0)),(8,.j ((b.map (·.2)).getD 0)),(9,.bool b.isSome),(10,.j (s:Int))] E) (m:=bK v.d) (.done ⟨0,none,by omega,rfl,rfl,rfl,.r rfl⟩) ?_;intro am E ψ R aD ah;obtain⟨s,b,aU,o,rfl,rfl,ac⟩:=ah;refine C.sub ac ?_;refine S.bin ?_;refine C.D (fun OT=>?_) fun OT=>?_
 ·obtain⟨k,rfl⟩:∃k,am=k+1:=⟨am-1,by omega⟩
  simp only[nN]at o;refine SW.bF (fun m E ψ R=>∃(j:Nat) (u:Int×Int),j+m=L.length/\u=(L.take j).foldl (jn (s:Int)) (0,0)/\av=ψ/\R=[(some W,.cells [an,wv,.j v.d.arm,.bool v.d.down,.j v.seq,.j v.sum,.j v.aJ,.j v.pos,.j v.n,.j v.next,.j v.id,au] false)]/\Sub [(1,.ptr W 0),(4,ap),(6,.j ((bK v.d:Nat):Int)),(7,.j ((b.map (·.1)).getD 0)),(8,.j ((b.map (·.2)).getD 0)),(9,.bool b.isSome),(10,.j (s:Int)),(11,.j u.1),(12,.j u.2),(13,.j (j:Int))] E) (m:=L.length) (.done ⟨0,(0,0),by omega,rfl,rfl,rfl,.r rfl⟩) ?_;intro ao E ψ R aD ah;obtain⟨j,u,aP,hu,rfl,rfl,ac⟩:=ah;refine C.sub ac ?_;refine S.len ?_ (hl:=aa.len hp);refine S.bin ?_;refine C.D (fun aw=>?_) fun aw=>?_
  ·have hj:j<L.length:=by omega
   have ak:=wN (s:=(s:Int)) (L.take j) (0,0) 0 (fun p hp=>(aj p (List.mem_of_mem_take hp)).2) (by simp);rw[<-hu,cE]at ak;have aC:=aj _ (cw hj);have U:=nK (jn (s:Int)) (0,0) L j hj;rw[<-hu]at U;refine S.aF hp hj fun aW az=>?_;refine S.bl az fun aX aI=>?_;refine S.a1 ?_;refine S.al (Aw aC.1) ?_;refine S.bin ?_;refine C.D (fun Y=>?_) fun Y=>?_
   ·have e:jn (s:Int) u L[j]=(u.1+1,max u.2 L[j].gen):=by unfold jn;rw[ae Y]
    rw[e]at U;refine S.bin ?_;refine S.aF hp hj fun aZ aA=>?_;refine S.bl aA fun a2 aK=>?_;refine S.a1 ?_;refine S.kH (La _ _) ?_;refine S.th ?_;refine S.bin ?_;exact⟨ao-1,by omega,.done ⟨j+1,_,by omega,U.symm,rfl,rfl,.r rfl⟩⟩
   ·have e:jn (s:Int) u L[j]=u:=by unfold jn;rw[ab Y]
    rw[e]at U;refine S.bin ?_;exact⟨ao-1,by omega,.done ⟨j+1,_,by omega,U.symm,rfl,rfl,.r rfl⟩⟩
  ·obtain rfl:j=L.length:=by omega
   rw[dT]at hu;have ak:=wN (s:=(s:Int)) L (0,0) 0 (fun p hp=>(aj p hp).2) (by simp);rw[<-hu]at ak;simp only[wL]at o;rw[<-hu]at o;refine S.ld 0 ?_;refine S.bin ?_;refine G.mv ?_;refine G.bin ?_;refine G.or ?_;refine C.B (fun Z=>?_) fun Z=>?_
   ·rw[ae (by simpa using Z)]at o;refine S.bin ?_;exact⟨k,by omega,.done ⟨s+1,b,by omega,o,rfl,rfl,.r rfl⟩⟩
   ·rw[ab (by simpa using Z)]at o;refine S.bin ?_;refine S.ld 0 ?_;refine S.bin ?_;refine S.bin ?_;have hmul:=Li (a:=64-u.1) (b:=v.seq+1-u.2) (A:=2400) (B:=10737418240) (by omega) (by omega) (by omega) (by omega);refine S.bin ?_ (v:=.j ((64-u.1)*(v.seq+1-u.2))) (hv:=sR (by omega) (by omega));refine S.bin ?_;refine S.bin ?_ (v:=.j (p1 v u)) (hv:=Lc (by omega) (by omega) (by omega));refine S.un ?_;refine G.mv ?_;refine G.mv ?_;refine G.bin ?_;refine G.or ?_;refine C.B (fun Q=>?_) fun Q=>?_
    ·have e:p2 b (s:Int) (p1 v u)=some ((s:Int),p1 v u):=by
      cases b with
      |none=>rfl
      |some x=>simp at Q;unfold p2;simp only;rw[ae Q]
     rw[e]at o;refine S.bin ?_;exact⟨k,by omega,.done ⟨s+1,some ((s:Int),p1 v u),by omega,o,rfl,rfl,.r rfl⟩⟩
    ·have e:p2 b (s:Int) (p1 v u)=b:=by
      cases b with
      |none=>simp at Q
      |some x=>simp at Q;unfold p2;simp only;rw[ab (by omega)]
     rw[e]at o;refine S.bin ?_;exact⟨k,by omega,.done ⟨s+1,b,by omega,o,rfl,rfl,.r rfl⟩⟩
 ·obtain rfl:am=0:=by omega
  simp only[nN]at o;have e:mL v=b.map (·.1):=by unfold mL;rw[<-hL,<-o]
  have ay:(mL v).isSome=b.isSome:=by rw[e];cases b<;>rfl
  rw[ay,e];refine⟨_,.t rfl (.t rfl .nil),.done ?_⟩;rfl
set_option maxHeartbeats 2000000
theorem A4 {v:aV} {l:List ah}:∀(k:Nat) (s:Int) (b:Option (Int×Int)) (B:Int),0<=s->s+k<=B->(∀x,b=some x->0<=x.1/\x.1<B)->∀x,nN v l k s b=some x->0<=x.1/\x.1<B
 |0,s,b,B,_,_,h,x,hx=>h x hx
 |k+1,s,b,B,h0,o,h,x,hx=>by
  simp only[nN]at hx;refine A4 k (s+1) _ B (by omega) (by omega) (fun y d=>?_) x hx;unfold wL at d;split at d
  ·exact h y d
  ·unfold p2 at d;split at d
   ·cases d;exact⟨h0,by show s<B;omega⟩
   ·split at d
    ·cases d;exact⟨h0,by show s<B;omega⟩
    ·cases d;exact h _ rfl
theorem Lk {v:aV} {s:Int} (h:mL v=some s):0<=s/\s<(bK v.d:Nat):=by
 unfold mL at h;obtain⟨x,o,aj⟩:=jR.1 h;subst aj;exact A4 _ _ _ _ (ej 0) (by omega) (fun x hx=>by cases hx) x o
theorem Ll [Fx F] {cs:List V} {v:aV} (hv:bR O cs v) (M:VB v):
 ai F 193 [.agg cs] O [] (fun r ψ R=>R=[]/\∃cs',r=.aN [.agg cs',.j (jN v).2.1,.j (jN v).2.2]/\bR ψ cs' (jN v).1) never:=by
 obtain⟨Z,wv,U,rfl,hl,hw,ht,sl,aE,st,hd⟩:=hv.open;obtain⟨X,o⟩:∃X,X=mL v:=⟨_,rfl⟩
 refine ar ?_;refine S.box fun au=>?_;refine S.alloc fun av=>?_;refine S.ag 1 ?_;refine S.al (Lj hv M) ?_;rw[<-o];refine S.un ?_;refine C.B (fun OX=>?_) fun OX=>?_
 ·have e:jN v=(v,0,2):=by
   unfold jN;rw[<-o];cases X with
   |none=>rfl
   |some z=>simp at OX
  rw[e];refine S.ag 1 ?_;refine S.store 0 ?_;exact⟨_,.cN 0 rfl rfl rfl rfl (.t rfl (.t rfl .nil)),.none ⟨rfl,_,rfl,Z,wv,U,rfl,hl,hw,ht⟩⟩
 ·obtain⟨s,rfl⟩:∃z,X=some z:=eS.1 (by simpa using OX);obtain⟨ao,aD⟩:=Lk o.symm;have az:bK v.d<=1000000:=by have:=M.last;unfold bK;omega
  have aB:=rp (s:=s) ao (by omega);obtain⟨Y,W⟩:∃Y,Y=cq v (bB s) (bB s+64):=⟨_,rfl⟩
  have h:jN v=(if Y.2=11 then({v with d:=Y.1.d},0,11)else if Y.2≠0 then(v,0,Y.2)else(Y.1,s,0)):=by unfold jN;rw[<-o,W]
  refine S.ag 1 ?_;refine S.alloc fun aw=>?_;refine S.al (oR (s:=s) (by omega)) ?_;refine S.gZ 0 ?_;refine S.dg 2 ?_ (hs:=tD hl hw ht);refine S.al (oR (s:=s) (by omega)) ?_;refine S.gZ 0 ?_;refine S.dg 2 ?_ (hs:=tD hl hw ht);refine S.bin ?_;refine S.call (wG (lo:=bB s) (hi:=bB s+64) hv M) fun aF aH ap A ak=>?_;obtain⟨rfl,ay,rfl,Q⟩:=ak;rw[<-W]at Q⊢;have hl:=hl.mono A;have hw:=hw.mono A;have ht:=ht.mono A;have hd:=hd.mono A;obtain⟨G,I,ty,rfl,am,an,aC,ac,aj,ah,aA⟩:=Q.open;refine S.gZ 0 ?_;refine S.store (v:=.agg (bf G I ty Y.1)) 0 ?_ (hs:=cp ac aj ah);refine S.bin ?_;refine C.D (fun OT=>?_) fun OT=>?_
  ·rw[ae OT]at h;rw[h,OT];refine S.ag 0 ?_;refine S.store (v:=.agg [G,I,.j Y.1.d.arm,.bool Y.1.d.down]) 2 ?_;refine S.ag 2 ?_;refine S.store 1 ?_;exact⟨_,.cN 1 rfl rfl rfl rfl (.t rfl (.t rfl .nil)),.none ⟨rfl,_,rfl,G,I,U,rfl,am,an,ht⟩⟩
  ·rw[ab OT]at h;refine S.bin ?_;refine C.B (fun L=>?_) fun L=>?_
   ·rw[ae (by simpa using L)]at h;rw[h];refine S.ag 2 ?_;refine S.store 1 ?_;exact⟨_,.cN 1 rfl rfl rfl rfl (.t rfl (.t rfl .nil)),.none ⟨rfl,_,rfl,Z,wv,U,rfl,hl,hw,ht⟩⟩
   ·rw[ab (by simpa using L)]at h;rw[h];refine S.ag 0 ?_;refine S.store (v:=.agg (bf G I ty Y.1)) 1 ?_ (hs:=cp ac aj ah);exact⟨_,.cN 1 rfl rfl rfl rfl (.t rfl (.t rfl .nil)),.none ⟨rfl,_,rfl,Q⟩⟩
set_option maxHeartbeats 2000000
theorem Oc (a:cK):b0 .neq (.agg [(0,.i),(1,.i),(2,.i),(3,.i),(4,.i)]) (.agg (df.f a)) (.agg (df.f a))=some (.bool false):=by
 have hk:cr .i64 .i64=true:=rfl;show(ku [V.j a.kind,.j a.id,.j a.cZ,.j a.base,.j a.done] [V.j a.kind,.j a.id,.j a.cZ,.j a.base,.j a.done] [(0,.i),(1,.i),(2,.i),(3,.i),(4,.i)]).map (fun b=>V.bool (!b))=_;have n0:∀(a b c d e:V),nth [a,b,c,d,e] 0=some a:=fun _ _ _ _ _=>rfl;have n1:∀(a b c d e:V),nth [a,b,c,d,e] 1=some b:=fun _ _ _ _ _=>rfl;have h:∀(a b c d e:V),nth [a,b,c,d,e] 2=some c:=fun _ _ _ _ _=>rfl;have o:∀(a b c d e:V),nth [a,b,c,d,e] 3=some d:=fun _ _ _ _ _=>rfl;have A:∀(a b c d e:V),nth [a,b,c,d,e] 4=some e:=fun _ _ _ _ _=>rfl;simp[ku,n0,n1,h,o,A,en,hk,h3]
theorem Q2 [Fx F] {cs ds:List V} {a b:jh} (ha:mI O cs a) (aO:mI O ds b) (aS:a.next=b.next) (aP:a.id=b.id) (ht:a.trees=b.trees) (hlen:a.trees.length<=1000000) (az:∀x∈a.trees,x.an.length<=1000000/\x.tree.length<=1000000):
 bm F 49 [.agg cs,.agg ds] O (.bool true):=by
 obtain⟨v2,v3,v4,v5,aA,bh,aZ,a2,rfl,k2,L,Z,M,ab,Q,ac,aT⟩:=ha;obtain⟨aB,aC,aE,aH,aI,bg,aW,aX,rfl,d,ae,o,ag,A,ah,I,q6⟩:=aO;have:=k2.ax;have:=L.ax;have:=M.ax;have:=Q.ax;have:=aT.ax;have:=d.ax;have:=ae.ax;have:=ag.ax;have:=ah.ax;have:=q6.ax;obtain⟨T,aM⟩:∃T,T=a.trees:=⟨_,rfl⟩
 rw[<-ht]at d o A I;rw[<-aM]at k2 Z ab ac d o A I hlen az;have z3:=Z.1;have z4:=ab.1;have z5:=ac.1;have aJ:=o.1;have aK:=A.1;have aL:=I.1;rw[hS]at z3 z4 z5 aJ aK aL;refine ai.al (ar ?_);refine S.box fun h=>?_;refine S.box fun a3=>?_;refine S.ld 1 ?_;refine S.ld 0 ?_;refine S.bin ?_;refine G.aD ?_;refine G.ld 1 ?_;refine G.aD ?_;refine G.ld 0 ?_;refine G.bin ?_;refine G.or ?_;refine G.aD ?_;refine G.ld 1 ?_;refine G.len ?_ (hl:=aa.len k2);refine G.aD ?_;refine G.ld 0 ?_;refine G.len ?_ (hl:=aa.len d);refine G.bin ?_;refine G.or ?_;refine G.aD ?_;refine G.ld 1 ?_;refine G.len ?_ (hl:=aa.len L);refine G.aD ?_;refine G.ld 0 ?_;refine G.len ?_ (hl:=aa.len ae);refine G.bin ?_;refine G.or ?_;refine G.aD ?_;refine G.ld 1 ?_;refine G.len ?_ (hl:=aa.len M);refine G.aD ?_;refine G.ld 0 ?_;refine G.len ?_ (hl:=aa.len ag);refine G.bin ?_;refine G.or ?_;refine G.aD ?_;refine G.ld 1 ?_;refine G.len ?_ (hl:=aa.len Q);refine G.aD ?_;refine G.ld 0 ?_;refine G.len ?_ (hl:=aa.len ah);refine G.bin ?_;refine G.or ?_;refine C.B (fun ak=>?_) fun ak=>?_
 ·exfalso;simp[aS,aP,z3,z4,z5,aJ,aK,aL]at ak
 ·refine SW.bF (fun m E ψ R=>∃j:Nat,j+m=T.length/\O=ψ/\R=[(some a3,.cells [.j b.next,.j b.id,aB,aC,aE,aH,aI] false),(some h,.cells [.j a.next,.j a.id,v2,v3,v4,v5,aA] false)]/\Sub [(2,.ptr h 0),(3,.ptr a3 0),(5,.j (j:Int))] E) (m:=T.length) (.done ⟨0,by omega,rfl,rfl,.r rfl⟩) ?_;intro aU E ψ R aR Y;obtain⟨j,aQ,rfl,rfl,W⟩:=Y;refine C.sub W ?_;refine S.ld 1 ?_;refine S.len ?_ (hl:=aa.len k2);refine S.bin ?_;refine C.D (fun am=>?_) fun am=>?_
  ·rw[hS]at am;have hj:j<T.length:=by omega
   refine S.ld 1 ?_;refine S.aF k2 (j:=j) (by rw[hS];omega) fun bp bc=>?_;refine S.bJ ?_;refine S.ld 0 ?_;refine S.aF d (j:=j) (by rw[hS];omega) fun br bd=>?_;refine S.bJ ?_;refine S.bin ?_ (v:=.bool false) (hv:=Oc _);refine C.B (fun ao=>?_) fun ao=>?_
   ·exfalso;cases ao
   ·refine S.bin ?_;exact⟨aU-1,by omega,.done ⟨j+1,by omega,rfl,rfl,.r rfl⟩⟩
  ·refine SW.bF (fun m E ψ R=>∃j:Nat,j+m=T.length/\O=ψ/\R=[(some a3,.cells [.j b.next,.j b.id,aB,aC,aE,aH,aI] false),(some h,.cells [.j a.next,.j a.id,v2,v3,v4,v5,aA] false)]/\Sub [(2,.ptr h 0),(3,.ptr a3 0),(6,.j (j:Int))] E) (m:=T.length) (.done ⟨0,by omega,rfl,rfl,.r rfl⟩) ?_;intro aV E ψ R aR Y;obtain⟨j,aQ,rfl,rfl,W⟩:=Y;refine C.sub W ?_;refine S.ld 1 ?_;refine S.len ?_ (hl:=aa.len L);refine S.bin ?_;refine G.mv ?_;refine G.aD ?_;refine G.ld 1 ?_;refine G.len ?_ (hl:=aa.len M);refine G.bin ?_;refine G.and ?_;refine G.mv ?_;refine G.aD ?_;refine G.ld 1 ?_;refine G.len ?_ (hl:=aa.len Q);refine G.bin ?_;refine G.and ?_;refine C.B (fun U=>?_) fun U=>?_
   ·rw[z3,z4,z5]at U;have hj:j<T.length:=by simp at U;omega
    have ap:=Z.at (i:=j) (by omega) (by rw[hS];omega);have f4:=ab.at (i:=j) (by omega) (by rw[hS];omega);have au:=ac.at (i:=j) (by omega) (by rw[hS];omega);have av:=o.at (i:=j) (by omega) (by rw[hS];omega);have aw:=A.at (i:=j) (by omega) (by rw[hS];omega);have ay:=I.at (i:=j) (by omega) (by rw[hS];omega);simp only[nU]at ap f4 au av aw ay;obtain⟨bt,bv⟩:=az T[j] (cw hj);refine S.ld 1 ?_;refine S.aF L (j:=j) (by omega) fun bs be=>?_;refine S.a1 ?_;refine S.ld 0 ?_;refine S.aF ae (j:=j) (by omega) fun bi a6=>?_;refine S.a1 ?_;refine S.al (Kw ap av (by rw[hS];omega)) ?_;refine S.un ?_;refine G.aD ?_;refine G.ld 1 ?_;refine G.mv ?_;refine G.aF M (j:=j) (z:=aZ[j]) (fun bk a7=>?_) (hj:=fun _=>bj (by omega));refine G.a1 ?_;refine G.aD ?_;refine G.ld 0 ?_;refine G.mv ?_;refine G.aF ag (j:=j) (z:=aW[j]) (fun bl a8=>?_) (hj:=fun _=>bj (by omega));refine G.a1 ?_;refine G.al (fun _=>Kx f4 aw (by rw[hS];omega)) ?_;refine G.un ?_;refine G.or ?_;refine G.aD ?_;refine G.ld 1 ?_;refine G.mv ?_;refine G.aF Q (j:=j) (z:=a2[j]) (fun bn ba=>?_) (hj:=fun _=>bj (by omega));refine G.a1 ?_;refine G.aD ?_;refine G.ld 0 ?_;refine G.mv ?_;refine G.aF ah (j:=j) (z:=aX[j]) (fun bo bb=>?_) (hj:=fun _=>bj (by omega));refine G.a1 ?_;refine G.al (fun _=>Qd au ay (by omega)) ?_;refine G.un ?_;refine G.or ?_;refine C.B (fun aj=>?_) fun aj=>?_
    ·exfalso;simp at aj
    ·refine S.bin ?_;exact⟨aV-1,by omega,.done ⟨j+1,by omega,rfl,rfl,.r rfl⟩⟩
   ·refine⟨_,.t rfl .nil,.done ?_⟩;rfl
set_option maxHeartbeats 1000000
theorem ai.forget {n:Nat} {args:List V} {P:V->Prop} (hc:ai F n args O [] (fun r _ _=>P r) never):ai F n args O [] (fun r ψ R=>ψ=O/\R=[]/\P r) never:=fun ad h sh=>by
 rcases hc ad h sh with⟨r,h',o,ψ,d,aj,A,B⟩|⟨_,_,_,_,_,_,_,h⟩
 ·refine .inl ⟨r,h',o,O,[],.refl O,?_,rfl,rfl,B⟩;have:=A.less aj;refine this.pick (fun j=>d.length+j) (fun i I hi=>?_) (fun _ _ _ _ e=>by omega);rw[db (by omega),mV];exact hi
 ·exact h.elim
abbrev kU (s:eC) (d:V):List V:=[.j s.kind,.j s.v,.j s.id,.j s.mode,.j s.off,.str s.path,.str s.dst,.str s.text,d]
structure rA (s:eC):Prop where
 path:s.path.length<=1000
 dst:s.dst.length<=1000
 text:s.text.length<=1000
 off:s.off<=1000000
def p5 (O:Fz) (l:List V):Prop:=∃(e:Int) (tx:Bs) (a b c d f:Int) (h:V) (L:List aX) (n:Int),l=[.j e,.str tx,.j a,.j b,.j c,.j d,.j f,h,.j n]/\aa cC O h L
theorem p5.plain {O:Fz} (e n:Int):p5 O [.j e,.str [],.j 0,.j 0,.j 0,.j 0,.j 0,.no .sl,.j n]:=⟨e,[],0,0,0,0,0,_,[],n,rfl,aa.nil _⟩
structure VG (v:aV):Prop where
 b:VB v
 may:∀h∈v.trees,bH h.t=true
 A5:v.trees.length<=900000
 rB:0<=v.id
 rC:v.id<=1000000
 oT:0<=v.next
theorem wO {t:ao} (j:bI t) (d:Int) (e:aX):bI (fg t d e).1:=by
 unfold fg;split
 ·exact j
 ·rename_i b h;exact oO j (by have:=zJ h;show b.length<=_;omega)
theorem wP:bH nG=true:=by decide+kernel
theorem VG.head {v:aV} (h:VG v):bH (dD v.trees)=true:=wI (P:=fun t=>bH t=true) wP h.may
theorem Lm:ef.body.length<=100000:=by decide
theorem A6 (s:Bs) (n:Nat):(jc s n).length=n:=by unfold jc;simp only[c2,cE,k0];omega
theorem Ln {t:ao} (d:bI t) (p:Bs) (k m i:Int) (I:Bool):bI (gB t p k m i I).1:=by
 unfold gB
 repeat' (first|split|exact d)
 all_goals (try simp only)
 all_goals repeat' (first|split|exact d)
 all_goals exact oO (wO d _ _) (by show 0<=100000;omega)
theorem Lo {t:ao} (d:bI t) (p q:Bs) (I:Bool):bI (fY t p q I).1:=by
 unfold fY
 repeat' (first|split|exact d)
 all_goals exact wO d _ _
theorem Lp {t:ao} (d:bI t) (p:Bs) (I:Bool):bI (jd t p I).1:=by
 unfold jd;simp only
 repeat' (first|split|exact d)
 ·exact oO (q3 d _ _) Lm
 ·exact q3 d _ _
theorem Lq {t:ao} (d:bI t) (f:Nat) (p q:Bs) (I:Bool) {x:ao×Int} (h:mG f t p q I=some x):bI x.1:=by
 unfold mG at h;simp only at h;split at h
 ·repeat' (split at h)
  all_goals first|(cases h;exact d)|(cases h;exact wO (q3 d _ _) _ _)|(cases h;done)
 ·cases h;exact d
theorem Lr {t:ao} (d:bI t) (p:Bs) (f:Int) (x:Bs) (I:Bool):bI (hP t p f x I).1:=by
 unfold hP;simp only
 repeat' (first|split|exact d)
 refine oO d ?_;have o:=vX d (bU t p I).1;show(oK _ _ _).length<=_;unfold oK;simp only[c2,cE,bW,A6];omega
theorem Ls {t:ao} (d:bI t) (p:Bs) (f:Int) (I:Bool):bI (je t p f I).1:=by
 unfold je;simp only
 repeat' (first|split|exact d)
 refine oO d ?_;show(jc _ _).length<=_;rw[A6];omega
theorem Lt {t:ao} (d:bI t) (p:Bs) (f:Int) (I:Bool):bI (j9 t p f I).1:=by
 unfold j9;simp only
 repeat' (first|split|exact d)
 exact oO d (vX d _)
theorem Lu {t:ao} (d:bI t) (s:eC):bI (e4 t s).1:=by
 unfold e4
 repeat' split
 ·exact Ln d _ _ _ _ _
 ·exact Lo d _ _ _
 ·exact Lp d _ _
 ·cases h:mG 82 t s.path s.dst false with
  |none=>exact d
  |some x=>exact Lq d _ _ _ _ h
 ·exact Lr d _ _ _ _
 ·exact Ls d _ _ _
 ·exact Lt d _ _ _
abbrev fH (h wv o:V) (v:aV) (lx wx tx:V) (x:aV) (w:Bs):List V:=[h,wv,.j v.d.arm,.bool v.d.down,.j v.seq,.j v.sum,.j v.aJ,.j v.pos,.j v.n,.j v.next,.j v.id,o,lx,wx,.j x.d.arm,.bool x.d.down,.j x.seq,.j x.sum,.j x.aJ,.j x.pos,.j x.n,.j x.next,.j x.id,tx,.str w]
theorem rD {d wv h lx wx tx:V} {v x:aV} {w:Bs} (o:isScalar d=true) (aj:isScalar wv=true) (j:isScalar h=true) (A:isScalar lx=true) (B:isScalar wx=true) (D:isScalar tx=true):aY (fH d wv h v lx wx tx x w)=true:=by simp[fH,aY,iV,jF,kI, *]
theorem A7 [Fx F] {d wv h lx wx tx:V} {v x:aV} {w:Bs} {e:Int} (o:isScalar d=true) (aj:isScalar wv=true) (A:isScalar h=true) (B:isScalar lx=true) (D:isScalar wx=true) (G:isScalar tx=true):
 bm F 124 [.agg (fH d wv h v lx wx tx x w),.j e] O (.aN [.agg (fH d wv h v lx wx tx x w),.agg [.j e,.str [],.j 0,.j 0,.j 0,.j 0,.j 0,.no .sl,.j 0]]):=by
 have I:=rD (v:=v) (x:=x) (w:=w) o aj A B D G;refine ai.al (ar ?_);refine S.box fun L=>?_;refine S.alloc fun a4=>?_;refine S.alloc fun a5=>?_;refine S.ag 2 ?_;refine S.build ?_;refine S.store (v:=.agg (fH d wv h v lx wx tx x w)) 1 ?_ (hs:=I);refine S.store 0 ?_;exact⟨_,.cN 1 rfl rfl rfl rfl (.cN 0 rfl rfl rfl rfl .nil),.none rfl⟩
theorem Lv [Fx F] {I G:V} {t:ao} {s:eC} (ht:aa aG O I t) (hm:bH t=true) (hs:rA s) (hk:isScalar G=true):
 ai F 125 [I,.agg (kU s G)] O [] (fun r ψ R=>R=[]/\∃v,r=.aN [v,.j (e4 t s).2]/\aa aG ψ v (e4 t s).1) never:=by
 have d:=ry hm;have hp:s.path.length<=100000:=by have:=hs.path;omega
 have D:s.dst.length<=100000:=by have:=hs.dst;omega
 have ac:s.text.length<=100000:=by have:=hs.text;omega
 refine ar ?_;refine S.box fun a3=>?_;refine S.ld 0 ?_;refine S.bin ?_;refine C.B (fun Pc=>?_) fun Pc=>?_
 ·have e:e4 t s=gB t s.path s.mode 6 0 false:=by
   unfold e4;rw[ae (by simpa using Pc)]
  rw[e];refine S.ld 0 ?_;refine S.ld 0 ?_;refine S.call (Kc (kind:=s.mode) (mode:=6) (ino:=0) (own:=false) ht d hp) fun aB aH ag ap L=>?_;obtain⟨u,rfl,hu,rfl⟩:=L;exact⟨_,.t rfl (.t rfl .nil),.none ⟨rfl,_,rfl,hu⟩⟩
 ·refine S.bin ?_;refine C.B (fun OY=>?_) fun OY=>?_
  ·have e:e4 t s=fY t s.path s.dst false:=by
    unfold e4;rw[ab (by simpa using Pc)];rw[ae (by simpa using OY)]
   rw[e];refine S.ld 0 ?_;refine S.ld 0 ?_;refine S.call (Kd (own:=false) ht d hp D) fun v25 aI ah au M=>?_;obtain⟨u,rfl,hu,rfl⟩:=M;exact⟨_,.t rfl (.t rfl .nil),.none ⟨rfl,_,rfl,hu⟩⟩
  ·refine S.bin ?_;refine C.B (fun OT=>?_) fun OT=>?_
   ·have e:e4 t s=jd t s.path false:=by
     unfold e4;rw[ab (by simpa using Pc)];rw[ab (by simpa using OY)];rw[ae (by simpa using OT)]
    rw[e];refine S.ld 0 ?_;refine S.call (Ke (own:=false) ht d hp AS) fun aC aJ aj av Q=>?_;obtain⟨u,rfl,hu,rfl⟩:=Q;exact⟨_,.t rfl (.t rfl .nil),.none ⟨rfl,_,rfl,hu⟩⟩
   ·refine S.bin ?_;refine C.B (fun h=>?_) fun h=>?_
    ·obtain⟨x,hx⟩:=K9 hm s.path s.dst false;have e:e4 t s=x:=by
      unfold e4;rw[ab (by simpa using Pc)];rw[ab (by simpa using OY)];rw[ab (by simpa using OT)];rw[ae (by simpa using h)];rw[hx];(try rfl)
     rw[e];refine S.ld 0 ?_;refine S.ld 0 ?_;refine S.call (Ki (own:=false) (f:=82) (x:=x) ht d hp D hx K4) fun aD aK ak aw U=>?_;obtain⟨u,rfl,hu,rfl⟩:=U;exact⟨_,.t rfl (.t rfl .nil),.none ⟨rfl,_,rfl,hu⟩⟩
    ·refine S.bin ?_;refine C.B (fun o=>?_) fun o=>?_
     ·have e:e4 t s=hP t s.path s.off s.text false:=by
       unfold e4;rw[ab (by simpa using Pc)];rw[ab (by simpa using OY)];rw[ab (by simpa using OT)];rw[ab (by simpa using h)];rw[ae (by simpa using o)]
      rw[e];refine S.ld 0 ?_;refine S.ld 0 ?_;refine S.ld 0 ?_;refine S.call (Kh (own:=false) ht d hp ac hs.off) fun v55 aL al ay W=>?_;obtain⟨u,rfl,hu,rfl⟩:=W;exact⟨_,.t rfl (.t rfl .nil),.none ⟨rfl,_,rfl,hu⟩⟩
     ·refine S.bin ?_;refine C.B (fun A=>?_) fun A=>?_
      ·have e:e4 t s=je t s.path s.off false:=by
        unfold e4;rw[ab (by simpa using Pc)];rw[ab (by simpa using OY)];rw[ab (by simpa using OT)];rw[ab (by simpa using h)];rw[ab (by simpa using o)];rw[ae (by simpa using A)]
       rw[e];refine S.ld 0 ?_;refine S.ld 0 ?_;refine S.call (Kf (own:=false) ht d hp) fun aE aM am az Y=>?_;obtain⟨u,rfl,hu,rfl⟩:=Y;exact⟨_,.t rfl (.t rfl .nil),.none ⟨rfl,_,rfl,hu⟩⟩
      ·have e:e4 t s=j9 t s.path s.mode false:=by
        unfold e4;rw[ab (by simpa using Pc)];rw[ab (by simpa using OY)];rw[ab (by simpa using OT)];rw[ab (by simpa using h)];rw[ab (by simpa using o)];rw[ab (by simpa using A)]
       rw[e];refine S.ld 0 ?_;refine S.ld 0 ?_;refine S.call (Kg (own:=false) ht d hp) fun aF aO an aA Z=>?_;obtain⟨u,rfl,hu,rfl⟩:=Z;exact⟨_,.t rfl (.t rfl .nil),.none ⟨rfl,_,rfl,hu⟩⟩
theorem Lw [Fx F] {o j:V} {t:ao} {s:eC} (ht:aa aG O o t) (h:bI t) (hs:rA s) (hk:isScalar j=true):
 ai F 126 [o,.agg (kU s j)] O [] (fun r ψ R=>R=[]/\∃l,r=.agg l/\p5 ψ l) never:=by
 have hp:s.path.length<=100000:=by have:=hs.path;omega
 refine ar ?_;refine S.box fun a3=>?_;refine S.alloc fun a4=>?_;refine S.alloc fun a5=>?_;refine S.ld 2 ?_;refine S.bin ?_;refine C.B (fun O1=>?_) fun O1=>?_
 ·refine S.ld 2 ?_;refine S.al (Kj (own:=false) ht h hp) ?_;refine S.store 0 ?_;refine S.store 0 ?_;refine S.ag 0 ?_;refine S.store 1 ?_;exact⟨_,.cN 1 rfl rfl rfl rfl .nil,.none ⟨rfl,_,rfl,_,_,_,_,_,_,_,_,[],_,rfl,aa.nil _⟩⟩
 ·refine S.bin ?_;refine C.B (fun OT=>?_) fun OT=>?_
  ·refine S.ld 2 ?_;refine S.call (ai.forget (Kk (own:=false) ht h hp)) fun Y ab I Q D=>?_;obtain⟨rfl,rfl,a,b,c,d,e,f,rfl⟩:=D;refine S.store 0 ?_;refine S.store 0 ?_;refine S.ag 0 ?_;refine S.store 1 ?_;exact⟨_,.cN 1 rfl rfl rfl rfl .nil,.none ⟨rfl,_,rfl,_,_,_,_,_,_,_,_,[],_,rfl,aa.nil _⟩⟩
  ·refine S.ld 2 ?_;refine S.call (Kl (own:=false) ht h hp) fun W Z G M A=>?_;obtain⟨u,L,e,rfl,hu,rfl⟩:=A;have U:=hu.ax;refine S.fB 0 ?_;refine S.store 0 ?_;refine S.ag 0 ?_;refine S.store 1 ?_;exact⟨_,.cN 1 rfl rfl rfl rfl .nil,.none ⟨rfl,_,rfl,_,_,_,_,_,_,_,_,L,_,rfl,hu⟩⟩
set_option maxHeartbeats 2000000
theorem oU:c7 (.no .sl) (.no .sl)=true:=rfl
theorem Lx [Fx F] {cs:List V} {v:aV} {s:eC} {am:V} (hv:bR O cs v) (G:VG v) (hk:isScalar am=true) (aK:11<=s.kind) (aL:s.kind<=15):
 ai F 132 [.agg cs,.agg (kU s am)] O [] (fun r ψ R=>R=[]/\∃cs' l,r=.aN [.agg cs',.agg l]/\bR ψ cs' (fG v s)/\p5 ψ l) never:=by
 obtain⟨aS,wv,aU,rfl,hl,hw,ht,sl,aT,st,hd⟩:=hv.open;refine ar ?_;refine S.box fun aC=>?_;refine S.box fun a3=>?_;refine S.alloc fun a4=>?_;refine S.alloc fun a5=>?_;refine S.alloc fun aD=>?_;refine S.ld 3 ?_;refine S.bin ?_;refine C.B (fun OX=>?_) fun OX=>?_
 ·refine S.ag 4 ?_;refine S.call (KV hv G.b) fun aW a2 aw aM an=>?_;obtain⟨rfl,aE,rfl,Z⟩:=an;have e:fG v s=(dK v v).1:=by unfold fG;rw[ae (by simpa using OX)]
  rw[e];obtain⟨Y,D⟩:∃Y,Y=(dK v v).1:=⟨_,rfl⟩
  rw[<-D]at Z⊢;obtain⟨d,A,ty,rfl,Q,W,U,h,o,j,M⟩:=Z.open;refine S.store (v:=.agg (bf d A ty Y)) 4 ?_ (hs:=cp h o j);refine S.store 0 ?_;refine S.ag 4 ?_;refine S.ag 0 ?_;refine S.store (v:=.agg (bf d A ty Y)) 2 ?_ (hs:=cp h o j);refine S.dg 0 ?_ (hs:=by simp[same,b9,e0,fx,oU]);refine S.store 1 ?_;exact⟨_,.cN 2 rfl rfl rfl rfl (.cN 1 rfl rfl rfl rfl .nil),.none ⟨rfl,_,_,rfl,Z,.plain _ _⟩⟩
 ·refine S.bin ?_;refine C.B (fun O5=>?_) fun O5=>?_
  ·refine S.ag 4 ?_;refine S.call (K1 hv G.b G.A5 G.rB G.rC G.oT) fun aX a6 ay aO ao=>?_;obtain⟨rfl,aF,rfl,ac⟩:=ao;have e:fG v s=(hR v).1:=by unfold fG;rw[ab (by simpa using OX)];rw[ae (by simpa using O5)]
   rw[e];obtain⟨Y,D⟩:∃Y,Y=(hR v).1:=⟨_,rfl⟩
   rw[<-D]at ac⊢;obtain⟨d,A,ty,rfl,Q,W,U,h,o,j,M⟩:=ac.open;refine S.store (v:=.agg (bf d A ty Y)) 4 ?_ (hs:=cp h o j);refine S.store 0 ?_;refine S.store 0 ?_;refine S.ag 4 ?_;refine S.ag 0 ?_;refine S.store (v:=.agg (bf d A ty Y)) 2 ?_ (hs:=cp h o j);refine S.dg 0 ?_ (hs:=by simp[same,b9,e0,fx,oU]);refine S.store 1 ?_;exact⟨_,.cN 2 rfl rfl rfl rfl (.cN 1 rfl rfl rfl rfl .nil),.none ⟨rfl,_,_,rfl,ac,.plain _ _⟩⟩
  ·refine S.bin ?_;refine C.B (fun I=>?_) fun I=>?_
   ·refine S.ag 4 ?_;refine S.ld 3 ?_;refine S.call (KW (id:=s.id) hv G.b) fun v39 a7 az aP ap=>?_;obtain⟨rfl,aH,rfl,ah⟩:=ap;have e:fG v s=(kf v s.id).1:=by unfold fG;rw[ab (by simpa using OX)];rw[ab (by simpa using O5)];rw[ae (by simpa using I)]
    rw[e];obtain⟨Y,D⟩:∃Y,Y=(kf v s.id).1:=⟨_,rfl⟩
    rw[<-D]at ah⊢;obtain⟨d,A,ty,rfl,Q,W,U,h,o,j,M⟩:=ah.open;refine S.store (v:=.agg (bf d A ty Y)) 4 ?_ (hs:=cp h o j);refine S.store 0 ?_;refine S.ag 4 ?_;refine S.ag 0 ?_;refine S.store (v:=.agg (bf d A ty Y)) 2 ?_ (hs:=cp h o j);refine S.dg 0 ?_ (hs:=by simp[same,b9,e0,fx,oU]);refine S.store 1 ?_;exact⟨_,.cN 2 rfl rfl rfl rfl (.cN 1 rfl rfl rfl rfl .nil),.none ⟨rfl,_,_,rfl,ah,.plain _ _⟩⟩
   ·refine S.bin ?_;refine C.B (fun L=>?_) fun L=>?_
    ·refine S.ag 4 ?_;refine S.ld 3 ?_;refine S.call (KY (id:=s.id) hv G.b) fun aZ a8 aA aQ au=>?_;obtain⟨rfl,aI,rfl,aj⟩:=au;have e:fG v s=(kg v s.id).1:=by unfold fG;rw[ab (by simpa using OX)];rw[ab (by simpa using O5)];rw[ab (by simpa using I)];rw[ae (by simpa using L)]
     rw[e];obtain⟨Y,D⟩:∃Y,Y=(kg v s.id).1:=⟨_,rfl⟩
     rw[<-D]at aj⊢;obtain⟨d,A,ty,rfl,Q,W,U,h,o,j,M⟩:=aj.open;refine S.store (v:=.agg (bf d A ty Y)) 4 ?_ (hs:=cp h o j);refine S.store 0 ?_;refine S.ag 4 ?_;refine S.ag 0 ?_;refine S.store (v:=.agg (bf d A ty Y)) 2 ?_ (hs:=cp h o j);refine S.dg 0 ?_ (hs:=by simp[same,b9,e0,fx,oU]);refine S.store 1 ?_;exact⟨_,.cN 2 rfl rfl rfl rfl (.cN 1 rfl rfl rfl rfl .nil),.none ⟨rfl,_,_,rfl,aj,.plain _ _⟩⟩
    ·refine S.bin ?_;refine C.B (fun al=>?_) fun al=>?_
     ·refine S.ag 4 ?_;refine S.call (Ll hv G.b) fun a1 ba aB aR av=>?_;obtain⟨rfl,aJ,rfl,ak⟩:=av;have e:fG v s=(jN v).1:=by unfold fG;rw[ab (by simpa using OX)];rw[ab (by simpa using O5)];rw[ab (by simpa using I)];rw[ab (by simpa using L)];
      rw[e];obtain⟨Y,D⟩:∃Y,Y=(jN v).1:=⟨_,rfl⟩
      rw[<-D]at ak⊢;obtain⟨d,A,ty,rfl,Q,W,U,h,o,j,M⟩:=ak.open;refine S.store (v:=.agg (bf d A ty Y)) 4 ?_ (hs:=cp h o j);refine S.store 0 ?_;refine S.store 0 ?_;refine S.ag 4 ?_;refine S.ag 0 ?_;refine S.store (v:=.agg (bf d A ty Y)) 2 ?_ (hs:=cp h o j);refine S.dg 0 ?_ (hs:=by simp[same,b9,e0,fx,oU]);refine S.store 1 ?_;exact⟨_,.cN 2 rfl rfl rfl rfl (.cN 1 rfl rfl rfl rfl .nil),.none ⟨rfl,_,_,rfl,ak,.plain _ _⟩⟩
     ·exfalso;simp at OX O5 I L al;omega
end Go.Ev
