/- A part of the proof of glacislaw13.LiveOnce. -/
import Derived.Test.YtebhegkangheiaaGreatDoorOL
set_option maxHeartbeats 1000000
namespace Go.Ev
variable{F:Nat->Option aP} {O:Fz}
def rJ (c:Prop):V->Fz->List Ob->Prop:=fun v _ _=>c/\v=.iface 169 (.agg [])
abbrev js (h wv:V) (d:au) (next id:Int) (A B D v9 o:V):List V:=[h,wv,.j d.arm,.bool d.down,.j next,.j id,A,B,D,v9,o]
theorem oZ [Fx F] {b:Bool}:ai F 135 [.bool b] O [] (fun _ ψ R=>ψ=O/\b=true/\R=[]) (rJ (b=false)):=by
 refine ar ?_;refine S.un ?_;refine C.B (fun Pm=>?_) fun Pm=>?_
 ·refine S.build ?_ (l:=[]);refine S.vt ?_;refine S.panic ?_;exact⟨by simpa using Pm,rfl⟩
 ·exact⟨_,.nil,.done ⟨rfl,by simpa using Pm,rfl⟩⟩
theorem tT [Fx F] (hr:F 215=some (.cA gR)) {L wv ac ak am v9 Z:V} {d:au} {Y id:Int} {a:Pa} {s:Option Pa} {A:List ah} {bV ge:Int} (hd:cu O [L,wv,.j d.arm,.bool d.down] d) (av:d.wait.length<=1000000) (ho:af aq Z A s) (aF:A.length<=100000):
 ai F 134 [.ptr a 0,.agg [.j bV,.j ge]] O [(some a,.cells (js L wv d Y id ac ak am v9 Z) false),aq.ob s A] (fun r ψ R=>∃x w s',bP d bV ge=some x/\r=.agg (bu.f x)/\R=[(some a,.cells (js L wv d Y id ac ak am v9 w) false),aq.ob s' (A++[⟨bV,x.gen⟩])]/\af aq w (A++[⟨bV,x.gen⟩]) s') (rJ (bP d bV ge=none)):=by
 refine ar ?_;refine S.box fun a3=>?_;refine S.alloc fun a4=>?_;refine S.ag 2 ?_ (l:=[L,wv,.j d.arm,.bool d.down]);refine S.ld 1 ?_;refine S.al (Mo hd av) ?_;refine S.iX 0 (oZ) (fun aJ aL aA aH B=>?_) ?ay
 case ay=>
  intro v ψ an l h;obtain⟨o,aj⟩:=h;exact⟨by unfold bP;rw[ab (by rw[o];decide)],aj⟩
 obtain⟨B,ao,rfl⟩:=B;have B:=B.symm;subst B;refine S.al (Mk hr (s:=(d.read bV).1)) ?_;have W:∀T:Option aT,T=er (d.read bV).1->bP d bV ge=(match T with|none=>none|some x=>if 0<=ge/\x.gen≠ge then none else some x):=fun T h=>by subst h;unfold bP;rw[ae ao];(try rfl)
 obtain⟨T,M⟩:∃T,T=er (d.read bV).1:=⟨_,rfl⟩
 have U:=W T M;clear W;rw[<-M];obtain⟨x,hx⟩:∃x,x=T.getD fA:=⟨_,rfl⟩
 rw[<-hx];refine S.alloc fun aE=>?_;refine S.store 0 ?_;refine G.aD ?_;refine G.ld 2 ?_;refine G.bin ?_;refine G.mv ?_;refine G.aD ?_;refine G.ld 0 ?_;refine G.aD ?_;refine G.ld 2 ?_;refine G.bin ?_;refine G.nF ?_;refine G.and ?_;refine S.iX 0 (oZ) (fun aK aM aB aI D=>?_) ?az
 case az=>
  intro v ψ an l h;obtain⟨o,aj⟩:=h;refine⟨?_,aj⟩;rw[U];cases T with
  |none=>rfl
  |some y=>
   simp only;obtain rfl:x=y:=hx;rw[ae];simp at o;omega
 obtain⟨D,Q,rfl⟩:=D;have D:=D.symm;subst D;have ap:bP d bV ge=some x:=by
  rw[U];cases T with
  |none=>simp at Q
  |some y=>
   simp only;obtain rfl:x=y:=hx;rw[ab];simp at Q;omega
 refine S.ld 3 ?_;refine S.ld 2 ?_;refine S.ld 0 ?_;refine S.build ?_;refine S.a8 fun aC=>?_;refine S.br (m:=[(⟨bV,x.gen⟩:ah)]) 5 ho (.lit 0) (by simp;omega) fun v50 aw I=>?_;refine S.drop 0 ?_;refine S.nil? ?_;refine S.store 3 ?_ (hs:=by rw[gV I.ax];simp[aY,I.ax]) (ch:=by rw[gV I.ax];(try rfl)) (hl:=by rw[gV I.ax];(try rfl));refine S.ag 0 ?_ (l:=[.j x.kind,.j x.gen,.str x.load]);refine S.store 1 ?_;exact⟨_,.cN 1 rfl rfl rfl rfl .nil,.drop 0 (.drop 0 (.drop 0 (.done ⟨x,v50,aw,ap,rfl,rfl,I⟩)))⟩
set_option maxHeartbeats 4000000
theorem M9 [Fx F] (hr:F 215=some (.cA gR)) {Q wv am an ao v9 ak:V} {d:au} {Z id:Int} {a:Pa} {s:Option Pa} {A:List ah} {h:bA} {p:ah} (hd:cu O [Q,wv,.j d.arm,.bool d.down] d) (aA:d.wait.length<=1000000) (ho:af aq ak A s) (aw:A.length<=100000) (ay:0<=p.gen):
 ai F 200 [.ptr a 0,.agg [.j (h).ino,.j (h).idx,.str (h).load],.agg [.j p.addr,.j p.gen]] O [(some a,.cells (js Q wv d Z id am an ao v9 ak) false),aq.ob s A] (fun r _ R=>∃x w s',recAt d h p=some x/\r=.agg (bq.f x)/\R=[(some a,.cells (js Q wv d Z id am an ao v9 w) false),aq.ob s' (A++[p])]/\af aq w (A++[p]) s') (rJ (recAt d h p=none)):=by
 refine ar ?_;refine S.box fun a4=>?_;refine S.box fun a5=>?_;refine S.alloc fun aJ=>?_;refine S.ag 1 ?_ (l:=[.j p.addr,.j p.gen]);refine S.front 4 ?_;refine S.front 4 ?_;refine S.iX 2 (tT hr (bV:=p.addr) (ge:=p.gen) hd aA ho aw) (fun aP aR aH aM av=>?_) ?aC
 case aC=>
  intro v ψ ap l h;obtain⟨o,aj⟩:=h;exact⟨by unfold recAt;rw[o];(try rfl),aj⟩
 obtain⟨I,aF,aB,L,rfl,rfl,ac⟩:=av;have aL:=kd L;rw[show(⟨p.addr,I.gen⟩:ah)=p by rw[tM L ay]]at ac⊢;refine S.al (MA (x:=I) (by omega)) ?_;have Y:∀ad:Option bA,ad=eh I->recAt d h p=(match ad with|none=>none|some r=>if r.ino≠h.ino\/r.idx≠h.idx then none else some r):=fun ad D=>by subst D;unfold recAt;rw[L,l3];(try rfl)
 obtain⟨ad,D⟩:∃ad,ad=eh I:=⟨_,rfl⟩
 have W:=Y ad D;clear Y;obtain⟨r,M⟩:∃r,r=ad.getD ⟨0,0,[]⟩:=⟨_,rfl⟩
 rw[<-D,<-M];refine S.alloc fun aK=>?_;refine S.store 0 ?_;refine G.aD ?_;refine G.ld 0 ?_;refine G.aD ?_;refine G.ld 5 ?_;refine G.bin ?_;refine G.and ?_;refine G.aD ?_;refine G.ld 0 ?_;refine G.aD ?_;refine G.ld 5 ?_;refine G.bin ?_;refine G.and ?_;refine S.iX 0 (oZ) (fun aQ aS aI aO B=>?_) ?aE
 case aE=>
  intro v ψ ap l h;obtain⟨o,aj⟩:=h;refine⟨?_,aj⟩;rw[W];cases ad with
  |none=>rfl
  |some y=>
   simp only;obtain rfl:r=y:=M;rw[ae];simp at o;omega
 obtain⟨B,U,rfl⟩:=B;have B:=B.symm;subst B;have az:recAt d h p=some r:=by
  rw[W];cases ad with
  |none=>simp at U
  |some y=>
   simp only;obtain rfl:r=y:=M;rw[ab];simp at U;omega
 refine S.ag 0 ?_ (l:=[.j (r).ino,.j (r).idx,.str (r).load]);refine S.store 3 ?_;exact⟨_,.cN 3 rfl rfl rfl rfl .nil,.drop 0 (.drop 2 (.drop 2 (.drop 2 (.done ⟨r,aF,aB,az,rfl,rfl,ac⟩))))⟩
theorem Na [Fx F] (hr:F 215=some (.cA gR)) {aB wv aO aP aQ v9 bT:V} {d:au} {aI id:Int} {a:Pa} {s:Option Pa} {M:List ah} {am ao ap:List SV} {U:List gY} {aJ aK aL aM:Option Pa} {p:ah} (hd:cu O [aB,wv,.j d.arm,.bool d.down] d) (ba:d.wait.length<=1000000) (ho:af aq bT M s) (dw:M.length<=10000) (cf:0<=p.gen) (a7:U.length<=1000)
 (cx:af df aO (U.map (·.root)) aJ) (bx:af bN aP am aK) (bM:NR bq O am (U.map (fun t=>t.an.map (·.1)))) (cz:af bN aQ ao aL) (bP:NR aq O ao (U.map (fun t=>t.an.map (·.2)))) (bD:af bN v9 ap aM) (bR:NR aG O ap (U.map (·.tree))):
 ai F 136 [.ptr a 0,.agg [.j p.addr,.j p.gen]] O [(some a,.cells (js aB wv d aI id aO aP aQ v9 bT) false),aq.ob s M,df.ob aJ (U.map (·.root)),bN.ob aK am,bN.ob aL ao,bN.ob aM ap] (fun _ ψ R=>∃x u6 u7 u8 u9 d2 q6 q7 q8 q9 d4 m7 m8 m9,jP d p=some x/\R=[(some a,.cells (js aB wv d aI id u6 u7 u8 u9 d2) false),aq.ob d4 (M++p::x.2),df.ob q6 ((U++[x.1]).map (·.root)),bN.ob q7 m7,bN.ob q8 m8,bN.ob q9 m9]/\af aq d2 (M++p::x.2) d4/\af df u6 ((U++[x.1]).map (·.root)) q6/\af bN u7 m7 q7/\NR bq ψ m7 ((U++[x.1]).map (fun t=>t.an.map (·.1)))/\af bN u8 m8 q8/\NR aq ψ m8 ((U++[x.1]).map (fun t=>t.an.map (·.2)))/\af bN u9 m9 q9/\NR aG ψ m9 ((U++[x.1]).map (·.tree))) (rJ (jP d p=none)):=by
 have dA:am.length<=1000:=by rw[bM.1];simpa using a7
 have dB:ao.length<=1000:=by rw[bP.1];simpa using a7
 have dC:ap.length<=1000:=by rw[bR.1];simpa using a7
 refine ar ?_;refine S.box fun a3=>?_;refine S.ag 0 ?_ (l:=[.j p.addr,.j p.gen]);refine S.front 2 ?_;refine S.front 2 ?_;refine S.iX 2 (tT hr (bV:=p.addr) (ge:=p.gen) hd ba ho (by first|omega|(simp;omega))) (fun dV d3 dc cl b3=>?_) ?cN
 case cN=>
  intro v ψ aw l h;obtain⟨o,aj⟩:=h;exact⟨by unfold jP;rw[o];(try rfl),aj⟩
 obtain⟨aD,c3,cE,aZ,rfl,rfl,bI⟩:=b3;have dE:=kd aZ;rw[show(⟨p.addr,aD.gen⟩:ah)=p by rw[tM aZ cf]]at bI⊢;refine S.call (MG (x:=aD) (by omega)) fun v22 bU dd cm b4=>?_;obtain⟨rfl,bL,rfl,al⟩:=b4;have I:jP d p=(match dJ aD with|none=>none|some (r,q)=>match e5 d q []with|none=>none|some an=>match fI d an []with|none=>none|some cP=>match ei cP with|none=>none|some t=>some (⟨r,an,t⟩,q++an.map (·.2))):=by unfold jP;rw[aZ,l3];(try rfl)
 have aH:∀y,dJ aD=some y->y.2.length<=6/\∀z∈y.2,0<=z.gen:=fun y L=>⟨wh L,BF L⟩;generalize dJ aD=RO at al I aH⊢;obtain⟨A,bo⟩:∃A,A=(RO.map (·.1)).getD ⟨0,0,0,0,0⟩:=⟨_,rfl⟩
 rw[<-bo];have bt:=cl.trans cm;refine S.alloc fun a4=>?_;refine S.store (v:=.agg [.j A.kind,.j A.id,.j A.cZ,.j A.base,.j A.done]) 0 ?_;refine S.iX 0 (oZ) (fun dW d5 dg dG ay=>?_) ?cO
 case cO=>
  intro v ψ aw l h;obtain⟨o,aj⟩:=h;refine⟨?_,aj⟩;rw[I];cases RO with
  |none=>rfl
  |some y=>cases o
 obtain⟨ay,cb,rfl⟩:=ay;have ay:=ay.symm;subst ay;obtain⟨q,rfl⟩:∃q,RO=some (A,q):=by
  cases RO with
  |none=>cases cb
  |some y=>obtain⟨c8,c9⟩:=y;exact⟨c9,by rw[show A=c8 from bo]⟩
 change aa aq bU bL q at al;obtain⟨aH,bk⟩:=aH _ rfl;change q.length<=6 at aH;change∀z∈q,0<=z.gen at bk;change jP d p=(match e5 d q []with|none=>none|some an=>match fI d an []with|none=>none|some cP=>match ei cP with|none=>none|some t=>some (⟨A,an,t⟩,q++an.map (·.2)))at I;refine S.len ?_ (hl:=aa.len al);refine SW.new bq ?_;refine SW.new aq ?_;refine SW.bF (fun m E ψ R=>∃(j:Nat) (an:List bO) (aC av Z:V) (be z9 ab:Option Pa),j+m=q.length/\e5 d (q.drop j) an=e5 d q []/\an.length<=6*j/\bU.Le ψ/\R=[(some a,.cells (js aB wv d aI id aO aP aQ v9 Z) false),aq.ob ab (M++p::q.take j),bq.ob be (an.map (·.1)),aq.ob z9 (an.map (·.2)),(some a4,.cells [.j A.kind,.j A.id,.j A.cZ,.j A.base,.j A.done] false),(some a3,.cells [.j p.addr,.j p.gen] false),df.ob aJ (U.map (·.root)),bN.ob aK am,bN.ob aL ao,bN.ob aM ap]/\af aq Z (M++p::q.take j) ab/\af bq aC (an.map (·.1)) be/\af aq av (an.map (·.2)) z9/\Sub [(0,.ptr a 0),(3,.ptr a3 0),(4,.ptr a4 0),(7,aC),(9,av),(8,.no .sl),(28,bL),(29,.j (q.length:Int)),(30,.j (j:Int))] E) (m:=q.length) (.front 1 rfl (.front 4 rfl (.front 4 rfl (.done ⟨0,[],.no .sl,.no .sl,c3,none,none,cE,by omega,rfl,by simp,.refl _,rfl,bI,af.nil,af.nil,.r rfl⟩)))) ?_;intro cr E ψ R ci aX;obtain⟨j,an,aC,av,Z,be,z9,ab,dy,W,ch,G,rfl,ak,bz,bG,aW⟩:=aX;refine C.sub aW ?_;refine S.bin ?_;refine C.D (fun Pp=>?_) fun Pp=>?_
 ·have hj:j<q.length:=by omega
  have bl:=bk _ (cw hj);obtain⟨y,L⟩:∃y,y=q[j]:=⟨_,rfl⟩
  rw[<-L]at bl;rw[bQ hj,<-L]at W;simp only[e5]at W;have al:=al.mono G;have hd:=hd.mono (bt.trans G);refine S.aF al hj fun dK bZ=>?_;rw[<-L]at bZ;refine S.bJ ?_ (l:=[.j y.addr,.j y.gen]);refine S.alloc fun dr=>?_;refine S.store 0 ?_;refine S.ag 0 ?_ (l:=[.j y.addr,.j y.gen]);refine S.front 2 ?_;refine S.front 2 ?_;refine S.iX 2 (tT hr (bV:=y.addr) (ge:=y.gen) hd ba ak (by first|omega|(simp;omega))) (fun v37 d6 dh cn b5=>?_) ?cQ
  case cQ=>
   intro v ψ aw l h;obtain⟨o,aj⟩:=h;exact⟨by rw[I,<-W,o];(try rfl),aj⟩
  obtain⟨aR,c5,cF,a1,rfl,rfl,bK⟩:=b5;have dF:=kd a1;rw[show(⟨y.addr,aR.gen⟩:ah)=y by rw[tM a1 bl]]at bK⊢;refine S.call (MF (x:=aR) (by omega)) fun dX bW di co b7=>?_;obtain⟨rfl,cU,cV,rfl,aU,aV⟩:=b7;rw[a1,l3]at W;have a2:∀l,dp aR=some l->l.length<=6:=fun l hl=>(BH hl).1;generalize dp aR=aS at aU aV W a2⊢;refine S.iX 0 (oZ) (fun dZ d7 dj dH az=>?_) ?cR
  case cR=>
   intro v ψ aw l h;obtain⟨o,aj⟩:=h;refine⟨?_,aj⟩;rw[I,<-W];cases aS with
   |none=>rfl
   |some y=>cases o
  obtain⟨az,cc,rfl⟩:=az;have az:=az.symm;subst az;obtain⟨l,rfl⟩:∃l,aS=some l:=by
   cases aS with
   |none=>cases cc
   |some l=>exact⟨l,rfl⟩
  have a2:=a2 l rfl;change aa bq bW cU (l.map (·.1))at aU;change aa aq bW cV (l.map (·.2))at aV;simp only at W;refine S.br (m:=l.map (·.1)) 3 bz (.f aU) (by simp;omega) fun v46 cG ct=>?_;refine S.br (m:=l.map (·.2)) 4 bG (.f aV) (by simp;omega) fun cW cH cv=>?_;refine S.bin ?_;refine⟨cr-1,by omega,.drop 2 (.done ⟨j+1,an++l,v46,cW,c5,cG,cH,cF,by omega,W,by simp;omega,(G.trans cn).trans co,?_,?_,by rw[cX];exact ct,by rw[cX];exact cv,.r rfl⟩)⟩
  ·rw[fm hj,<-L,cX,cX,<-k3 (a:=p),<-bp M];(try rfl)
  ·rw[fm hj,<-L,<-k3 (a:=p),<-bp M];exact bK
 ·obtain rfl:j=q.length:=by omega
  rw[b6]at W;simp only[e5]at W;rw[<-W]at I;simp only at I;rw[dT]at ak⊢;obtain⟨_,a6⟩:=w6 W.symm;have a6:=a6 (fun i hi=>(by cases hi));have ch:an.length<=36:=by omega
  have G:=bt.trans G;refine S.cd 2 bz fun ea cq B=>?_;refine S.cd 2 bG fun db bs Q=>?_;have B:=B.mono bs;have G:=(G.trans cq).trans bs;refine S.len ?_ (hl:=aa.len Q);rw[hS];refine SW.new bq ?_;refine SW.bF (fun m E ψ R=>∃(i:Nat) (rs:List bA) (bd Z:V) (bg ab:Option Pa),i+m=an.length/\fI d (an.drop i) rs=fI d an []/\rs.length<=i/\(∀r∈rs,r.load.length<=60/\0<=r.idx)/\db.Le ψ/\R=[(some a,.cells (js aB wv d aI id aO aP aQ v9 Z) false),aq.ob ab (M++p::(q++(an.map (·.2)).take i)),bq.ob bg rs,(some a4,.cells [.j A.kind,.j A.id,.j A.cZ,.j A.base,.j A.done] false),(some a3,.cells [.j p.addr,.j p.gen] false),df.ob aJ (U.map (·.root)),bN.ob aK am,bN.ob aL ao,bN.ob aM ap]/\af aq Z (M++p::(q++(an.map (·.2)).take i)) ab/\af bq bd rs bg/\Sub [(0,.ptr a 0),(3,.ptr a3 0),(4,.ptr a4 0),(7,aC),(9,av),(8,bd),(51,av),(52,.j (an.length:Int)),(53,.j (i:Int))] E) (m:=an.length) (.front 2 rfl (.front 2 rfl (.done ⟨0,[],.no .sl,Z,none,ab,by omega,rfl,by simp,fun r hr=>(by cases hr),.refl _,by rw[nX,e9];(try rfl),by rw[nX,e9];exact ak,af.nil,.r rfl⟩))) ?_;intro cs E ψ R ci aX;obtain⟨i,rs,bd,Z,bg,ab,dx,Y,dD,bn,ae,rfl,ak,bB,aW⟩:=aX;refine C.sub aW ?_;refine S.bin ?_;refine C.D (fun bY=>?_) fun bY=>?_
  ·have hi:i<an.length:=by omega
   obtain⟨it,aE⟩:∃it,it=an[i]:=⟨_,rfl⟩
   have bi:=a6 _ (cw hi);rw[<-aE]at bi;rw[bQ hi,<-aE]at Y;simp only[fI]at Y;have B:=B.mono ae;have Q:=Q.mono ae;have hd:=hd.mono (G.trans ae);have cg:(an.map (·.1))[i]'(by simpa using hi)=it.1:=by rw[nU,aE]
   have bj:(an.map (·.2))[i]'(by simpa using hi)=it.2:=by rw[nU,aE]
   refine S.aF Q (j:=i) (by simpa using hi) fun dL b0=>?_;rw[bj]at b0;refine S.bJ ?_ (l:=[.j it.2.addr,.j it.2.gen]);refine S.alloc fun ds=>?_;refine S.store 0 ?_;refine S.aF B (j:=i) (by simpa using hi) fun dM b1=>?_;rw[cg]at b1;refine S.bJ ?_ (l:=[.j (it.1).ino,.j (it.1).idx,.str (it.1).load]);refine S.ag 0 ?_ (l:=[.j it.2.addr,.j it.2.gen]);refine S.front 2 ?_;refine S.front 2 ?_;refine S.iX 2 (M9 hr (h:=it.1) (p:=it.2) hd ba ak (by simp;omega) bi) (fun d0 d8 dk cp b8=>?_) ?cS
   case cS=>
    intro v ψ aw l h;obtain⟨o,aj⟩:=h;exact⟨by rw[I,<-Y,o],aj⟩
   obtain⟨r,c6,cJ,bm,rfl,rfl,cB⟩:=b8;obtain⟨ck,cj⟩:=L3 bm;rw[bm]at Y;simp only at Y;refine S.a8 fun a66=>?_;refine S.br (m:=[r]) 4 bB (.lit 0) (by simp;omega) fun c0 cK cy=>?_;refine S.drop 0 ?_;refine S.mv ?_;refine S.bin ?_;have bh:M++p::(q++(an.map (·.2)).take (i+1))=M++p::(q++(an.map (·.2)).take i)++[it.2]:=by rw[fm (by simpa using hi),bj];simp
   refine⟨cs-1,by omega,.drop 2 (.done ⟨i+1,rs++[r],c0,c6,cK,cJ,by omega,Y,by simp;omega,fun y L=>?_,ae.trans cp,by rw[bh];(try rfl),by rw[bh];exact cB,cy,.r rfl⟩)⟩;rcases fK.1 L with L|L
   ·exact bn y L
   ·obtain rfl:=hB.1 L;exact⟨ck,cj⟩
  ·obtain rfl:i=an.length:=by omega
   rw[b6]at Y;simp only[fI]at Y;rw[<-Y]at I;simp only at I;rw[kk (by simp)]at ak⊢;have G:=G.trans ae;have B:=B.mono ae;have Q:=Q.mono ae;refine S.cd 2 bB fun eb bc b2=>?_;refine S.call (M8 b2 (by omega) bn) fun d1 da dm bb ca=>?_;obtain⟨rfl,bS,rfl,ac⟩:=ca;have G:=(G.trans bc).trans bb;have B:=(B.mono bc).mono bb;have Q:=(Q.mono bc).mono bb;generalize ei rs=aT at I ac⊢;refine S.iX 0 (oZ) (fun v75 d9 dn dI aA=>?_) ?cT
   case cT=>
    intro v ψ aw l h;obtain⟨o,aj⟩:=h;refine⟨?_,aj⟩;rw[I];cases aT with
    |none=>rfl
    |some y=>cases o
   obtain⟨aA,ce,rfl⟩:=aA;have aA:=aA.symm;subst aA;obtain⟨t,rfl⟩:∃t,aT=some t:=by
    cases aT with
    |none=>cases ce
    |some t=>exact⟨t,rfl⟩
   change aa aG da bS t at ac;simp only at I;have dN:=B.ax;have dO:=Q.ax;have dP:=ac.ax;refine S.ld 0 ?_;refine S.ag 2 ?_ (l:=[.j A.kind,.j A.id,.j A.cZ,.j A.base,.j A.done]);refine S.a8 fun dt=>?_;refine S.ld 1 ?_;refine S.a8 (fun du=>?_) (hs:=by simp[aY,B.ax]) (dl:=by simp[aY,B.ax]);refine S.br (e:=df) (m:=[A]) 6 cx (.lit 1) (by simp;omega) fun c1 cL bC=>?_;have dS:=bC.ax;refine S.e2 0 ?_ (hm:=B.b9);refine S.bE 2 ?_ (hs:=bx.same);refine S.br (e:=bN) (m:=[⟨aC,B.ax⟩]) 7 bx (.lit 0) (by simp;omega) fun c2 cM bH=>?_;have dU:=bH.ax;refine S.fB 2 ?_;refine S.fB 2 ?_;refine S.drop 0 ?_;refine S.drop 0 ?_;refine S.ld 0 ?_;refine S.a8 (fun dq=>?_) (hs:=by simp[aY,Q.ax]) (dl:=by simp[aY,Q.ax]);refine S.ld 1 ?_;refine S.a8 (fun a116=>?_) (hs:=by simp[aY,ac.ax]) (dl:=by simp[aY,ac.ax]);refine S.br (e:=bN) (m:=[⟨av,Q.ax⟩]) 8 cz (.lit 1) (by simp;omega) fun v109 cC bv=>?_;have dQ:=bv.ax;refine S.e2 0 ?_ (hm:=ac.b9);refine S.bE 2 ?_ (hs:=bD.same);refine S.br (e:=bN) (m:=[⟨bS,ac.ax⟩]) 9 bD (.lit 0) (by simp;omega) fun v117 cD bw=>?_;have dR:=bw.ax;refine S.fB 2 ?_;refine S.fB 2 ?_;exact⟨_,.nil,.drop 0 (.drop 0 (.drop 2 (.drop 2 (.done ⟨_,c1,c2,v109,v117,Z,cL,cM,cC,cD,ab,_,_,_,I,by rw[cX];(try rfl),ak,by rw[cX];exact bC,bH,by rw[cX];exact(bM.mono G).snoc B,bv,by rw[cX];exact(bP.mono G).snoc Q,bw,by rw[cX];exact(bR.mono G).snoc ac⟩))))⟩
set_option maxHeartbeats 2000000
theorem Fin.vq {O:Fz} {d o:List Ob} {P:Fz->List Ob->Prop} (hn:Fin O o P):Fin O (d++o) P:=fun ad h sh=>hn ad h (by
 refine sh.pick (fun j=>j+d.length) (fun j x hj=>?_) (fun _ _ _ _ e=>by omega);rw[bp,db (by omega),qb];exact hj)
theorem S.assert {F:Nat->Option aP} {K:KX} {E:Env} {O:Fz} {R:List Ob} {Q:bz} {rs:List Op} {d:Nat} {x:Od} {t:Nat} {z v:V} (hn:SA F K rs ((d,.aN [v,.bool true])::E) O R Q) (hx:ay E x (.iface t v):=by exact .t rfl):SR F K (.op ⟨some (pa d),uh t z x true,none⟩::Op.aK rs) E O R Q:=fun W h sh=>
 ad.pu .none (fun e he=>by simp only[hx e he,dU,aE];rfl) (S.r hn W h sh)
def mQ:oX:=⟨0,0,[],[]⟩
def B6 (a:Pa) (h wv:V) (d:au) (y:oX) (u6 u7 u8 u9 d2:V) (q6 q7 q8 q9 d4:Option Pa) (m7 m8 m9:List SV):List Ob:=
 [(some a,.cells (js h wv d y.next y.id u6 u7 u8 u9 d2) false),aq.ob d4 y.all,df.ob q6 (y.trees.map (·.root)),bN.ob q7 m7,bN.ob q8 m8,bN.ob q9 m9]
structure rK (ψ:Fz) (y:oX) (u6 u7 u8 u9 d2:V) (q6 q7 q8 q9 d4:Option Pa) (m7 m8 m9:List SV):Prop where
 all:af aq d2 y.all d4
 roots:af df u6 (y.trees.map (·.root)) q6
 ON:af bN u7 m7 q7
 OO:NR bq ψ m7 (y.trees.map (fun t=>t.an.map (·.1)))
 OP:af bN u8 m8 q8
 tC:NR aq ψ m8 (y.trees.map (fun t=>t.an.map (·.2)))
 trees:af bN u9 m9 q9
 nt:NR aG ψ m9 (y.trees.map (·.tree))
theorem rK.no (O:Fz):rK O mQ (.no .sl) (.no .sl) (.no .sl) (.no .sl) (.no .sl) none none none none none [] [] []:=⟨af.nil,af.nil,af.nil,NR.nil _,af.nil,NR.nil _,af.nil,NR.nil _⟩
theorem B7 {d:au}:∀{q:List ah} {o:List gY} {j:List ah} {x:List gY×List ah},j≠[]->iE d q o j=some x->x.2≠[]
 |[],o,j,x,h,e=>by cases e;exact h
 |p::q,o,j,x,h,e=>by
  simp only[iE]at e;split at e
  ·cases e
  ·exact B7 (by simp[h]) e
theorem Nb {d:au} {sum:Int} {y:oX} (h:eR d sum=some y):y.all≠[]:=by
 unfold eR at h;split at h
 ·cases h
 ·split at h
  ·cases h
  ·obtain⟨z,o,aj⟩:=jR.1 h;subst aj;exact B7 (by simp) o
theorem B8 {d:au} {p:ah} {x:gY×List ah} (h:jP d p=some x):x.2.length<=336:=by
 rw[BE]at h;exact Ac (x:=x.1) (l:=x.2) h
theorem Nc [Fx F] (hr:F 215=some (.cA gR)) {ae wv:V} {d:au} {a:Pa} {sum:Int} (hd:cu O [ae,wv,.j d.arm,.bool d.down] d) (aI:d.wait.length<=1000000):
 ai F 76 [.ptr a 0,.j sum] O [(some a,.cells (js ae wv d 0 0 (.no .sl) (.no .sl) (.no .sl) (.no .sl) (.no .sl)) false)] (fun _ ψ R=>∃y u6 u7 u8 u9 d2 q6 q7 q8 q9 d4 m7 m8 m9,eR d sum=some y/\R=B6 a ae wv d y u6 u7 u8 u9 d2 q6 q7 q8 q9 d4 m7 m8 m9/\rK ψ y u6 u7 u8 u9 d2 q6 q7 q8 q9 d4 m7 m8 m9) (rJ (eR d sum=none)):=by
 refine ar ?_;refine S.build ?_;refine S.new aq ?_;refine S.front 1 ?_;refine S.iX 2 (tT hr (bV:=sum) (ge:=-1) hd aI af.nil (by simp)) (fun bP bU bA bd aW=>?_) ?bm
 case bm=>
  intro v ψ aD l h;obtain⟨o,aj⟩:=h;exact⟨by unfold eR;rw[o],aj⟩
 obtain⟨G,bp,bl,aE,rfl,rfl,bj⟩:=aW;have bL:=kd aE;refine S.call (MH (x:=G) (by omega)) fun bR aT bB be aX=>?_;obtain⟨rfl,aP,rfl,L⟩:=aX;have M:eR d sum=(match c0 G with|none=>none|some (next,id,p)=>(iE d p [] [⟨sum,G.gen⟩]).map (fun y=>(⟨next,id,y.1,y.2⟩:oX))):=by unfold eR;rw[aE];(try rfl)
 have aB:∀n i q,c0 G=some (n,i,q)->q.length<=7/\∀z∈q,0<=z.gen:=fun n i q Q=>⟨rh Q,BG Q⟩;generalize c0 G=aA at L M aB⊢;have bh:=bd.trans be;refine S.iX 0 (oZ) (fun bS bW bC bM Y=>?_) ?bn
 case bn=>
  intro v ψ aD l h;obtain⟨o,aj⟩:=h;refine⟨?_,aj⟩;rw[M];cases aA with
  |none=>rfl
  |some y=>cases o
 obtain⟨Y,a6,rfl⟩:=Y;have Y:=Y.symm;subst Y;obtain⟨W,U,q,rfl⟩:∃W U q,aA=some (W,U,q):=by
  cases aA with
  |none=>cases a6
  |some y=>obtain⟨br,bs,bt⟩:=y;exact⟨br,bs,bt,rfl⟩
 change aa aq aT aP q at L;obtain⟨aB,a7⟩:=aB _ _ _ rfl;change eR d sum=(iE d q [] [⟨sum,G.gen⟩]).map (fun y=>(⟨W,U,y.1,y.2⟩:oX))at M;refine S.store (v:=.j W) 0 ?_;refine S.store (v:=.j U) 0 ?_;refine S.len ?_ (hl:=aa.len L);refine SW.new bN ?_;refine SW.new bN ?_;refine SW.new bN ?_;refine SW.new df ?_;refine SW.bF (fun m E ψ R=>∃(j:Nat) (A:List gY) (I:List ah) (aw ay az v9 av:V) (al am ao ap ak:Option Pa) (Z ab ac:List SV),j+m=q.length/\iE d (q.drop j) A I=iE d q [] [⟨sum,G.gen⟩]/\A.length<=j/\I.length<=1+337*j/\aT.Le ψ/\R=[(some a,.cells (js ae wv d W U aw ay az v9 av) false),aq.ob ak I,df.ob al (A.map (·.root)),bN.ob am Z,bN.ob ao ab,bN.ob ap ac]/\af aq av I ak/\af df aw (A.map (·.root)) al/\af bN ay Z am/\NR bq ψ Z (A.map (fun t=>t.an.map (·.1)))/\af bN az ab ao/\NR aq ψ ab (A.map (fun t=>t.an.map (·.2)))/\af bN v9 ac ap/\NR aG ψ ac (A.map (·.tree))/\Sub [(0,.ptr a 0),(32,aP),(33,.j (q.length:Int)),(34,.j (j:Int))] E) (m:=q.length) (.front 5 rfl (.front 5 rfl (.done ⟨0,[],_,.no .sl,.no .sl,.no .sl,.no .sl,bp,none,none,none,none,bl,[],[],[],by omega,rfl,by simp,by simp,.refl _,rfl,bj,af.nil,af.nil,NR.nil _,af.nil,NR.nil _,af.nil,NR.nil _,.r rfl⟩))) ?_;intro bi E ψ R bH a2;obtain⟨j,A,I,aw,ay,az,v9,av,al,am,ao,ap,ak,Z,ab,ac,bG,B,bI,bE,aC,rfl,aO,aJ,aK,aQ,aL,aR,aM,aS,a1⟩:=a2;refine C.sub a1 ?_;refine S.bin ?_;refine C.D (fun aU=>?_) fun aU=>?_
 ·have hj:j<q.length:=by omega
  have aH:=a7 _ (cw hj);obtain⟨y,Q⟩:∃y,y=q[j]:=⟨_,rfl⟩
  rw[<-Q]at aH;rw[bQ hj,<-Q]at B;simp only[iE]at B;have L:=L.mono aC;have hd:=hd.mono (bh.trans aC);refine S.aF L hj fun bO aV=>?_;rw[<-Q]at aV;refine S.bJ ?_ (l:=[.j y.addr,.j y.gen]);refine S.alloc fun a9=>?_;refine S.store 0 ?_;refine S.ag 0 ?_ (l:=[.j y.addr,.j y.gen]);refine S.front 6 ?_;refine S.front 6 ?_;refine S.front 6 ?_;refine S.front 6 ?_;refine S.front 6 ?_;refine S.front 6 ?_;refine S.iX 6 (Na hr hd aI aO (by omega) aH (by omega) aJ aK aQ aL aR aM aS) (fun bT bY bD bg aZ=>?_) ?bo
  case bo=>
   intro v ψ aD l h;obtain⟨o,aj⟩:=h;exact⟨by rw[M,<-B,o];(try rfl),aj⟩
  obtain⟨x,u6,u7,u8,u9,d2,bw,bx,bz,z9,bv,m7,m8,m9,hx,rfl,bk,a8,ba,Pk,bb,Pc,bc,O7⟩:=aZ;have bK:=B8 hx;rw[hx]at B;simp only at B;refine S.bin ?_;exact⟨bi-1,by omega,.drop 6 (.done ⟨j+1,A++[x.1],_,u6,u7,u8,u9,d2,bw,bx,bz,z9,bv,m7,m8,m9,by omega,B,by simp;omega,by simp;omega,aC.trans bg,rfl,bk,a8,ba,Pk,bb,Pc,bc,O7,.r rfl⟩)⟩
 ·obtain rfl:j=q.length:=by omega
  rw[b6]at B;simp only[iE]at B;rw[<-B]at M;exact⟨_,.nil,.done ⟨⟨W,U,A,I⟩,aw,ay,az,v9,av,al,am,ao,ap,ak,Z,ab,ac,M,rfl,⟨aO,aJ,aK,aQ,aL,aR,aM,aS⟩⟩⟩
theorem Nd [Fx F] (hr:F 215=some (.cA gR)) {cs:List V} {d:au} {sum:Int} (hd:cu O cs d) (U:d.wait.length<=1000000):
 ai F 37 [.agg cs,.j sum] O [] (fun r ψ R=>∃a A wv d' u6 u7 u8 u9 d2 q6 q7 q8 q9 d4 m7 m8 m9,r=.aN [.ptr a 0,.bool (eR d sum).isSome]/\R=B6 a A wv d' ((eR d sum).getD mQ) u6 u7 u8 u9 d2 q6 q7 q8 q9 d4 m7 m8 m9/\rK ψ ((eR d sum).getD mQ) u6 u7 u8 u9 d2 q6 q7 q8 q9 d4 m7 m8 m9/\(((eR d sum).getD mQ).all=[]->d2=.no .sl)) never:=by
 obtain⟨A,wv,rfl,hl,hw,sl,W⟩:=hd.open;refine Jo (d1:=6) (d3:=5) (xs:=[.t (pa 4),.t (pa 5)]) (Fx.h (f:=37) rfl) rfl (Fx.h (f:=75) rfl) rfl rfl ?_;refine SC.w ?_;refine S.box fun L=>?_;refine S.alloc fun a4=>?_;refine S.alloc fun a5=>?_;refine⟨[.ptr a4 0,.ptr a5 0],rfl,?_⟩;refine SC.w ?_;refine S.ag 2 ?_ (l:=[A,wv,.j d.arm,.bool d.down]);refine S.build ?_ (l:=js A wv d 0 0 (.no .sl) (.no .sl) (.no .sl) (.no .sl) (.no .sl));refine S.box (fun a9=>?_) (hs:=by simp[V.cells,js,aY,sl,W,iV,jF,kJ]);refine S.store (v:=.ptr a9 0) 2 ?_;refine S.ld 2 ?_;refine S.iX 1 (Nc hr (a:=a9) (sum:=sum) hd U) (fun ac ae Z ab M=>?_) ?Y
 case Y=>
  intro v ψ I l h;obtain⟨o,rfl⟩:=h;show SW F _ _ ((5,.iface 169 (.agg []))::(0,.ptr a4 0)::(1,.ptr a5 0)::[]) ψ (I++[(some a5,.cells [.bool false] false),(some a4,.cells [.ptr a9 0] false),(some L,.cells [A,wv,.j d.arm,.bool d.down] false)]) _;refine SW.fin (.vq (.done ?_));refine SC.w ?_;refine S.bin ?_ (v:=.bool false) (hv:=rfl);refine C.B (t:=false) (fun c=>by cases c) fun _=>?_;refine S.assert ?_;refine C.B (t:=true) (fun _=>?_) fun c=>by cases c
  refine S.alloc fun a3=>?_;refine S.store (v:=.agg []) 0 ?_;refine S.build ?_ (l:=js (.no .sl) (.no .sl) ⟨[],[],0,false⟩ 0 0 (.no .sl) (.no .sl) (.no .sl) (.no .sl) (.no .sl));refine S.box fun D=>?_;refine S.store (v:=.ptr D 0) 3 ?_;refine S.store (v:=.bool false) 2 ?_;refine⟨_,.eH 3 rfl rfl rfl (.eH 2 rfl rfl rfl .nil),.drop 1 (.drop 1 (.drop 1 (.drop 1 (.new bN (.new bN (.new bN (.new df (.new aq (.front 5 rfl (.done ?_))))))))))⟩;rw[o];exact⟨D,.no .sl,.no .sl,⟨[],[],0,false⟩,_,_,_,_,_,none,none,none,none,none,[],[],[],rfl,rfl,rK.no _,fun _=>rfl⟩
 obtain⟨y,u6,u7,u8,u9,d2,q6,q7,q8,q9,d4,m7,m8,m9,G,rfl,Q⟩:=M;refine S.ld 7 ?_;refine S.store (v:=.ptr a9 0) 7 ?_;refine S.store (v:=.bool true) 6 ?_;refine SC.w ?_;refine S.bin ?_ (v:=.bool true) (hv:=rfl);refine C.B (t:=true) (fun _=>?_) fun c=>by cases c
 refine⟨_,.eH 7 rfl rfl rfl (.eH 6 rfl rfl rfl .nil),.drop 6 (.drop 6 (.drop 6 (.done ?_)))⟩;rw[G];exact⟨a9,A,wv,d,u6,u7,u8,u9,d2,q6,q7,q8,q9,d4,m7,m8,m9,rfl,rfl,Q,fun h=>absurd h (Nb G)⟩
end Go.Ev
namespace Go.Ev
open Go
section
variable{F:Nat->Option aP}
theorem Nf {h:Hp} {f:Nat} {fn:fO} {args:List V} {v0:V} (G:F f=some (.code fn)) (hw:WC F ⟨⟨f,fn.nt,false,none⟩,fun _=>True⟩ fn.body (fT 0 args) h (qS fn.res (fun v _=>v=v0) (fun _ _=>False))):
 ∃n h',run F n (enter fn f args false) [] h []=.done v0 h':=by
 obtain⟨r,o,aj⟩:=hw _ (pF args);have D:enter fn f args false=⟨⟨f,fn.nt,false,none⟩,fP args .z .E,[.code fn.body],[],.run⟩:=rfl;have back:∀(e:T V) (E:Env) (h':Hp) (ms:List Pa) (l:List V) (td:List Item),bY e E->jC ms h'->il E (kill ms h') fn.res l->∀ls,Reach F (.go ⟨⟨f,fn.nt,false,none⟩,e,td,marks ms [],.returning⟩ [] h' ls) (.done (oneOf l) (kill ms h')):=by
  intro e E h' ms l td he ha hl ls;refine(mu (fr:=⟨⟨f,fn.nt,false,none⟩,e,td,[],.returning⟩) ms ha (by intro e;cases e)).trans (.one ?_);show unwind F ⟨⟨f,fn.nt,false,none⟩,e,td,[],.returning⟩ [] (kill ms h') ls=_;simp only[unwind,G,hl e he,doReturn,bw]
 have go:lF r []->∃x,Ends ⟨⟨f,fn.nt,false,none⟩,fun _=>True⟩ [] [] [] [] r x/\Reach F (.go (enter fn f args false) [] h []) x:=fun ho=>by
  obtain⟨x,hx,hr⟩:=aj [] [] [] [] trivial ho;exact⟨x,hx,by rw[D];exact(lG _ _ _ _ _ _ _ _).trans hr⟩
 have fin:∀v h',Reach F (.go (enter fn f args false) [] h []) (.done v h')->v=v0->∃n h',run F n (enter fn f args false) [] h []=.done v0 h':=fun v h' hr hv=>by
  subst hv;obtain⟨n,hn⟩:=hr.run rfl;exact⟨n,h',hn⟩
 cases o with
 | @n e' h' ms B A hq=>
   obtain⟨ha,l,hl,j⟩:=hq;obtain⟨x,hx,hr⟩:=go (fun _ _ _ _ d=>by cases d);cases hx with|n _ _ _ xs _=>
   exact fin _ _ (hr.trans (.trans (.one rfl) (back _ _ _ _ _ _ A ha hl _))) j
 |x _ hq=>exact hq.elim
 | @r e' h' ms B A hq=>
   obtain⟨ha,l,hl,j⟩:=hq;obtain⟨x,hx,hr⟩:=go (fun _ _ _ _ d=>by cases d);cases hx with
   |r _ _ _ td xs _=>exact fin _ _ (hr.trans (back _ _ _ _ _ _ A ha hl _)) j
 |p _ hq=>exact hq.2.elim
theorem SH.start:SH (fun _=>none) hI []:=⟨WF.start,fun _ _ h=>(by cases h),fun i a b h=>(by simp at h),fun i j a b c h=>(by simp at h)⟩
theorem Ng {P:Program} (hN:ou P=true) (O:mr P F) (Z:∀f g,F f≠some (.cA g)) {f:Nat} {fn:fO} (R:F f=some (.code fn)) {args:List V} {ce:List Value} {v:V} (ha:bd (fun _=>none) args ce)
 (hw:SW F ⟨⟨f,fn.nt,false,none⟩,fun _=>True⟩ fn.body (fT 0 args) (fun _=>none) [] (mz fn.res (fun u _ _=>u=v) never)) (w:World):
 Calls P f ce.toArray w fun e w'=>∃c U,e=.returned c/\VR U v c/\Kept w w'/\w'.tape=w.tape/\w.drawn<=w'.drawn:=by
 intro bh;have hc:=O.code f fn R;have ag:WC F ⟨⟨f,fn.nt,false,none⟩,fun _=>True⟩ fn.body (fT 0 args) hI (qS fn.res (fun u _=>u=v) (fun _ _=>False)):=by
  refine WC.mono (Q:=(mz fn.res (fun u _ _=>u=v) never).at (fun _=>none) []) ?_ ?_ ?_ ?_ (hw [] hI (by simpa using SH.start))
  ·rintro B h' ms ⟨ψ,D,o,aj,l,j,d⟩;obtain⟨M,A⟩:=iU ms aj;obtain⟨ak,W,ah,k2,I⟩:=d _ _ A;exact⟨M,l,j _ _ A,I⟩
  ·rintro i B h' ms ⟨ψ,D,o,aj,j⟩;exact j.elim
  ·rintro B h' ms ⟨ψ,D,o,aj,l,j,d⟩;obtain⟨M,A⟩:=iU ms aj;obtain⟨ak,W,ah,k2,I⟩:=d _ _ A;exact⟨M,l,j _ _ A,I⟩
  ·rintro B u h' ms ⟨ψ,D,o,aj,j⟩;exact j.elim
 obtain⟨n,h',ae⟩:=Nf R ag;have ai:aS ⟨P,w,w.heap.size,true⟩ (fun _=>none) (fun _=>False) hI [] w:=by
  have no:∀(a:Pa) (L:Loc),(fun _=>none:AM) a=some L->False:=fun a L h=>by cases h
  exact{fQ:=fun a L h=>(no a L h).elim,aw:=fun a L h=>(no a L h).elim,inj:=fun a _ L _ h=>(no a L h).elim,live:=fun a L _ h=>(no a L h).elim,wr:=fun a L _ h=>(no a L h).elim,
        low:=fun i _=>rfl,size:=aB _,still:=kz.refl _ w,fresh:=fun a _=>by(show T.E.get a=none);cases a<;>rfl,gS:=fun a x h=>by(simp[eX]at h)}
 have G:=pA (C:=⟨P,w,w.heap.size,true⟩) (U:=fun _=>none) (h:=hI) (m:=0) (f:=f) hc (args:=args) (ce:=ce) ha false;have ab:Rel ⟨P,w,w.heap.size,true⟩ bh f (enter fn f args false) [] hI [] (lone (Frame.enter P f ce.toArray .normal) bh w):=
  ⟨_,_,w,0,_,_,rfl,ai,cS _,G.1,by rw[G.2.1,G.2.2];exact .nil 0⟩
 have S:=sx (C:=⟨P,w,w.heap.size,true⟩) (bh:=bh) (f0:=f) F (vo P) ⟨O,fun f g h=>(Z f g h).elim⟩ (vp hN) n ab;rw[ae]at S;obtain⟨co,w',c,ac,am,al,o,aj,j,d,Y⟩:=S;exact⟨.returned c,w',co,⟨c,ac,rfl,Y,⟨d.size,fun i hi=>d.low i hi,d.still.1,d.still.2.1⟩,(d.still.2.2 rfl).1,(d.still.2.2 rfl).2⟩,o,aj,j⟩
end
end Go.Ev
namespace Go.Ev
open Go
def isUnit:Nx->Bool
 |.done v _=>match v with
  |.aN l=>match l with
   |[]=>true
   |_::_=>false
  |_=>false
 |_=>false
theorem Nh {P:Program} (hN:ou P=true) {f:Nat} {fn:fO} (hc:ea P f=some fn) {args:List V} {ce:List Value} (ha:bd (fun _=>none) args ce) {n:Nat} (d:isUnit (run (fun i=>(ea P i).map .code) n (enter fn f args false) [] hI [])=true) (w:World):
 Calls P f ce.toArray w fun e w'=>e=.returned (.tuple #[])/\Kept w w':=by
 intro bh;have L:aS ⟨P,w,w.heap.size,false⟩ (fun _=>none) (fun _=>False) hI [] w:=aS.start P w;have A:=pA (C:=⟨P,w,w.heap.size,false⟩) (U:=fun _=>none) (h:=hI) (m:=0) (f:=f) hc (args:=args) (ce:=ce) ha false;have I:Rel ⟨P,w,w.heap.size,false⟩ bh f (enter fn f args false) [] hI [] (lone (Frame.enter P f ce.toArray .normal) bh w):=
  ⟨_,_,w,0,_,_,rfl,L,cS _,A.1,by rw[A.2.1,A.2.2];exact .nil 0⟩
 have B:=sx (C:=⟨P,w,w.heap.size,false⟩) (bh:=bh) (f0:=f) (fun i=>(ea P i).map .code) (vo P) ((vg P).c rfl) (vp hN) n I;generalize run (fun i=>(ea P i).map .code) n (enter fn f args false) [] hI []=r at d B;cases r with
 |go=>simp[isUnit]at d
 |bad=>simp[isUnit]at d
 |done v h'=>
  simp only[isUnit]at d;cases v<;>simp only at d<;>(try(cases d;done))
  rename_i l;cases l with
  |cons=>cases d
  |nil=>
   obtain⟨co,w',c,ac,O,M,o,aj,D,j,F⟩:=B;cases F with
   |aN _ _ G=>
    cases G;exact⟨.returned (.tuple #[]),w',co,⟨rfl,j.size,fun i hi=>j.low i hi,j.still.1,j.still.2.1⟩,o,aj,D⟩
end Go.Ev
namespace Go.Ev
open Go
noncomputable def B9 (h:Hp):Fz:=fun a=>h.get a
theorem SH.all {h:Hp} (wf:WF h):SH (B9 h) h []:=⟨wf,fun _ _ h=>h,fun i a b h=>(by simp at h),fun i j a b c h=>(by simp at h)⟩
theorem Ni {h:Hp} {a:Pa} {l:List V} (hc:h.cells a=some l):∃b,h.get a=some b/\b.rd=some l:=by
 unfold bn.cells at hc;cases j:h.get a with
 |none=>rw[j]at hc;cases hc
 |some b=>
  rw[j]at hc;refine⟨b,rfl,?_⟩;cases b with
  |cells m d=>cases d<;>simp_all [ak.rd]
  |ro m=>simp_all [ak.rd]
  |map es c=>simp at hc
  |loop r=>simp at hc
  |c4 l=>simp at hc
theorem FS.Nj {h:Hp} {v:V} {k n:Nat} {cs:List V} (hs:Sl h v k n cs) (hc:y3 v k):FS (B9 h) v k n cs:=by
 refine⟨hs.1,?_⟩;rcases hs.2 with o|⟨a,I,c,rfl,l,aj,d⟩
 ·exact .inl o
 ·obtain⟨b,j,A⟩:=Ni aj;refine .inr ⟨a,I,c,b,l,rfl,j,A,d,?_⟩;cases c<;>exact hc
theorem Nk {P:Program} {F:Nat->Option aP} (hN:ou P=true) (L:mr P F) {f:Nat} {fn:fO} (M:F f=some (.code fn)) {args:List V} {ce:List Value} {w:World} {U:AM} {Λ:Pa->Prop} {h0:Hp} {O:Fz}
 (S:aS ⟨P,w,w.heap.size,false⟩ U Λ h0 [] w) (ha:bd U args ce) (sh:SH O h0 [])
 (hw:SW F ⟨⟨f,fn.nt,false,none⟩,fun _=>True⟩ fn.body (fT 0 args) O [] (mz fn.res (fun u _ _=>u=.bool true) never)):
 Calls P f ce.toArray w fun e w'=>e=.returned (.bool true)/\Kept w w':=by
 refine FY hN L M S ha (WC.mono (Q:=(mz fn.res (fun u _ _=>u=.bool true) never).at O []) ?_ ?_ ?_ ?_ (hw [] h0 (by simpa using sh)))
 ·rintro j h' ms ⟨ψ,A,o,aj,l,d,B⟩;obtain⟨G,h⟩:=iU ms aj;obtain⟨W,I,R,k2,D⟩:=B _ _ h;exact⟨G,l,d _ _ h,D⟩
 ·rintro i j h' ms ⟨ψ,A,o,aj,d⟩;exact d.elim
 ·rintro j h' ms ⟨ψ,A,o,aj,l,d,B⟩;obtain⟨G,h⟩:=iU ms aj;obtain⟨W,I,R,k2,D⟩:=B _ _ h;exact⟨G,l,d _ _ h,D⟩
 ·rintro j u h' ms ⟨ψ,A,o,aj,d⟩;exact d.elim
end Go.Ev
