/- A part of the proof of glacislaw13.LiveOnce. -/
import Derived.Test.YtebhegkangheiaaGreatDoorOJ
set_option maxHeartbeats 8000000
namespace Go.Ev
variable{F:Nat->Option aP} {O:Fz}
theorem Ly {v:aV} {s:eC} (o:¬s.kind<=7) (aj:s.kind<=10):eP v s=v:=by unfold eP;rw[ab o,ae aj]
theorem Lz {v:aV} {s:eC} (o:¬s.kind<=7) (aj:¬s.kind<=10):eP v s=fG v s:=by unfold eP;rw[ab o,ab aj]
theorem LA [Fx F] {d wv o lx wx tx L:V} {v x:aV} {w:Bs} {s:eC} {eq:List Bool} (hv:bR O (bf d wv o v) v) (I:VG v) (hx:bR O (bf lx wx tx x) x) (hk:aa lJ O L eq) (a2:rA s) (bx:s.v=0) (bW:1<=s.kind) (br:s.kind<=15):
 ai F 72 [.agg (fH d wv o v lx wx tx x w),.agg (kU s L)] O [] (fun r ψ R=>R=[]/\∃A D ty l,r=.aN [.agg (fH A D ty (eP v s) lx wx tx x w),.agg l]/\bR ψ (bf A D ty (eP v s)) (eP v s)/\bR ψ (bf lx wx tx x) x/\p5 ψ l) never:=by
 have bD:=hx;obtain⟨_,_,_,ev,hl,hw,ht⟩:=hv;obtain⟨rfl,rfl,rfl⟩:d=_/\wv=_/\o=_:=by simp only[bf,nV]at ev;exact⟨ev.1,ev.2.1,ev.2.2.2.2.2.2.2.2.2.2.2.1⟩
 have hv:bR O (bf d wv o v) v:=⟨_,_,_,rfl,hl,hw,ht⟩
 obtain⟨_,_,_,ex,a1,a7,a6⟩:=hx;obtain⟨rfl,rfl,rfl⟩:lx=_/\wx=_/\tx=_:=by simp only[bf,nV]at ex;exact⟨ex.1,ex.2.1,ex.2.2.2.2.2.2.2.2.2.2.2.1⟩
 have hx:bR O (bf lx wx tx x) x:=bD;have sl:=hl.ax;have aw:=hw.ax;have st:=ht.ax;have ac:=a1.ax;have aj:=a7.ax;have ah:=a6.ax;have bZ:=hk.ax;have aH:=rD (v:=v) (x:=x) (w:=w) sl aw st ac aj ah;have au:kU s L=[.j s.kind,.j 0,.j s.id,.j s.mode,.j s.off,.str s.path,.str s.dst,.str s.text,L]:=by unfold kU;rw[bx]
 rw[au];have bn:=hl.c7;have bA:=hw.c7;have bs:=ht.c7;have bo:=a1.c7;have bB:=a7.c7;have bv:=a6.c7;refine ar ?_;refine S.box fun aR=>?_;refine S.box fun a3=>?_;refine S.alloc fun a4=>?_;refine S.alloc fun a5=>?_;refine S.ld 2 ?_;refine S.bin ?_;refine G.aD ?_;refine G.ld 2 ?_;refine G.bin ?_;refine G.or ?_;refine G.aD ?_;refine G.ld 2 ?_;refine G.bin ?_;refine G.or ?_;refine G.aD ?_;refine G.ld 2 ?_;refine G.bin ?_;refine G.or ?_;refine C.B (fun az=>?_) fun az=>?_
 ·exfalso;rw[cx,cx,cx]at az;simp at az;omega
 ·refine S.ld 2 ?_;refine S.pH (j:=0) (by omega) ?_;refine S.ag 3 ?_ (l:=bf d wv o v);refine S.alloc fun bP=>?_;refine S.store (v:=.agg (bf d wv o v)) 0 ?_ (hs:=cp sl aw st);refine S.build ?_;refine S.alloc fun bQ=>?_;refine S.store 0 ?_;refine S.ld 4 ?_;refine S.bin ?_;refine C.B (fun aA=>?_) fun aA=>?_
  ·have Z:s.kind<=7:=by simpa using aA
   refine S.ag 1 ?_ (l:=bf d wv o v);refine S.ag 4 ?_ (l:=[.j s.kind,.j 0,.j s.id,.j s.mode,.j s.off,.str s.path,.str s.dst,.str s.text,L]);refine S.call (wq hv I.b.trees) fun b1 ca bJ aM aC=>?_;obtain⟨rfl,aC⟩:=aC;have hv:=hv.mono aM;have hx:=hx.mono aM;have hk:=hk.mono aM;refine S.dg 4 ?_ (l:=[.j s.kind,.j 0,.j s.id,.j s.mode,.j s.off,.str s.path,.str s.dst,.str s.text,L]) (hs:=by simp[same,b9,e0,fx,oU,hk.c7]);refine S.call (by have:=Lv (F:=F) aC I.head a2 hk.ax;rw[au]at this;exact this) fun b2 cb bK aO bg=>?_;obtain⟨rfl,u,rfl,hu⟩:=bg;have hv:=hv.mono aO;have hx:=hx.mono aO;have hk:=hk.mono aO;refine S.bin ?_;refine C.B (fun aB=>?_) fun aB=>?_
   ·have e:eP v s=v:=by unfold eP;rw[ae Z,ae (by simpa using aB)]
    rw[e];refine S.ag 5 ?_ (l:=fH d wv o v lx wx tx x w);refine S.al (A7 sl aw st ac aj ah) ?_;refine S.store (v:=.agg (fH d wv o v lx wx tx x w)) 3 ?_ (hs:=aH);refine S.store 2 ?_;exact⟨_,.cN 3 rfl rfl rfl rfl (.cN 2 rfl rfl rfl rfl .nil),.none ⟨rfl,d,wv,o,_,rfl,hv,hx,.plain _ _⟩⟩
   ·have e:eP v s={v with trees:=jj v.trees (e4 (dD v.trees) s).1}:=by unfold eP;rw[ae Z,ab (by simpa using aB)]
    rw[e];refine S.ag 1 ?_ (l:=bf d wv o v);refine S.call (AF hv I.b.trees hu (Lu (ry I.head) s)) fun b3 cc bL aP bh=>?_;obtain⟨rfl,bT,rfl,aK⟩:=bh;obtain⟨Y,aF⟩:∃Y,Y={v with trees:=jj v.trees (e4 (dD v.trees) s).1}:=⟨_,rfl⟩
    rw[<-aF]at aK⊢;have hv:=hv.mono aP;have hx:=hx.mono aP;have hk:=hk.mono aP;obtain⟨A,D,ty,rfl,bp,bC,bw,M,U,Q,bl⟩:=aK.open;have aI:=rD (v:=Y) (x:=x) (w:=w) M U Q ac aj ah;refine S.store (v:=.agg (bf A D ty Y)) 1 ?_ (hs:=cp M U Q);refine S.ld 4 ?_;refine S.ag 1 ?_ (l:=bf A D ty Y);refine S.pH (j:=0) (by omega) ?_;refine S.store (v:=.agg (bf A D ty Y)) 5 ?_ (hs:=cp M U Q);refine S.ag 5 ?_ (l:=fH A D ty Y lx wx tx x w);refine S.ag 0 ?_;refine S.store (v:=.agg (fH A D ty Y lx wx tx x w)) 3 ?_ (hs:=aI);refine S.dg 0 ?_ (hs:=by simp[same,b9,e0,fx,oU,hk.c7]);refine S.store 2 ?_;exact⟨_,.cN 3 rfl rfl rfl rfl (.cN 2 rfl rfl rfl rfl .nil),.none ⟨rfl,A,D,ty,_,rfl,aK,hx,.plain _ _⟩⟩
  ·have Z:¬s.kind<=7:=by simpa using aA
   refine S.ld 4 ?_;refine S.bin ?_;refine C.B (fun am=>?_) fun am=>?_
   ·have e:eP v s=v:=Ly Z (by simpa using am);rw[e];refine S.ag 1 ?_ (l:=bf d wv o v);refine S.call (wq hv I.b.trees) fun b4 cd bM aQ aE=>?_;obtain⟨rfl,aE⟩:=aE;have hv:=hv.mono aQ;have hx:=hx.mono aQ;have hk:=hk.mono aQ;refine S.ld 4 ?_;refine S.bin ?_;refine SW.oB (fun E ψ R=>∃(u:V) (t:ao),aa aG ψ u t/\bI t/\bR ψ (bf d wv o v) v/\bR ψ (bf lx wx tx x) x/\aa lJ ψ L eq/\R=[(some a5,.cells [.j 0,.str [],.j 0,.j 0,.j 0,.j 0,.j 0,.no .sl,.j 0] false),(some a4,.cells [.no .sl,.no .sl,.j 0,.bool false,.j 0,.j 0,.j 0,.j 0,.j 0,.j 0,.j 0,.no .sl,.no .sl,.no .sl,.j 0,.bool false,.j 0,.j 0,.j 0,.j 0,.j 0,.j 0,.j 0,.no .sl,.str []] false),(some a3,.cells [.j s.kind,.j 0,.j s.id,.j s.mode,.j s.off,.str s.path,.str s.dst,.str s.text,L] false),(some aR,.cells (fH d wv o v lx wx tx x w) false)]/\Sub [(2,.ptr aR 0),(3,.ptr a3 0),(4,.ptr a4 0),(5,.ptr a5 0),(10,u)] E) ?_ ?_
    ·refine C.B (fun bc=>?_) fun bc=>?_
     ·refine S.ag 1 ?_ (l:=bf d wv o v);refine S.ld 4 ?_;refine S.call (tv (kind:=3) (id:=s.id) hv I.b.trees) fun b5 ce bN bY bi=>?_;obtain⟨rfl,rfl,w0,rfl,bz,aL⟩:=bi;have b6:=w0.2.2;obtain⟨X,aZ⟩:∃X,X=iz v.trees 3 s.id:=⟨_,rfl⟩
      rw[<-aZ]at bz aL⊢;refine S.alloc fun bO=>?_;refine S.store (v:=.agg (eA.f w0)) 0 ?_ (hs:=eA.sc w0);refine S.un ?_;refine C.B (fun aX=>?_) fun aX=>?_
      ·refine S.ag 6 ?_ (l:=fH d wv o v lx wx tx x w);refine S.al (A7 sl aw st ac aj ah) ?_;refine S.store (v:=.agg (fH d wv o v lx wx tx x w)) 4 ?_ (hs:=aH);refine S.store 3 ?_;exact⟨_,.cN 4 rfl rfl rfl rfl (.cN 3 rfl rfl rfl rfl .nil),.none ⟨rfl,d,wv,o,_,rfl,hv,hx,.plain _ _⟩⟩
      ·obtain⟨h,rfl⟩:∃z,X=some z:=eS.1 (by simpa using aX);change aa aG _ w0.2.1 h.t at aL;have bm:=ry (I.may h (AE aZ.symm));refine S.ld 0 ?_;exact .drop 0 (.drop 0 (.drop 0 (.done ⟨_,_,aL,bm,hv,hx,hk,rfl,.r rfl⟩)))
     ·exact .drop 0 (.drop 0 (.done ⟨_,_,aE,ry I.head,hv,hx,hk,rfl,.r rfl⟩))
    intro E ψ R bV bk;obtain⟨u,t,hu,bt,hv,hx,hk,rfl,bj⟩:=bk;refine C.sub bj ?_;refine S.ag 3 ?_ (l:=fH d wv o v lx wx tx x w);refine S.ag 2 ?_;refine S.call (by have:=Lw (F:=F) hu bt a2 hk.ax;rw[au]at this;exact this) fun b0 b7 bG a8 bd=>?_;obtain⟨rfl,bE,rfl,ha⟩:=bd;have hv:=hv.mono a8;have hx:=hx.mono a8;obtain⟨ap,ay,a0,ak,Pq,an,f0,av,bb,n0,rfl,W⟩:=ha;have bF:=W.ax;refine S.dg 3 ?_ (hs:=by simp[fH,same,b9,e0,fx,kL,bn,bA,bs,bo,bB,bv]);refine S.store (v:=.agg (fH d wv o v lx wx tx x w)) 1 ?_ (hs:=aH);refine S.store (v:=.agg [.j ap,.str ay,.j a0,.j ak,.j Pq,.j an,.j f0,av,.j n0]) 0 ?_;exact⟨_,.cN 1 rfl rfl rfl rfl (.cN 0 rfl rfl rfl rfl .nil),.none ⟨rfl,d,wv,o,_,rfl,hv,hx,_,_,_,_,_,_,_,_,_,_,rfl,W⟩⟩
   ·have e:eP v s=fG v s:=Lz Z (by simpa using am);have bU:¬s.kind<=10:=by simpa using am
    rw[e];refine S.ld 4 ?_;refine S.bin ?_;refine C.B (fun aS=>?_) fun aS=>?_
    ·exfalso;simp at aS;omega
    ·refine S.ld 4 ?_;refine S.bin ?_;refine C.B (fun aT=>?_) fun aT=>?_
     ·exfalso;simp at aT;omega
     ·refine S.ld 4 ?_;refine S.bin ?_;refine C.B (fun aU=>?_) fun aU=>?_
      ·exfalso;simp at aU;omega
      ·refine S.ld 4 ?_;refine S.bin ?_;refine C.B (fun aW=>?_) fun aW=>?_
       ·exfalso;simp at aW;omega
       ·refine S.ag 1 ?_ (l:=bf d wv o v);refine S.ag 4 ?_;refine S.call (by have:=Lx (F:=F) (s:=s) hv I hk.ax (by omega) br;rw[au]at this;exact this) fun v50 b8 bH ba be=>?_;obtain⟨rfl,bS,bE,rfl,aJ,ha⟩:=be;obtain⟨Y,aF⟩:∃Y,Y=fG v s:=⟨_,rfl⟩
        rw[<-aF]at aJ⊢;have hx:=hx.mono ba;have hk:=hk.mono ba;obtain⟨ap,ay,a0,ak,Pq,an,f0,av,bb,n0,rfl,W⟩:=ha;have bF:=W.ax;obtain⟨A,D,ty,rfl,bp,bC,bw,M,U,Q,bl⟩:=aJ.open;have aI:=rD (v:=Y) (x:=x) (w:=w) M U Q ac aj ah;refine S.store (v:=.agg (bf A D ty Y)) 1 ?_ (hs:=cp M U Q);refine S.store (v:=.agg [.j ap,.str ay,.j a0,.j ak,.j Pq,.j an,.j f0,av,.j n0]) 0 ?_;refine S.ld 4 ?_;refine S.ag 1 ?_ (l:=bf A D ty Y);refine S.pH (j:=0) (by omega) ?_;refine S.store (v:=.agg (bf A D ty Y)) 5 ?_ (hs:=cp M U Q);refine S.ag 5 ?_ (l:=fH A D ty Y lx wx tx x w);refine S.ag 0 ?_;refine S.store (v:=.agg (fH A D ty Y lx wx tx x w)) 3 ?_ (hs:=aI);refine S.dg 0 ?_ (hs:=by simp[same,b9,e0,fx,W.c7]);refine S.store (v:=.agg [.j ap,.str ay,.j a0,.j ak,.j Pq,.j an,.j f0,av,.j n0]) 2 ?_;exact⟨_,.cN 3 rfl rfl rfl rfl (.cN 2 rfl rfl rfl rfl .nil),.none ⟨rfl,A,D,ty,_,rfl,aJ,hx,_,_,_,_,_,_,_,_,_,_,rfl,W⟩⟩
theorem A8 {q:cy} {a m:Int} (ha:0<=a) (_hb:a<=4294967296) (hm:0<m):b0 .rem q (.j a) (.j m)=some (.j (a%m)):=by
 show(bif cr .i64 .i64 then(bif gh m 0 then none else some (V.j (a.tmod m)))else none)=_;have aj:gh m 0=false:=by rw[h3];simp;omega
 rw[show cr .i64 .i64=true from rfl,aj,aE,bw,xu ha]
theorem LB {q:cy} (a b:UInt8):b0 .add q (cz a) (cz b)=some (cz (a+b)):=by
 show some (V.int .u8 (ek .u8 (qp (a.toNat:Int) (b.toNat:Int))))=some (V.int .u8 (Int.ofNat (a+b).toNat));have h:ek .u8 ((a.toNat:Int)+(b.toNat:Int))=(((a.toNat+b.toNat)%256:Nat):Int):=by rw[nr];simp[IntKind.wrap,IntKind.signed,IntKind.bits]
 rw[uE,h];congr 2
theorem gb (l:Bs) (n:Nat) {m:Int} (hm:0<m):0<=(aM l n m).1/\(aM l n m).1<m:=by
 unfold aM;split
 ·exact⟨ej 0,hm⟩
 ·exact⟨Int.emod_nonneg _ (by omega),Int.emod_lt_of_pos _ hm⟩
namespace G
variable{F:Nat->Option aP} {K:KX} {E:Env} {O:Fz} {R:List Ob} {Q:bz} {rs:List Op} {d:Nat} {g:Option (Pa×Bool)} {b:Bool}
theorem LC [eY K] {n:Nat} {xs:List Od} {vs:List V} {v:V} {I:Ob} (hi:R[0]? =some I) (hc:b=true->ai F n vs O [I] (fun r ψ R=>ψ=O/\r=v/\R=[I]) never) (hn:SA F K rs ((d,gv b v)::E) O R Q) (j:Gd E g b:=by first|exact .y rfl|exact .n rfl|exact .yg rfl|exact .ng rfl) (hx:nE E b xs vs:=by repeat(first|exact .nil|refine .cons (.g rfl) ?_|refine .cons (.gl rfl) ?_|refine .cons (.u (.t rfl)) ?_|refine .cons (.u .c) ?_)):SR F K (.op ⟨some (pa d),aI n xs,g⟩::Op.aK rs) E O R Q:=by
 cases b with
 |false=>exact S.no j hn
 |true=>
  intro W h sh;rcases hc rfl (R.eraseIdx 0++W) h (by simpa using sh.front hi)with⟨r,h',o,ψ,B,aj,A,rfl,rfl,rfl⟩|⟨_,_,_,_,_,_,_,h⟩
  ·refine ad.call j (hx.is rfl) o (S.r hn W h' ?_);cases R with
   |nil=>cases hi
   |cons p R=>simp only[gd,aL]at hi;subst hi;simpa using A
  ·exact h.elim
end G
def gH (a:Pa) (d:V) (n:Nat):Ob:=(some a,.cells [d,.j (n:Int)] false)
theorem A9 [Fx F] {d:V} (hs:isScalar d=true):ai F 9 [d] O [] (fun r ψ R=>ψ=O/\∃a,r=.ptr a 0/\R=[gH a d 0]) never:=by
 refine ar ?_;refine S.build ?_ (l:=[d,.j 0]);refine S.box fun a5=>?_;exact⟨_,.t rfl .nil,.done ⟨rfl,a5,rfl,rfl⟩⟩
theorem LD [Fx F] {d:V} {l:Bs} {a:Pa} {n:Nat} (hl:aa aU O d l) (h:l.length<=1000):ai F 34 [.ptr a 0] O [gH a d n] (fun r ψ R=>ψ=O/\r=.bool (decide (l.length<=n))/\R=[gH a d n]) never:=by
 have sl:=hl.ax;refine ar ?_;refine S.ld 0 ?_;refine S.ld 0 ?_;refine S.len ?_ (hl:=aa.len hl);refine S.bin ?_;refine⟨_,.t rfl .nil,.done ⟨rfl,?_,rfl⟩⟩;show V.bool (decide ((l.length:Int)<=(n:Int)))=_;rw[show decide ((l.length:Int)<=(n:Int))=decide (l.length<=n)from decide_eq_decide.2 (by omega)]
theorem iC [Fx F] {d:V} {l:Bs} {a:Pa} {n:Nat} {m:Int} (hl:aa aU O d l) (A:l.length<=1000):ai F 73 [.ptr a 0,.j m] O [gH a d n] (fun r ψ R=>ψ=O/\r=.j (aM l n m).1/\R=[gH a d (aM l n m).2]) never:=by
 have sl:=hl.ax;refine ar ?_;refine S.ld 0 ?_;refine S.ld 0 ?_;refine S.len ?_ (hl:=aa.len hl);refine S.bin ?_;refine G.mv ?_;refine G.bin ?_;refine G.or ?_;refine C.B (fun OY=>?_) fun OY=>?_
 ·have e:aM l n m=(0,n):=by
   unfold aM;rw[ae];simp at OY;rcases OY with h|h
   ·exact .inl h
   ·exact .inr h
  rw[e];exact⟨_,.t rfl .nil,.done ⟨rfl,rfl,rfl⟩⟩
 ·simp at OY;have hn:n<l.length:=by omega
  have e:aM l n m=(((l[n]).toNat:Int)%m,n+1):=by
   unfold aM;rw[ab (by omega),bj hn];(try rfl)
  rw[e];refine S.ld 0 ?_;refine S.bin ?_ (v:=.j ((n+1:Nat):Int)) (hv:=by rw[dz (by omega) (by omega)];(try rfl));refine S.store 0 ?_;refine S.ld 0 ?_;refine S.ld 0 ?_;refine S.bin ?_ (v:=.j (n:Int)) (hv:=by rw[fU (by omega) (by omega),show(((n+1:Nat):Int)-1)=(n:Int) by omega]);refine S.aF hl hn fun D o=>?_;refine S.a1 ?_;refine S.iY ?_;refine S.bin ?_ (hv:=A8 (by omega) (by have:=o7 l[n];omega) (by omega));exact⟨_,.t rfl .nil,.done ⟨rfl,rfl,rfl⟩⟩
theorem wQ [Fx F] {o:V} {l:Bs} {a:Pa} {n:Nat} (hl:aa aU O o l) (G:l.length<=1000):ai F 74 [.ptr a 0] O [gH a o n] (fun r ψ R=>ψ=O/\r=.str (fk l n).1/\R=[gH a o (fk l n).2]) never:=by
 have sl:=hl.ax;refine ai.same (ar ?_);refine S.pO (e:=dA) p3 fun v3 Y I B=>?_;have hl:=hl.mono I;refine S.ba 0 rfl (iC (n:=n) (m:=15) hl G) fun v5 Z L U d=>?_;obtain⟨d,rfl,rfl⟩:=d;have d:=d.symm;subst d;obtain⟨h,A⟩:∃j:Nat,(aM l (n) 15).1=(j:Int):=⟨(aM l (n) 15).1.toNat,by have:=(gb l (n) (m:=15) (by omega)).1;omega⟩
 have D:=(gb l (n) (m:=15) (by omega)).2;rw[A]at D⊢;refine S.aF B (j:=h) (by show h<15;omega) fun W M=>?_;refine S.a1 ?_;have Q:p3.length=15:=rfl;have e:fk l n=(p3[h]'(by omega),(aM l n 15).2):=by unfold fk;rw[A,hC,bj (by omega)];(try rfl)
 rw[e];exact⟨_,.t rfl .nil,.done ⟨rfl,rfl⟩⟩
set_option maxHeartbeats 1000000
def wR:List Int:=nO.map Int.ofNat
theorem Ba {j:Nat} (h:j<nO.length):nO[j]<=121:=by
 have:∀x∈nO,x<=121:=by decide
 exact this _ (cw h)
theorem LF [Fx F] {B:V} {l:Bs} {a:Pa} {n:Nat} (hl:aa aU O B l) (U:l.length<=1000):ai F 97 [.ptr a 0] O [gH a B n] (fun r ψ R=>ψ=O/\r=.str (kS l n).1/\R=[gH a B (kS l n).2]) never:=by
 have sl:=hl.ax;refine ai.same (ar ?_);refine S.pO (e:=bt) wR fun aH am ak ab=>?_;have hl:=hl.mono ak;refine S.ba 0 rfl (iC (n:=n) (m:=8) hl U) fun v9 aJ ao aB o=>?_;obtain⟨o,rfl,rfl⟩:=o;have o:=o.symm;subst o;obtain⟨A,Q⟩:∃j:Nat,(aM l (n) 8).1=(j:Int):=⟨(aM l (n) 8).1.toNat,by have:=(gb l (n) (m:=8) (by omega)).1;omega⟩
 have ah:=(gb l (n) (m:=8) (by omega)).2;rw[Q]at ah⊢;have az:nO.length=8:=rfl;obtain⟨k,hk⟩:∃k,k=nO[A]'(by omega):=⟨_,rfl⟩
 have aw:k<=121:=by rw[hk];exact Ba (by omega)
 have aj:wR[A]'(by show A<8;omega)=(k:Int):=by rw[hk];simp[wR]
 refine S.aF ab (j:=A) (by show A<8;omega) fun aD au=>?_;refine S.a1 ?_;rw[aj];refine S.oE (e:=aU) (0:UInt8) (n:=k) (by omega) (by omega) fun d aC=>?_;refine S.ba 1 rfl (iC (n:=(aM l n 8).2) (m:=26) hl U) fun aE aI an aA h=>?_;obtain⟨h,rfl,rfl⟩:=h;have h:=h.symm;subst h;have hc:=gb l (aM l n 8).2 (m:=26) (by omega);refine S.bin ?_;refine S.mH ?_;obtain⟨G,W⟩:∃G,G=(aM l (aM l n 8).2 26).2:=⟨_,rfl⟩
 obtain⟨cc,M⟩:∃cc,cc=bM (97+(aM l (aM l n 8).2 26).1):=⟨_,rfl⟩
 rw[<-W,<-M];refine SW.bF (fun m E ψ R=>∃(j:Nat) (out:List UInt8),j+m=k/\out.length=k/\(∀i:Nat,i<j->out[i]? =some (cc+bM ((i%3:Nat):Int)))/\am=ψ/\R=[gH a B G,aU.ob (some d) out]/\Sub [(3,.j (k:Int)),(4,.sl d 0 k (.ex k)),(5,cz cc),(6,.j (j:Int))] E) (m:=k) (.done ⟨0,_,by omega,by simp,fun i hi=>absurd hi (by omega),rfl,rfl,.r rfl⟩) ?_;intro al E ψ R ay ag;obtain⟨j,out,av,I,Y,rfl,rfl,ac⟩:=ag;refine C.sub ac ?_;refine S.bin ?_;refine C.D (fun Pb=>?_) fun Pb=>?_
 ·have hj:j<k:=by omega
  have L:af aU (.sl d 0 k (.ex k)) out (some d):=af.new I;refine S.bin ?_ (v:=.j ((j%3:Nat):Int)) (hv:=by rw[A8 (by omega) (by omega) (by omega)];(try rfl));refine S.mH ?_;refine S.bin ?_ (v:=cz (cc+bM ((j%3:Nat):Int))) (hv:=LB _ _);refine S.ct L (by omega) (fun ap Z=>?_) (j:=j);cases Z;refine S.kK (e:=aU) (l:=out) (j:=j) (cc+bM ((j%3:Nat):Int)) 1 ?_;refine S.bin ?_;exact⟨al-1,by omega,.done ⟨j+1,_,by omega,by rw[pb];exact I,fun i hi=>by
   rw[kn];split
   ·rename_i he;subst he;rw[ae (by omega)]
   ·exact Y i (by omega),rfl,rfl,.r rfl⟩⟩
 ·obtain rfl:j=k:=by omega
  have L:af aU (.sl d 0 j (.ex j)) out (some d):=af.new I;have e:kS l n=(out,G):=by
   unfold kS;simp only[Q,hC];rw[bj (by omega),<-W];simp only[kq];rw[<-hk];have:out=tG j (aM l (aM l n 8).2 26).1:=by
    refine qc fun i=>?_;unfold tG;rw[<-M];by_cases hi:i<j
    ·rw[Y i hi];simp[hi]
    ·rw[o4 (by omega),o4 (by simp;omega)]
   rw[this]
  rw[e];refine S.hM 1 L ?_;exact⟨_,.t rfl .nil,.only 0 ⟨rfl,rfl⟩⟩
set_option maxHeartbeats 4000000
theorem rE {l:List Int} {j:Nat} (h:j<l.length):(l[j]?).getD 0=l[j]:=by rw[bj h];(try rfl)
theorem LG [Fx F] {an:V} {l:Bs} {a:Pa} {n:Nat} (hl:aa aU O an l) (h:l.length<=1000):ai F 56 [.ptr a 0] O [gH a an n] (fun r ψ R=>ψ=O/\r=.agg (kU (mM l n).1 (.no .sl))/\R=[gH a an (mM l n).2]) never:=by
 have sl:=hl.ax;refine ar ?_;refine S.alloc fun aw=>?_;refine S.a8 fun a4=>?_;refine S.alloc fun a3=>?_;refine S.ba 3 rfl (iC (n:=n) (m:=12) hl h) fun bI bS bd bw aj=>?_;obtain⟨aj,rfl,rfl⟩:=aj;have aj:=aj.symm;subst aj;obtain⟨G,aD⟩:∃j:Nat,(aM l (n) 12).1=(j:Int):=⟨(aM l (n) 12).1.toNat,by have:=(gb l (n) (m:=12) (by omega)).1;omega⟩
 have aQ:=(gb l (n) (m:=12) (by omega)).2;rw[aD]at aQ⊢;have bi:nP.length=12:=rfl;refine S.gZ 1 ?_;refine S.e2 2 ?_;have aT:af bt (.sl a4 0 12 (.ex 12)) nP (some a4):=af.new rfl;refine S.ct aT (j:=G) (by show G<12;omega) fun bg aJ=>?_;cases aJ;refine S.eJ (e:=bt) (l:=nP) (j:=G) 0 2 ?_ (hj:=by show G<12;omega);refine S.ba 0 rfl (wQ (n:=(aM l n 12).2) hl h) fun bx bJ aW bk L=>?_;obtain⟨L,rfl,rfl⟩:=L;have L:=L.symm;subst L;refine S.bE 2 ?_ (hu:=pL (e:=bt) nP G 0 _ rfl);refine S.gZ 1 ?_;refine S.e2 2 ?_;refine S.build ?_;obtain⟨K,az⟩:∃K,K=nP[G]'(by omega):=⟨_,rfl⟩
 obtain⟨P,aA⟩:∃P,P=(fk l (aM l n 12).2).1:=⟨_,rfl⟩
 obtain⟨d,aE⟩:∃d,d=(fk l (aM l n 12).2).2:=⟨_,rfl⟩
 have aF:mM l n=gG l K P d:=by unfold mM;rw[aD,hC,rE (by omega),<-az,<-aA,<-aE]
 rw[aF];rw[<-az,<-aA,<-aE];refine S.store 1 ?_;refine S.ld 1 ?_;refine S.bin ?_;refine C.B (fun O0=>?_) fun O0=>?_
 ·have o:K=1:=by simpa using O0
  refine S.ba 0 rfl (iC (n:=d) (m:=2) hl h) fun bz bK aX bl M=>?_;obtain⟨M,rfl,rfl⟩:=M;have M:=M.symm;subst M;have bh:=gb l d (m:=2) (by omega);refine S.bin ?_;refine S.store 1 ?_;refine S.ba 0 rfl (iC (n:=(aM l d 2).2) (m:=12) hl h) fun bA bL aZ bm Q=>?_;obtain⟨Q,rfl,rfl⟩:=Q;have Q:=Q.symm;subst Q;refine S.bin ?_;refine C.D (fun O2=>?_) fun O2=>?_
  ·have e:gG l K P d=(⟨K,0,0,(aM l (aM l (aM l d 2).2 12).2 4).1,0,P,[],[]⟩,(aM l (aM l (aM l d 2).2 12).2 4).2):=by unfold gG;rw[ae o,ae O2]
   rw[e];refine S.ba 0 rfl (iC (n:=(aM l (aM l d 2).2 12).2) (m:=4) hl h) fun bB bM a1 bn U=>?_;obtain⟨U,rfl,rfl⟩:=U;have U:=U.symm;subst U;refine S.store 1 ?_;refine S.ag 1 ?_;refine S.store 3 ?_;exact⟨_,.cN 3 rfl rfl rfl rfl .nil,.only 0 ⟨rfl,rfl,rfl⟩⟩
  ·have e:gG l K P d=(⟨K,0,0,1+(aM l d 2).1,0,P,[],[]⟩,(aM l (aM l d 2).2 12).2):=by unfold gG;rw[ae o,ab O2]
   rw[e];refine S.ag 1 ?_;refine S.store 3 ?_;exact⟨_,.cN 3 rfl rfl rfl rfl .nil,.only 0 ⟨rfl,rfl,rfl⟩⟩
 ·have o:¬K=1:=by simpa using O0
  refine S.bin ?_;refine SW.oB (fun E ψ R=>∃c:Bool,c=decide (K=2\/K=4)/\O=ψ/\R=[gH a an d,(some a3,.cells [.j K,.j 0,.j 0,.j 0,.j 0,.str P,.str [],.str [],.no .sl] false),(some aw,.cells [.j 0,.j 0,.j 0,.j 0,.j 0,.str [],.str [],.str [],.no .sl] false)]/\Sub [(0,.ptr a 0),(2,.ptr aw 0),(3,.ptr a3 0),(13,.j K),(26,.bool c)] E) ?_ ?_
  ·refine C.B (fun Pj=>?_) fun Pj=>?_
   ·exact .drop 2 (.done ⟨_,by simp at Pj;simp[Pj],rfl,rfl,.r rfl⟩)
   ·refine S.bin ?_;exact .drop 2 (.done ⟨_,by simp at Pj;simp[Pj],rfl,rfl,.r rfl⟩)
  intro E ψ R bj aL;obtain⟨c,hc,rfl,rfl,aK⟩:=aL;refine C.sub aK ?_;refine C.B (fun I=>?_) fun I=>?_
  ·have k2:K=2\/K=4:=by rw[hc]at I;simpa using I
   have e:gG l K P d=(⟨K,0,0,0,0,P,(fk l d).1,[]⟩,(fk l d).2):=by unfold gG;rw[ab o,ae k2]
   rw[e];refine S.ba 0 rfl (wQ (n:=d) hl h) fun bC bN a2 bo W=>?_;obtain⟨W,rfl,rfl⟩:=W;have W:=W.symm;subst W;refine S.store 1 ?_;refine S.ag 1 ?_;refine S.store 2 ?_;exact⟨_,.cN 2 rfl rfl rfl rfl .nil,.only 0 ⟨rfl,rfl,rfl⟩⟩
  ·have k2:¬(K=2\/K=4):=by rw[hc]at I;simpa using I
   refine S.bin ?_;refine C.B (fun ao=>?_) fun ao=>?_
   ·have al:K=5:=by simpa using ao
    refine S.a8 fun ay=>?_;refine S.ba 1 rfl (iC (n:=d) (m:=8) hl h) fun bD bO a6 bp Y=>?_;obtain⟨Y,rfl,rfl⟩:=Y;have Y:=Y.symm;subst Y;obtain⟨A,aB⟩:∃j:Nat,(aM l (d) 8).1=(j:Int):=⟨(aM l (d) 8).1.toNat,by have:=(gb l (d) (m:=8) (by omega)).1;omega⟩
    have aO:=(gb l (d) (m:=8) (by omega)).2;rw[aB]at aO⊢;refine S.e2 1 ?_;have aS:af bt (.sl ay 0 8 (.ex 8)) oS (some ay):=af.new rfl;refine S.ct aS (j:=A) (by show A<8;omega) fun a37 aH=>?_;cases aH;refine S.eJ (e:=bt) (l:=oS) (j:=A) 0 1 ?_ (hj:=by show A<8;omega);refine S.ba 0 rfl (LF (n:=(aM l d 8).2) hl h) fun bF bP a7 br Z=>?_;obtain⟨Z,rfl,rfl⟩:=Z;have Z:=Z.symm;subst Z;refine S.bE 1 ?_ (hu:=pL (e:=bt) oS A 0 _ rfl);refine S.e2 1 ?_;refine S.drop 1 ?_;have aR:oS.length=8:=rfl;have e:gG l K P d=(⟨K,0,0,0,oS[A]'(by omega),P,[],(kS l (aM l d 8).2).1⟩,(kS l (aM l d 8).2).2):=by unfold gG;rw[ab o,ab k2,ae al,aB,hC,rE (by omega)]
    rw[e];refine S.store 1 ?_;refine S.store 1 ?_;refine S.ag 1 ?_;refine S.store 2 ?_;exact⟨_,.cN 2 rfl rfl rfl rfl .nil,.only 0 ⟨rfl,rfl,rfl⟩⟩
   ·have al:¬K=5:=by simpa using ao
    refine S.bin ?_;refine C.B (fun ap=>?_) fun ap=>?_
    ·have am:K=6:=by simpa using ap
     refine S.a8 fun a45=>?_;refine S.ba 1 rfl (iC (n:=d) (m:=8) hl h) fun bG bQ bb bs ac=>?_;obtain⟨ac,rfl,rfl⟩:=ac;have ac:=ac.symm;subst ac;obtain⟨ak,aC⟩:∃j:Nat,(aM l (d) 8).1=(j:Int):=⟨(aM l (d) 8).1.toNat,by have:=(gb l (d) (m:=8) (by omega)).1;omega⟩
     have aP:=(gb l (d) (m:=8) (by omega)).2;rw[aC]at aP⊢;have aV:af bt (.sl a45 0 8 (.ex 8)) p4 (some a45):=af.new rfl;refine S.ct aV (j:=ak) (by show ak<8;omega) fun be aI=>?_;cases aI;refine S.eJ (e:=bt) (l:=p4) (j:=ak) 0 1 ?_ (hj:=by show ak<8;omega);refine S.drop 1 ?_;have aR:p4.length=8:=rfl;have e:gG l K P d=(⟨K,0,0,0,p4[ak]'(by omega),P,[],[]⟩,(aM l d 8).2):=by unfold gG;rw[ab o,ab k2,ab al,ae am,aC,hC,rE (by omega)]
     rw[e];refine S.store 1 ?_;refine S.ag 1 ?_;refine S.store 2 ?_;exact⟨_,.cN 2 rfl rfl rfl rfl .nil,.only 0 ⟨rfl,rfl,rfl⟩⟩
    ·have am:¬K=6:=by simpa using ap
     refine S.bin ?_;refine C.B (fun au=>?_) fun au=>?_
     ·have av:K=7:=by simpa using au
      have e:gG l K P d=(⟨K,0,0,(aM l d 256).1,0,P,[],[]⟩,(aM l d 256).2):=by unfold gG;rw[ab o,ab k2,ab al,ab am,ae av]
      rw[e];refine S.ba 0 rfl (iC (n:=d) (m:=256) hl h) fun bH bR bc bv ah=>?_;obtain⟨ah,rfl,rfl⟩:=ah;have ah:=ah.symm;subst ah;refine S.store 1 ?_;refine S.ag 1 ?_;refine S.store 2 ?_;exact⟨_,.cN 2 rfl rfl rfl rfl .nil,.only 0 ⟨rfl,rfl,rfl⟩⟩
     ·have av:¬K=7:=by simpa using au
      have e:gG l K P d=(⟨K,0,0,0,0,P,[],[]⟩,d):=by unfold gG;rw[ab o,ab k2,ab al,ab am,ab av]
      rw[e];refine S.ag 1 ?_;refine S.store 2 ?_;exact⟨_,.cN 2 rfl rfl rfl rfl .nil,.only 0 ⟨rfl,rfl,rfl⟩⟩
set_option maxHeartbeats 4000000
theorem LH [Fx F] {ag:V} {l:Bs} {a:Pa} {n:Nat} (hl:aa aU O ag l) (h:l.length<=1000):ai F 36 [.ptr a 0] O [gH a ag n] (fun r ψ R=>ψ=O/\r=.agg (kU (lU l n).1 (.no .sl))/\R=[gH a ag (lU l n).2]) never:=by
 have sl:=hl.ax;refine ar ?_;refine S.alloc fun aH=>?_;refine S.ba 1 rfl (iC (n:=n) (m:=20) hl h) fun v5 bd aF aS W=>?_;obtain⟨W,rfl,rfl⟩:=W;have W:=W.symm;subst W;obtain⟨k,hk⟩:∃k,k=(aM l n 20).1:=⟨_,rfl⟩
 obtain⟨d,al⟩:∃d,d=(aM l n 20).2:=⟨_,rfl⟩
 have am:lU l n=iB l k d:=by unfold lU;rw[<-hk,<-al]
 rw[am];rw[<-hk,<-al];refine S.bin ?_;refine C.B (fun Pe=>?_) fun Pe=>?_
 ·have A:k<12:=by simpa using Pe
  have e:iB l k d=mM l d:=by unfold iB;rw[ae A]
  rw[e];refine S.ba 0 rfl (LG (n:=d) hl h) fun aT a1 az aK G=>?_;obtain⟨G,rfl,rfl⟩:=G;have G:=G.symm;subst G;refine S.store (v:=.agg (kU (mM l d).1 (.no .sl))) 1 ?_;exact⟨_,.cN 1 rfl rfl rfl rfl .nil,.only 0 ⟨rfl,rfl,rfl⟩⟩
 ·have A:¬k<12:=by simpa using Pe
  refine S.bin ?_;refine C.B (fun Pg=>?_) fun Pg=>?_
  ·have k2:k<15:=by simpa using Pg
   have e:iB l k d=(stepOf 11 0 [],d):=by unfold iB;rw[ab A];rw[ae k2]
   rw[e];refine S.build ?_;refine S.store 1 ?_;exact⟨_,.cN 1 rfl rfl rfl rfl .nil,.only 0 ⟨rfl,rfl,rfl⟩⟩
  ·have k2:¬k<15:=by simpa using Pg
   refine S.bin ?_;refine C.B (fun OX=>?_) fun OX=>?_
   ·have Y:k<17:=by simpa using OX
    have e:iB l k d=(stepOf 12 0 [],d):=by unfold iB;rw[ab A];rw[ab k2];rw[ae Y]
    rw[e];refine S.build ?_;refine S.store 1 ?_;exact⟨_,.cN 1 rfl rfl rfl rfl .nil,.only 0 ⟨rfl,rfl,rfl⟩⟩
   ·have Y:¬k<17:=by simpa using OX
    refine S.bin ?_;refine C.B (fun OZ=>?_) fun OZ=>?_
    ·have Z:k=17:=by simpa using OZ
     refine S.a8 fun a22=>?_;refine S.ba 1 rfl (iC (n:=d) (m:=2) hl h) fun aV a2 aA aL I=>?_;obtain⟨I,rfl,rfl⟩:=I;have I:=I.symm;subst I;obtain⟨D,aj⟩:∃j:Nat,(aM l (d) 2).1=(j:Int):=⟨(aM l (d) 2).1.toNat,by have:=(gb l (d) (m:=2) (by omega)).1;omega⟩
     have au:=(gb l (d) (m:=2) (by omega)).2;rw[aj]at au⊢;refine S.e2 1 ?_;have aw:af bt (.sl a22 0 2 (.ex 2)) nQ (some a22):=af.new rfl;refine S.ct aw (j:=D) (by show D<2;omega) fun a25 an=>?_;cases an;refine S.eJ (e:=bt) (l:=nQ) (j:=D) 0 1 ?_ (hj:=by show D<2;omega);refine S.ba 0 rfl (iC (n:=(aM l d 2).2) (m:=4) hl h) fun aW a6 aB aO L=>?_;obtain⟨L,rfl,rfl⟩:=L;have L:=L.symm;subst L;have aJ:=gb l (aM l d 2).2 (m:=4) (by omega);refine S.bE 1 ?_ (hu:=pL (e:=bt) nQ D 0 _ rfl);refine S.e2 1 ?_;refine S.bin ?_;refine S.build ?_;have ap:nQ.length=2:=rfl;have e:iB l k d=(stepOf (nQ[D]'(by omega)) (1+(aM l (aM l d 2).2 4).1) [],(aM l (aM l d 2).2 4).2):=by unfold iB;rw[ab A,ab k2,ab Y,ae Z,aj,hC,rE (by omega)]
     rw[e];refine S.store 2 ?_;exact⟨_,.cN 2 rfl rfl rfl rfl .nil,.only 0 ⟨rfl,rfl,rfl⟩⟩
    ·have Z:¬k=17:=by simpa using OZ
     refine S.bin ?_;refine C.B (fun Pp=>?_) fun Pp=>?_
     ·have ac:k=18:=by simpa using Pp
      have e:iB l k d=(stepOf 15 0 [],d):=by unfold iB;rw[ab A];rw[ab k2];rw[ab Y];rw[ab Z];rw[ae ac]
      rw[e];refine S.build ?_;refine S.store 1 ?_;exact⟨_,.cN 1 rfl rfl rfl rfl .nil,.only 0 ⟨rfl,rfl,rfl⟩⟩
     ·have ac:¬k=18:=by simpa using Pp
      refine S.a8 fun ah=>?_;refine S.ba 1 rfl (iC (n:=d) (m:=3) hl h) fun v37 a7 aC aP M=>?_;obtain⟨M,rfl,rfl⟩:=M;have M:=M.symm;subst M;obtain⟨o,ak⟩:∃j:Nat,(aM l (d) 3).1=(j:Int):=⟨(aM l (d) 3).1.toNat,by have:=(gb l (d) (m:=3) (by omega)).1;omega⟩
      have av:=(gb l (d) (m:=3) (by omega)).2;rw[ak]at av⊢;refine S.e2 1 ?_;have ay:af bt (.sl ah 0 3 (.ex 3)) mN (some ah):=af.new rfl;refine S.ct ay (j:=o) (by show o<3;omega) fun aI ao=>?_;cases ao;refine S.eJ (e:=bt) (l:=mN) (j:=o) 0 1 ?_ (hj:=by show o<3;omega);refine S.ba 0 rfl (wQ (n:=(aM l d 3).2) hl h) fun aX bb aD aQ Q=>?_;obtain⟨Q,rfl,rfl⟩:=Q;have Q:=Q.symm;subst Q;refine S.bE 1 ?_ (hu:=pL (e:=bt) mN o 0 _ rfl);refine S.e2 1 ?_;refine S.ba 0 rfl (iC (n:=(fk l (aM l d 3).2).2) (m:=3) hl h) fun aZ bc aE aR U=>?_;obtain⟨U,rfl,rfl⟩:=U;have U:=U.symm;subst U;refine S.bE 1 ?_ (hu:=pL (e:=bt) mN o 0 _ rfl);refine S.e2 1 ?_;refine S.build ?_;have ap:mN.length=3:=rfl;have e:iB l k d=(stepOf (mN[o]'(by omega)) (aM l (fk l (aM l d 3).2).2 3).1 (fk l (aM l d 3).2).1,(aM l (fk l (aM l d 3).2).2 3).2):=by unfold iB;rw[ab A,ab k2,ab Y,ab Z,ab ac,ak,hC,rE (by omega)]
      rw[e];refine S.store 2 ?_;exact⟨_,.cN 2 rfl rfl rfl rfl .nil,.only 0 ⟨rfl,rfl,rfl⟩⟩
def zeroV:aV:=⟨⟨[],[],0,false⟩,0,0,0,0,0,0,0,[]⟩
theorem LI (O:Fz):bR O (bf (.no .sl) (.no .sl) (.no .sl) zeroV) zeroV:=⟨_,_,_,rfl,aa.nil _,aa.nil _,hf.nil _⟩
theorem LJ [Fx F] {cs:List V} {D:V} {v:aV} {s:eC} {eq:List Bool} (hv:bR O cs v) (ao:VG v) (hk:aa lJ O D eq) (A:rA s) (au:1<=s.kind) (av:s.kind<=15):
 ai F 35 [.agg cs,.agg (kU s D)] O [] (fun r ψ R=>R=[]/\∃cs' l,r=.aN [.agg cs',.agg l]/\bR ψ cs' (eP v s)/\p5 ψ l) never:=by
 obtain⟨G,wv,I,rfl,hl,hw,ht,sl,aK,st,hd⟩:=hv.open;have aJ:=hk.ax;refine ar ?_;refine S.box fun aC=>?_;refine S.box fun a3=>?_;refine S.alloc fun a4=>?_;refine S.alloc fun a5=>?_;refine S.store 2 ?_;refine S.ag 3 ?_ (l:=bf G wv I v);refine S.build ?_;refine S.build ?_ (l:=bf G wv I v++[.no .sl,.no .sl,.j 0,.bool false,.j 0,.j 0,.j 0,.j 0,.j 0,.j 0,.j 0,.no .sl]) (dl:=by simp[aY,V.cells,bf,iV,kI,jF,kJ, *]);refine S.build ?_ (l:=fH G wv I v (.no .sl) (.no .sl) (.no .sl) zeroV []) (dl:=by simp[aY,V.cells,bf,iV,kI,jF,kJ, *]);refine S.ag 2 ?_ (l:=kU {s with v:=0} D);refine S.call (LA (s:={s with v:=0}) (w:=[]) hv ao (LI O) hk ⟨A.path,A.dst,A.text,A.off⟩ rfl au av) fun aL aM aB aF am=>?_;obtain⟨rfl,d,h,ty,aH,rfl,ac,hz,ha⟩:=am;obtain⟨Y,U⟩:∃Y,Y=eP v {s with v:=0}:=⟨_,rfl⟩
 have an:eP v s=Y:=U.symm;rw[<-U]at ac⊢;rw[an];obtain⟨aw,az,ay,o,W,ab,Z⟩:=ac;obtain⟨rfl,rfl,rfl⟩:d=aw/\h=az/\ty=ay:=by simp only[bf,nV]at o;exact⟨o.1,o.2.1,o.2.2.2.2.2.2.2.2.2.2.2.1⟩
 have ah:=W.ax;have ak:=ab.ax;have aj:=Z.ax;obtain⟨Q,al,a0,L,Pq,M,f0,ae,aA,n0,rfl,B⟩:=ha;have aI:=B.ax;have ap:=rD (v:=Y) (x:=zeroV) (w:=[]) (lx:=.no .sl) (wx:=.no .sl) (tx:=.no .sl) ah ak aj rfl rfl rfl;refine S.alloc fun aD=>?_;refine S.alloc fun aE=>?_;refine S.store (v:=.agg (fH d h ty Y (.no .sl) (.no .sl) (.no .sl) zeroV [])) 1 ?_ (hs:=ap);refine S.store (v:=.agg [.j Q,.str al,.j a0,.j L,.j Pq,.j M,.j f0,ae,.j n0]) 0 ?_;refine S.pH (j:=0) (by omega) ?_;refine S.ag 1 ?_ (l:=bf d h ty Y);refine S.ag 0 ?_;refine S.store (v:=.agg (bf d h ty Y)) 3 ?_ (hs:=cp ah ak aj);refine S.dg 0 ?_ (hs:=by simp[same,b9,e0,fx,B.c7]);refine S.store (v:=.agg [.j Q,.str al,.j a0,.j L,.j Pq,.j M,.j f0,ae,.j n0]) 2 ?_;exact⟨_,.cN 3 rfl rfl rfl rfl (.cN 2 rfl rfl rfl rfl .nil),.none ⟨rfl,_,_,rfl,⟨d,h,ty,rfl,W,ab,Z⟩,_,_,_,_,_,_,_,_,_,_,rfl,B⟩⟩
end Go.Ev
namespace Go.Ev
structure VK (K:Nat) (v:aV):Prop where
 wait:v.d.wait.length<=101*K
 last:v.d.last.length<=1000
 arm:v.d.arm<=1000
 jM:0<=v.seq
 seq1:v.seq<=K
 lT:0<=v.sum
 jk:v.sum<=10000
 jl:0<=v.aJ
 jm:v.aJ<=100
 gF:0<=v.pos
 kh:v.pos<=64
 n0:0<=v.n
 n1:v.n<=K
 trees:v.trees.length<=K
 may:∀h∈v.trees,bH h.t=true
 rB:0<=v.id
 rC:v.id<=1000
 oT:0<=v.next
theorem VK.le {K L:Nat} {v:aV} (h:VK K v) (hl:K<=L):VK L v:={h with wait:=by have:=h.wait;have:=Nat.mul_le_mul_left 101 hl;omega,seq1:=by have:=h.seq1;omega,n1:=by have:=h.n1;omega,trees:=by have:=h.trees;omega}
theorem VK.LK {K:Nat} {v:aV} (h:VK K v) (hk:K<=900):VG v:=
 {b:={wait:=by have:=h.wait;omega,last:=by have:=h.last;omega,arm:=by have:=h.arm;omega,jM:=h.jM,seq1:=by have:=h.seq1;omega,lT:=h.lT,jk:=by have:=h.jk;omega,jl:=h.jl,jm:=by have:=h.jm;omega,gF:=h.gF,kh:=by have:=h.kh;omega,n0:=h.n0,n1:=by have:=h.n1;omega,trees:=by have:=h.trees;omega,cP:=fun x hx=>⟨ry (h.may x hx),by have:=AX x.t;omega⟩}
  may:=h.may,A5:=by have:=h.trees;omega,rB:=h.rB,rC:=by have:=h.rC;omega,oT:=h.oT}
theorem VK.rF {K:Nat} {v w:aV} (h:VK K v) (hd:DB v w):VK (K+1) {v with d:=w.d}:=
 {h.le (ks K)with wait:=by have:=h.wait;have:=hd.2.1;show w.d.wait.length<=_;omega,last:=by rw[show({v with d:=w.d}:aV).d.last.length=w.d.last.length from rfl,hd.1];exact h.last,arm:=by have:=h.arm;have:=hd.2.2;show w.d.arm<=_;omega}
theorem VK.wS {K L:Nat} {v:aV} (h:VK K v) (hl:K<=L) {l:List bC} (o:l.length<=L) (aj:∀x∈l,bH x.t=true):VK L {v with trees:=l}:={h.le hl with trees:=o,may:=aj}
theorem Bb {d:au} {sum bv s:Int} (h:ke d sum bv=some s):0<=s/\s<(bK d:Nat):=by
 have:=wE bv 0 (ga d sum) s h;rw[rk]at this;omega
theorem Bc {K:Nat} {st v:aV} {gen:Int} {p:List aT×List ah} (j:VK K st) (hv:VK (K+1) v) (d:DB st (hh st v gen p).1) (hp:v.pos+p.1.length+1<=64) (D:gen=st.seq+1):VK (K+1) (hh st v gen p).1:=by
 have o:=VK.rF j d;unfold hh at d o⊢;simp only at d o⊢;split
 ·rename_i hc;rw[ae hc]at o;exact o
 ·rename_i hc;rw[ab hc]at o d;split
  ·rename_i h;rw[ae h]at o;exact o
  ·rename_i h;rw[ab h]at o d;have hs:=j.seq1;have G:=j.jM;have A:=rp (s:=v.aJ) hv.jl (by have:=hv.jm;omega);have B:bB v.aJ<=6402:=by unfold bB;have:=hv.jm;split<;>omega
   have F:=hv.gF;exact{hv with wait:=o.wait,last:=o.last,arm:=o.arm,jM:=by show 0<=gen;omega,seq1:=by show gen<=_;omega,lT:=by show 0<=bB v.aJ+v.pos+p.1.length;omega,jk:=by show bB v.aJ+v.pos+p.1.length<=_;omega,gF:=by show 0<=v.pos+p.1.length+1;omega,kh:=by show v.pos+p.1.length+1<=_;omega}
theorem wT {K:Nat} {v:aV} {lo hi:Int} (h:VK K v):VK (K+1) (cq v lo hi).1:=by
 have j:=ru (v:=v) (lo:=lo) (hi:=hi) h.gF;have h':=h.le (ks K);unfold cq at j⊢;split
 ·exact h'
 ·rename_i eH;rw[ab eH]at j;split
  ·exact h'
  ·rename_i Pf;rw[ab Pf]at j;split
   ·exact h'
   ·rename_i Pm;rw[ab Pm]at j;split
    ·exact h'
    ·rename_i p hp;rw[hp]at j;simp only at j⊢;split
     ·exact h'
     ·rename_i O9;rw[ab O9]at j;split
      ·rename_i Po;rw[ae Po]at j;unfold writeNew at j⊢;split
       ·exact h'
       ·rename_i aJ o;rw[o]at j;simp only at j;have B:=Bb o;have F:bK v.d<=100:=by have:=h.last;unfold bK;omega
        split
        ·exact h'
        ·rename_i Pe;rw[ab Pe]at j;split
         ·exact h'
         ·rename_i D A;rw[A]at j;simp only at j;split
          ·exact h'
          ·rename_i Pk;rw[ab Pk]at j;have hs:=rq v.d ⟨v.n+1,v.seq,v.sum,aJ,0⟩;simp only at j⊢;have aj:=VK.rF h (w:={v with d:=(gu v.d ⟨v.n+1,v.seq,v.sum,aJ,0⟩).1}) ⟨hs.1,by show(gu _ _).1.wait.length<=_;omega,hs.2.2⟩;split
           ·exact aj
           ·rename_i Pc;rw[ab Pc]at j;refine Bc h {aj with n0:=by have:=h.n0;show 0<=v.n+1;omega,n1:=by have:=h.n1;show v.n+1<=_;omega,jl:=B.1,jm:=by show aJ<=100;omega,gF:=ej 0,kh:=by show(0:Int)<=64;omega} j (by show 0+(D.1.length:Int)+1<=64;omega) rfl
      ·rename_i Po;rw[ab Po]at j;exact Bc h h' j (by omega) rfl
theorem wU {K:Nat} {v x:aV} (h:VK K v) (hx:VK K x) (hd:x.d=v.d):VK (K+1) (dK v x).1:=by
 have o:=wT (lo:=0) (hi:=0) hx;have j:=ru (v:=x) (lo:=0) (hi:=0) hx.gF;unfold dK;simp only;split
 ·exact VK.rF h (by unfold DB at j⊢;rw[hd]at j;exact j)
 ·split
  ·exact h.le (ks K)
  ·exact o
theorem Bd {l:List bC} {h:bC} (hl:∀x∈l,bH x.t=true) (d:bH h.t=true):(dX l h).length<=l.length+1/\∀x∈dX l h,bH x.t=true:=by
 refine⟨?_,fun x hx=>?_⟩
 ·unfold dX;rw[AB];have:=wu (l:=l) (k:=h.r.kind) (i:=h.r.id);omega
 ·rcases AN hx with o|o
  ·rw[o];exact d
  ·exact hl x o
theorem Be {l:List bC} {t:ao} (hl:∀x∈l,bH x.t=true):(jj l t).length<=l.length+1/\∀x∈jj l t,bH x.t=true:=by
 unfold jj;split
 ·rename_i h;exact Bd hl h
 ·exact⟨ks _,hl⟩
theorem Bf {k i:Int}:∀{l r:List bC},fF l k i=some r->r.length<=l.length/\∀x∈r,x∈l
 |[],_,h=>by cases h
 |a::l,r,h=>by
  simp only[fF]at h;split at h
  ·cases h;exact⟨by simp,fun x hx=>cR _ hx⟩
  ·obtain⟨z,j,A⟩:=jR.1 h;subst A;obtain⟨B,d⟩:=Bf j;refine⟨by simp;omega,fun x hx=>?_⟩;rcases bS.1 hx with o|o
   ·rw[o];exact dc
   ·exact cR _ (d x o)
theorem VK.head {K:Nat} {v:aV} (h:VK K v):bH (dD v.trees)=true:=wI (P:=fun t=>bH t=true) wP h.may
theorem LL {K:Nat} {v:aV} (h:VK K v):VK (K+2) (hR v).1:=by
 unfold hR;split
 ·exact h.le (by omega)
 ·obtain⟨o,aj⟩:=Bd (h:=⟨⟨3,v.next,v.id*65536+v.next,0,0⟩,dD v.trees⟩) h.may h.head;have hx:VK (K+1) {v with trees:=dX v.trees ⟨⟨3,v.next,v.id*65536+v.next,0,0⟩,dD v.trees⟩,next:=v.next+1}:={h.le (ks K)with trees:=by have:=h.trees;show(dX _ _).length<=_;omega,may:=aj,oT:=by have:=h.oT;show 0<=v.next+1;omega}
  have:=wU (h.le (ks K)) hx rfl;simp only;split<;>exact this
theorem LM {K:Nat} {v:aV} (h:VK K v) (s:eC):VK (K+2) (fG v s):=by
 unfold fG;split
 ·exact(wU h h rfl).le (by omega)
 ·split
  ·exact LL h
  ·split
   ·unfold kf;split
    ·exact h.le (by omega)
    ·rename_i l hl;obtain⟨o,aj⟩:=Bf hl;exact(wU h (x:={v with trees:=l}) (h.wS (aB K) (by have:=h.trees;omega) (fun x hx=>h.may x (aj x hx))) rfl).le (by omega)
   ·split
    ·unfold kg;split
     ·exact h.le (by omega)
     ·rename_i x hx;obtain⟨o,aj⟩:=Be (t:=x.t) h.may;exact h.wS (by omega) (by have:=h.trees;omega) aj
    ·unfold jN;split
     ·exact h.le (by omega)
     ·rename_i s hs;have o:=wT (lo:=bB s) (hi:=bB s+64) h;have d:=ru (v:=v) (lo:=bB s) (hi:=bB s+64) h.gF;simp only;split
      ·exact(h.rF d).le (by omega)
      ·split
       ·exact h.le (by omega)
       ·exact o.le (by omega)
theorem tH {K:Nat} {v:aV} (h:VK K v) (s:eC):VK (K+2) (eP v s):=by
 unfold eP;split
 ·split
  ·exact h.le (by omega)
  ·obtain⟨o,aj⟩:=Be (t:=(e4 (dD v.trees) s).1) h.may;exact h.wS (by omega) (by have:=h.trees;omega) aj
 ·split
  ·exact h.le (by omega)
  ·exact LM h s
theorem LN {ap:Nat} {id:Int} (h:ap<=15) (h0:0<=id) (o:id<=1000):VK 1 (eB ap id):={wait:=by show 0<=101*1;omega,last:=by show(List.replicate _ _).length<=1000;rw[k0];omega,arm:=by show(0:Int)<=1000;omega,jM:=ej 0,seq1:=by show(0:Int)<=1;omega,lT:=ej 0,jk:=by show(0:Int)<=10000;omega,jl:=ej 0,jm:=by show(0:Int)<=100;omega,gF:=ej 0,kh:=by show(0:Int)<=64;omega,n0:=ej 0,n1:=by show(0:Int)<=1;omega,trees:=by show 1<=1;omega,may:=fun x hx=>by rw[hB.1 hx];exact wP,rB:=h0,rC:=o,oT:=by show(0:Int)<=1;omega}
theorem tI {ap:Nat} {id:Int} (h:ap<=15) (h0:0<=id) (o:id<=1000):VK 3 (mK ap id).1:=by
 have aj:=wT (lo:=0) (hi:=0) (LN (ap:=ap) h h0 o);obtain⟨Y,A⟩:∃Y,Y=(cq (eB ap id) 0 0).1:=⟨_,rfl⟩
 show VK 3 {(cq (eB ap id) 0 0).1 with d:=(nM (cq (eB ap id) 0 0).1).1,n:=1};rw[<-A]at aj⊢;have hs:=rq Y.d ⟨1,Y.seq,Y.sum,Y.aJ,Y.pos⟩;have j:=VK.rF aj (w:={Y with d:=(nM Y).1}) ⟨hs.1,by show(gu _ _).1.wait.length<=_;omega,hs.2.2⟩;exact{j with n0:=by show(0:Int)<=1;omega,n1:=by show(1:Int)<=3;omega}
theorem Bg {l:Bs}:∀(k n K:Nat) {v:aV},VK K v->VK (K+2*k) (kT l k n v)
 |0,n,K,v,h=>h
 |k+1,n,K,v,h=>by
  simp only[kT];split
  ·exact h.le (by omega)
  ·exact(Bg k _ (K+2) (tH h _)).le (by omega)
theorem LO:∀x∈p3,x.length<=10:=by decide
theorem wV (l:Bs) (n:Nat):(fk l n).1.length<=10:=by
 unfold fk;simp only;cases h:p3[(aM l n 15).1.toNat]? with
 |none=>exact cS _
 |some x=>exact LO x (km h)
theorem LP (l:Bs) (n:Nat):(kS l n).1.length<=121:=by
 unfold kS tG;simp only[hS,List.length_range];cases h:nO[(aM l n 8).1.toNat]? with
 |none=>exact cS _
 |some x=>obtain⟨o,aj⟩:=dS.1 h;show x<=121;rw[<-aj];exact Ba o
theorem Bh {l:List Int} {j:Nat} {B:Int} (h:∀x∈l,x<=B) (d:0<=B):(l[j]?).getD 0<=B:=by
 cases hx:l[j]? with
 |none=>exact d
 |some x=>exact h x (km hx)
def tJ (s:eC):Prop:=rA s/\1<=s.kind/\s.kind<=15
theorem LQ {l:Bs} {kind:Int} {path:Bs} {n:Nat} (o:1<=kind) (aj:kind<=15) (hp:path.length<=10):tJ (gG l kind path n).1:=by
 have hd:=wV l n;have ht:=LP l (aM l n 8).2;have ho:=Bh (l:=oS) (j:=(aM l n 8).1.toNat) (B:=1000) (by decide) (by decide);have hc:=Bh (l:=p4) (j:=(aM l n 8).1.toNat) (B:=1000) (by decide) (by decide);unfold gG
 repeat' split
 all_goals exact⟨⟨by show path.length<=1000;omega,by first|(show 0<=1000;omega)|(show(fk l n).1.length<=1000;omega),by first|(show 0<=1000;omega)|(show(kS _ _).1.length<=1000;omega),by first|(show(0:Int)<=1000000;omega)|exact Int.le_trans ho (by decide)|exact Int.le_trans hc (by decide)⟩,o,aj⟩
theorem LR (l:Bs) (n:Nat):tJ (mM l n).1:=by
 have hk:=gb l n (m:=12) (by omega);unfold mM;have key:∀j<12,1<=(nP[j]?).getD 0/\(nP[j]?).getD 0<=15:=by decide
 have:=key (aM l n 12).1.toNat (by omega);exact LQ this.1 this.2 (wV l _)
theorem rG {k i:Int} {p:Bs} (o:1<=k) (aj:k<=15) (hp:p.length<=10):tJ (stepOf k i p):=⟨⟨by show p.length<=1000;omega,by show 0<=1000;omega,by show 0<=1000;omega,by show(0:Int)<=1000000;omega⟩,o,aj⟩
theorem LS (l:Bs) (n:Nat):tJ (lU l n).1:=by
 unfold lU iB;have d:([]:Bs).length<=10:=cS _;split
 ·exact LR _ _
 ·split
  ·exact rG (by decide) (by decide) d
  ·split
   ·exact rG (by decide) (by decide) d
   ·split
    ·have hk:=gb l (aM l n 20).2 (m:=2) (by omega);have key:∀j<2,1<=(nQ[j]?).getD 0/\(nQ[j]?).getD 0<=15:=by decide
     have:=key (aM l (aM l n 20).2 2).1.toNat (by omega);exact rG this.1 this.2 d
    ·split
     ·exact rG (by decide) (by decide) d
     ·have hk:=gb l (aM l n 20).2 (m:=3) (by omega);have key:∀j<3,1<=(mN[j]?).getD 0/\(mN[j]?).getD 0<=15:=by decide
      have:=key (aM l (aM l n 20).2 3).1.toNat (by omega);exact rG this.1 this.2 (wV _ _)
end Go.Ev
set_option maxHeartbeats 4000000
namespace Go.Ev
variable{F:Nat->Option aP} {O:Fz}
def jo (l:Bs) (ap dr:Nat):aV:=kT l dr 0 (mK ap 1).1
theorem Bi (l:Bs) {ap:Nat} (dr:Nat) (h:ap<=15):VK (3+2*dr) (jo l ap dr):=Bg dr 0 3 (tI h (by decide) (by decide))
theorem Bj [Fx F] {I:V} {l:Bs} {a:Pa} {ap dr:Nat} (hl:aa aU O I l) (al:l.length<=1000) (az:4<=ap) (av:ap<=12) (hm:dr<=400):
 ai F 10 [.ptr a 0,.j (ap:Int),.j (dr:Int)] O [gH a I 0] (fun r ψ R=>∃cs n,r=.agg cs/\bR ψ cs (jo l ap dr)/\R=[gH a I n]) never:=by
 have sl:=hl.ax;refine ar ?_;refine S.alloc fun aj=>?_;refine S.call (K2 (ap:=ap) (id:=1) az av (by decide) (by decide)) fun bi bl aR aI aw=>?_;obtain⟨rfl,aW,rfl,am⟩:=aw;have hl:=hl.mono aI;obtain⟨ao,au,ty,rfl,a8,be,bc,aL,aQ,aO,a1⟩:=am.open;have L:=tI (ap:=ap) (id:=1) (by omega) (by decide) (by decide);refine S.alloc fun ak=>?_;refine S.store (v:=.agg (bf ao au ty (mK ap 1).1)) 0 ?_ (hs:=cp aL aQ aO);refine SW.bF (fun m E ψ R=>∃(i n:Nat) (v:aV) (h A o:V),i+m=dr/\kT l m n v=jo l ap dr/\VK (3+2*i) v/\bR ψ (bf h A o v) v/\aa aU ψ I l/\R=[gH a I n,(some ak,.cells (bf h A o v) false),(some aj,.cells [.no .sl,.no .sl,.j 0,.bool false,.j 0,.j 0,.j 0,.j 0,.j 0,.j 0,.j 0,.no .sl] false)]/\Sub [(0,.ptr a 0),(2,.j (dr:Int)),(6,.ptr aj 0),(7,.ptr ak 0),(9,.j (i:Int))] E) (m:=dr) (.front 2 rfl (.done ⟨0,0,_,ao,au,ty,by omega,rfl,L,am,hl,rfl,.r rfl⟩)) ?_;intro Z E ψ R a6 aB;obtain⟨i,n,v,h,A,o,a2,M,L,hv,hl,rfl,aA⟩:=aB;refine C.sub aA ?_;refine S.bin ?_;refine G.mv ?_;refine G.LC rfl (fun _=>LD hl al) ?_;refine G.un ?_;refine G.and ?_;refine C.B (fun O2=>?_) fun O2=>?_
 ·simp at O2;obtain⟨k,rfl⟩:∃k,Z=k+1:=⟨Z-1,by omega⟩
  simp only[kT]at M;rw[ab (by omega)]at M;obtain⟨aH,aE,aF⟩:=LS l n;have aD:=L.LK (by omega);have aC:=tH L (lU l n).1;obtain⟨Y,ah,ac,d,Q,W,U⟩:=id hv;obtain⟨rfl,rfl,rfl⟩:h=Y/\A=ah/\o=ac:=by simp only[bf,nV]at d;exact⟨d.1,d.2.1,d.2.2.2.2.2.2.2.2.2.2.2.1⟩
  refine S.ag 1 ?_ (l:=bf h A o v);refine S.ba 0 rfl (LH (n:=n) hl al) fun bj bm aS bg D=>?_;obtain⟨D,rfl,rfl⟩:=D;have D:=D.symm;subst D;refine S.dg 1 ?_ (hs:=tD Q W U);refine S.call (LJ (eq:=[]) hv aD (aa.nil _) aH aE aF) fun bk bn aT aJ ay=>?_;obtain⟨rfl,aX,bh,rfl,an,ha⟩:=ay;obtain⟨lx,wx,tx,rfl,a7,bd,bb,aK,aP,aM,aZ⟩:=an.open;have hl:=hl.mono aJ;refine S.store (v:=.agg (bf lx wx tx (eP v (lU l n).1))) 1 ?_ (hs:=cp aK aP aM);refine S.bin ?_;exact⟨k,by omega,.done ⟨i+1,_,_,lx,wx,tx,by omega,M,aC.le (by omega),an,hl,rfl,.r rfl⟩⟩
 ·simp at O2;have e:v=jo l ap dr:=by
   rw[<-M];cases Z with
   |zero=>rfl
   |succ k=>simp only[kT];rw[ae (O2 (by omega))]
  obtain⟨Y,ah,ac,d,Q,W,U⟩:=id hv;obtain⟨rfl,rfl,rfl⟩:h=Y/\A=ah/\o=ac:=by simp only[bf,nV]at d;exact⟨d.1,d.2.1,d.2.2.2.2.2.2.2.2.2.2.2.1⟩
  rw[<-e];refine S.ag 1 ?_ (l:=bf h A o v);refine S.store (v:=.agg (bf h A o v)) 2 ?_ (hs:=cp Q.ax W.ax U.ax);exact⟨_,.cN 2 rfl rfl rfl rfl .nil,.only 0 ⟨_,n,rfl,hv,rfl⟩⟩
end Go.Ev
namespace Go.Ev
theorem Jg:∀(n:Nat) (x:Int),0<=x->x<256^n->dB (le n x)=x
 |0,x,h0,o=>by
  have:x<1:=o;show(0:Int)=x;omega
 |n+1,x,h0,o=>by
  rw[Int.pow_succ]at o;show((bM x).toNat:Int)+256*dB (le n (x/256))=x;rw[Jg n (x/256) (by omega) (by omega)];unfold bM;rw[UInt8.toNat_ofNat'];omega
theorem NU {n:Nat} {x:Int} (r:Bs) (o:1<=n) (d:n<=4) (h0:0<=x) (hx:x<256^n):rdNum n (le n x++r,false)=(x,(r,false)):=by
 have ht:cf (le n x++r) n=(x,true):=by
  unfold cf;rw[ab (by rw[c2,fz];omega),List.take_append_of_le_length (by rw[fz];exact aB _),kk (by rw[fz];exact aB _),Jg n x h0 hx]
 unfold rdNum;simp only[ht,jw,l5,l1,if_false];rw[List.drop_append_of_le_length (by rw[fz];exact aB _),jS (by rw[fz];exact aB _),fo]
theorem CH {n:Int} (h:e1 n=true):0<=n/\n<=1073741824:=by unfold e1 at h;simpa using h
theorem Oe {n:Int} (h:kO n=true):0<=n/\n<=255:=by unfold kO at h;simpa using h
theorem xr {x:Int} (r:Bs) (h:e1 x=true):rdNum 4 (le 4 x++r,false)=(x,(r,false)):=by
 have:=CH h;exact NU r (by decide) (by decide) this.1 (by show x<4294967296;omega)
theorem C4 {x:Int} (r:Bs) (h:kO x=true):rdNum 1 (le 1 x++r,false)=(x,(r,false)):=by
 have:=Oe h;exact NU r (by decide) (by decide) this.1 (by show x<256;omega)
theorem Qe {p:ah} (h:dI p=true):0<=p.addr/\p.addr<=65535/\e1 p.gen=true:=by unfold dI at h;simp only[be,aR]at h;exact⟨h.1.1,h.1.2,h.2⟩
theorem Of {p:ah} (r:Bs) (h:dI p=true):fi (lP p++r,false)=(p,(r,false)):=by
 obtain⟨h0,o,aj⟩:=Qe h;unfold fi lP;rw[bp,NU _ (by decide) (by decide) h0 (show p.addr<65536 by omega)];simp only[xr r aj]
theorem Og:∀(ps:List ah) (r:Bs) (d:List ah),ps.all dI=true->jK ps.length (cM ps++r,false) d=(d++ps,(r,false))
 |[],r,d,_=>by rw[e9];(try rfl)
 |p::ps,r,d,h=>by
  simp only[k4,be]at h;show jK (ps.length+1) (lP p++cM ps++r,false) d=_;simp only[jK,bp,l1,if_false];rw[Of _ h.1,Og ps r _ h.2];simp
theorem Oh {ps:List ah} (hl:ps.length<=7) (h:ps.all dI=true):gX (le 1 ps.length++cM ps,false)=(ps,([],false)):=by
 unfold gX;rw[C4 _ (by unfold kO;simp;omega)];simp only[hC];have:=Og ps [] [] h
 rwa [e9,fo]at this
def xm (next id:Int) (p:List ah):Bs:=bo 4 [next,id]++le 1 p.length++cM p
def xn (r:cK) (p:List ah):Bs:=le 1 r.kind++bo 4 [r.id,r.cZ,r.base,r.done]++le 1 p.length++cM p
def xo (r:bA):Bs:=[bM r.ino,bM r.idx]++r.load
theorem Qf {g next id:Int} {p:List ah} (h:kR g next id p=true):c0 ⟨4,g,xm next id p⟩=some (next,id,p):=by
 have h':=h;unfold kR at h';simp only[be,aR]at h';obtain⟨⟨⟨⟨_,aj⟩,j⟩,o⟩,A⟩:=h';have e:dC (xm next id p)=(next,id,p,[],false):=by
  have d:xm next id p=le 4 next++(le 4 id++(le 1 p.length++cM p)):=by simp[xm,bo]
  unfold dC;rw[d];simp only[xr _ aj,xr _ j,Oh o A]
 unfold c0;simp only[e];rw[ae ⟨trivial,trivial,by unfold eM;rw[ae h];(try rfl)⟩]
theorem Qg {g:Int} {r:cK} {p:List ah} (h:kQ g r p=true):dJ ⟨3,g,xn r p⟩=some (r,p):=by
 have h':=h;unfold kQ at h';simp only[be,aR]at h';obtain⟨⟨⟨⟨⟨⟨⟨_,o⟩,aj⟩,j⟩,A⟩,B⟩,D⟩,F⟩:=h';have e:fj (xn r p)=(r,p,[],false):=by
  have d:xn r p=le 1 r.kind++(le 4 r.id++(le 4 r.cZ++(le 4 r.base++(le 4 r.done++(le 1 p.length++cM p))))):=by simp[xn,bo]
  unfold fj;rw[d];simp only[C4 _ aj,xr _ j,xr _ A,xr _ B,xr _ D,Oh (show p.length<=7 by omega) F]
 unfold dJ;simp only[e];rw[ae ⟨trivial,trivial,by unfold ey;rw[ae h];(try rfl)⟩]
theorem CJ {x:Int} (h:kO x=true):((bM x).toNat:Int)=x:=by
 have:=Oe h;unfold bM;rw[UInt8.toNat_ofNat'];omega
theorem Qh {g:Int} {r:bA} (h:q5 g r=true):eh ⟨1,g,xo r⟩=some r:=by
 have h':=h;unfold q5 at h';simp only[be,aR]at h';obtain⟨⟨⟨_,aj⟩,d⟩,j⟩:=h';have e:lQ ⟨1,g,xo r⟩=r:=by
  show(⟨((bM r.ino).toNat:Int),((bM r.idx).toNat:Int),r.load⟩:bA)=r;rw[CJ aj,CJ d]
 unfold eh;rw[ae ⟨rfl,by show 2<=(xo r).length;unfold xo;simp⟩,e,ae (by unfold fZ;rw[ae h];(try rfl))]
def ju (i:bO):bO:=(⟨i.1.ino,i.1.idx,[]⟩,i.2)
theorem Qi {i:bO} (h:kP i=true):kO i.1.ino=true/\kO i.1.idx=true/\dI i.2=true:=by unfold kP at h;simp only[be]at h;exact⟨h.1.1,h.1.2,h.2⟩
theorem Qj {i:bO} (r:Bs) (h:kP i=true):fD (pV i++r,false)=(ju i,(r,false)):=by
 obtain⟨h0,o,aj⟩:=Qi h;unfold fD pV;rw[bp,bp];simp only[C4 _ h0,C4 _ o,Of r aj];rfl
theorem Oi (i:bO):(pV i).length=8:=by unfold pV lP;simp[fz]
theorem Jf (l:List bO):(fC l).length=8*l.length:=by
 induction l with
 |nil=>rfl
 |cons a l d=>show(pV a++fC l).length=_;rw[c2,d,Oi,b7];omega
theorem Ol:∀(l:List bO) (f:Nat) (d:List bO),l.length<=f->l.all kP=true->ka f (fC l,false) d=(d++l.map ju,([],false))
 |[],0,d,_,_=>by simp[ka,fC]
 |[],f+1,d,_,_=>by simp[ka,fC]
 |i::l,0,d,j,_=>by simp at j
 |i::l,f+1,d,j,h=>by
  simp only[k4,be]at h;have e:fC (i::l)=pV i++fC l:=rfl;have hp:0<(pV i++fC l).length:=by rw[c2,Oi];omega
  simp only[ka,e,decide_eq_true hp,Bool.not_false,k5,if_true];rw[Qj _ h.1,Ol l f _ (by simpa using j) h.2];simp
theorem Qk (l:List bO):fC (l.map ju)=fC l:=by unfold fC;rw[List.flatMap_map];(try rfl)
theorem Ql (l:List bO):(l.map ju).all kP=l.all kP:=by rw[List.all_map];(try rfl)
theorem Qm {g:Int} {l:List bO} (h0:l≠[]) (A:l.length<=6) (o:e1 g=true) (h:l.all kP=true):dp ⟨2,g,fC l⟩=some (l.map ju):=by
 have hl:0<l.length:=by cases l with|nil=>exact absurd rfl h0|cons a l=>simp
 have e:idxOf (fC l)=(l.map ju,([],false)):=by
  unfold idxOf;rw[Ol l _ [] (by rw[Jf];omega) h];(try rfl)
 have hp:gD g (l.map ju)=[⟨2,g,fC l⟩]:=by
  obtain⟨a,r,d⟩:∃a r,l.map ju=a::r:=by cases l with|nil=>exact absurd rfl h0|cons a l=>exact⟨_,_,rfl⟩
  have hm:(l.map ju).length=l.length:=hS ..;unfold gD;rw[hm];obtain⟨f,j⟩:∃f,l.length=f+1:=⟨l.length-1,by omega⟩
  rw[j];have:gC g (f+1) (l.map ju)=gW g ((l.map ju).take 6)::gC g f ((l.map ju).drop 6):=by rw[d];(try rfl)
  rw[this,kk (by omega),jS (by omega)];unfold gW;rw[Ql,o,h,Qk];cases f<;>rfl
 unfold dp;rw[ae ⟨rfl,by intro hn;have:=Jf l;rw[show fC l=[]from hn]at this;simp at this;omega⟩];simp only[e];rw[ae ⟨trivial,hp⟩]
theorem Om {x:aT} (h:jG x=true):er (dn x)=some x:=by
 have h':=h;unfold jG at h';simp only[be,aR]at h';obtain⟨⟨⟨⟨o,aj⟩,I⟩,M⟩,O⟩:=h';have e:gq x=le 1 x.kind++(le 4 x.gen++(le 1 x.load.length++x.load)):=by
  unfold gq gp;rw[ab (by omega)];simp
 have d:(gq x).length=6+x.load.length:=by rw[e];simp[fz];omega
 have hp:dn x=le 1 x.kind++(le 4 x.gen++(le 1 x.load.length++(x.load++List.replicate (64-(gq x).length) 0))):=by
  unfold dn;rw[ae h,d,e];simp
 have hl:(dn x).length=64:=by rw[hp,d];simp[fz];omega
 have hr:lM (dn x)=x:=by
  have a0:(dn x)[0]? =some (bM x.kind):=by rw[hp];(try rfl)
  have A:((dn x).drop 1).take 4=le 4 x.gen:=by
   rw[hp];show(le 4 x.gen++_).take 4=_;rw[List.take_append_of_le_length (by rw[fz];exact aB _),kk (by rw[fz];exact aB _)]
  have a5:(dn x).drop 5=bM x.load.length::(x.load++List.replicate (64-(gq x).length) 0):=by
   rw[hp];(try rfl)
  have B:(dn x)[5]? =some (bM x.load.length):=by
   have:=gJ (xs:=dn x) (i:=5) (j:=0);rw[a5]at this;exact this.symm
  have D:(dn x).drop 6=x.load++List.replicate (64-(gq x).length) 0:=by
   have:(dn x).drop 6=((dn x).drop 5).drop 1:=by rw[nY]
   rw[this,a5];(try rfl)
  unfold lM;rw[a0,A,B,D,kq,kq];have F:=CJ (x:=x.kind) (by unfold kO;simp;omega);have L:=CJ (x:=(x.load.length:Int)) (by unfold kO;simp;omega);have G:min (bM (x.load.length:Int)).toNat 55=x.load.length:=by omega
  rw[F,G,Jg 4 _ I (by show x.gen<4294967296;omega),List.take_left' rfl]
 unfold er;rw[ae hl,hr,ae rfl]
theorem On {x:aT} (h:jG x=true):(dn x).length=64:=by
 have:=Om h;unfold er at this;split at this
 ·assumption
 ·cases this
theorem Qa (t:ao) (i:Int) (n:cj):(eL t i n).length=t.length:=by unfold eL;simp
theorem Oo {t:ao} {i:Int} (n:cj) (h:(i-1).toNat<t.length):nodeAt (eL t i n) i=n:=by
 unfold nodeAt eL;rw[List.getElem?_set_self h];(try rfl)
theorem Oq (t:ao) (i:Int) (n m:cj):eL (eL t i n) i m=eL t i m:=by unfold eL;simp
theorem NW {t:ao} {i:Int} (h:(i-1).toNat<t.length):eL t i (nodeAt t i)=t:=by
 unfold eL nodeAt;rw[bj h];simp
theorem Ot {i:Int} (o:1<=i) (d:i<=9) (rest:List bA):∀(f:Nat) (idx:Int) (b:Bs) (t:ao),1<=idx->b.length<=f->(i-1).toNat<t.length->hQ t (ix i f idx b++rest)=hQ (eL t i {nodeAt t i with body:=(nodeAt t i).body++b}) rest
 |0,idx,b,t,_,h,ht=>by
  obtain rfl:b=[]:=e8 (by omega);simp only[ix,fo,e9];rw[show({nodeAt t i with body:=(nodeAt t i).body}:cj)=nodeAt t i from rfl,NW ht]
 |f+1,idx,b,t,hi,h,ht=>by
  simp only[ix];split
  ·rename_i he;subst he;simp only[fo,e9];rw[show({nodeAt t i with body:=(nodeAt t i).body}:cj)=nodeAt t i from rfl,NW ht]
  ·rename_i he;have j:0<b.length:=by cases b with|nil=>exact absurd rfl he|cons a l=>simp
   have hs:ez t ⟨i,idx,b.take 40⟩=some (eL t i {nodeAt t i with body:=(nodeAt t i).body++b.take 40}):=by
    unfold ez;rw[ab (by show¬(i<1\/9<i);omega),ab (by show¬idx=0;omega)]
   show hQ t (⟨i,idx,b.take 40⟩::(ix i f (idx+1) (b.drop 40)++rest))=_;simp only[hQ,hs];rw[Ot o d rest f (idx+1) (b.drop 40) _ (by omega) (by rw[bW];omega) (by rw[Qa];exact ht),Oo _ ht,Oq];simp only[bp,jT]
theorem Qn {i:Int} (o:1<=i) (j:i<=9) (rest:List bA) {n:cj} {nm d:List Int} (hn:ff nm n=some d) {t:ao} (ht:(i-1).toNat<t.length) (h0:nodeAt t i=ef):hQ t (jg i n++rest)=hQ (eL t i n) rest:=by
 unfold jg;split
 ·rename_i hk;have:n=ef:=by
   unfold ff at hn;rw[ae hk]at hn;split at hn
   ·assumption
   ·cases hn
  rw[this,<-h0,NW ht];(try rfl)
 ·rename_i hk;have hm:kO n.kind=true/\kO n.mode=true:=by
   unfold ff at hn;rw[ab hk]at hn;have key:∀nm,j6 n nm=some d->kO n.mode=true:=by
    intro nm h;unfold j6 at h;split at h
    ·cases h
    ·unfold kO;simp;omega
   split at hn
   ·rename_i h;exact⟨by rw[h];(try rfl),key _ hn⟩
   ·split at hn
    ·rename_i h;split at hn
     ·cases hn
     ·exact⟨by rw[h];(try rfl),key _ hn⟩
    ·cases hn
  have hs:ez t ⟨i,0,[bM n.kind,bM n.mode,bM n.body.length]⟩=some (eL t i {ef with kind:=n.kind,mode:=n.mode}):=by
   unfold ez;dsimp only;rw[ab (by omega),ae rfl,ae (by rfl),h0];show some (eL t i {ef with kind:=((bM n.kind).toNat:Int),mode:=((bM n.mode).toNat:Int)})=_;rw[CJ hm.1,CJ hm.2]
  show hQ t (_::(ix i n.body.length 1 n.body++rest))=_;simp only[hQ,hs];rw[Ot o j rest _ 1 n.body _ (by decide) (aB _) (by rw[Qa];exact ht),Oo _ ht,Oq];(try rfl)
theorem Ou:∀(r a:List cj) {nm d:List Int},a.length+r.length=9->j7 r nm=some d->hQ (a++List.replicate r.length ef) (fE (a.length+1) r)=some (a++r)
 |[],a,nm,d,_,_=>by simp[fE,hQ]
 |n::r,a,nm,d,hl,h=>by
  simp only[j7]at h;split at h
  ·cases h
  ·rename_i j aj;simp only[b7]at hl;have hi:((a.length:Int)+1-1).toNat=a.length:=by omega
   have ht:((a.length:Int)+1-1).toNat<(a++List.replicate (n::r).length ef).length:=by rw[hi];simp
   have h0:nodeAt (a++List.replicate (n::r).length ef) (a.length+1)=ef:=by
    unfold nodeAt;rw[hi,b7,rP,db (aB _)];simp
   have hw:eL (a++List.replicate (n::r).length ef) (a.length+1) n=(a++[n])++List.replicate r.length ef:=by
    unfold eL;rw[hi,b7,rP,List.set_append_right _ _ (aB _)];simp
   simp only[fE];rw[Qn (by omega) (by omega) _ aj ht h0,hw];have:=Ou r (a++[n]) (by simp;omega) h;rw[c2,List.length_singleton]at this;rw[show((a.length:Int)+1+1)=((a.length+1:Nat):Int)+1 by omega,this];simp
theorem Qo {t:ao} (h:bH t=true):ei (b3 t)=some t:=by
 have h':=h;unfold bH at h';split at h'
 ·rename_i o;cases hn:pP t with
  |none=>rw[hn]at h';cases h'
  |some nm=>
   have hp:b3 t=fE 1 t:=by unfold b3;rw[ae h]
   have:=Ou t [] (by simpa using o.1) hn;rw[fo,o.1]at this;have e:hQ (List.replicate 9 ef) (b3 t)=some t:=by rw[hp];exact this
   unfold ei;rw[e];simp[h]
 ·cases h'
theorem Ov (i:Int):∀(f:Nat) (idx:Int) (b:Bs),0<=idx->idx+f<=255->∀r∈ix i f idx b,r.ino=i/\kO r.idx=true/\r.load.length<=53
 |0,_,_,_,_,r,hr=>by cases hr
 |f+1,idx,b,h0,o,r,hr=>by
  simp only[ix]at hr;split at hr
  ·cases hr
  ·rcases bS.1 hr with rfl|hr
   ·exact⟨rfl,by unfold kO;simp;omega,by show(b.take 40).length<=53;rw[cE];omega⟩
   ·exact Ov i f (idx+1) (b.drop 40) (by omega) (by omega) r hr
theorem OL:∀(l:List cj) (i:Int),0<=i->i+l.length<=255->(∀n∈l,n.body.length<=120)->∀r∈fE i l,kO r.ino=true/\kO r.idx=true/\r.load.length<=53
 |[],_,_,_,_,r,hr=>by cases hr
 |n::l,i,h0,o,d,r,hr=>by
  simp only[b7]at o;simp only[fE]at hr;rcases fK.1 hr with hr|hr
  ·unfold jg at hr;split at hr
   ·cases hr
   ·rcases bS.1 hr with rfl|hr
    ·exact⟨by unfold kO;simp;omega,rfl,by show 3<=53;decide⟩
    ·have hn:=d n dc;obtain⟨h,k2,j⟩:=Ov i _ 1 _ (by decide) (by omega) r hr;exact⟨by rw[h];unfold kO;simp;omega,k2,j⟩
  ·exact OL l (i+1) (by omega) (by omega) (fun x hx=>d x (cR _ hx)) r hr
theorem NX {t:ao} {g:Int} (d:e1 g=true):∀r∈b3 t,q5 g r=true:=by
 unfold b3;split
 ·rename_i h;obtain⟨o,aj⟩:=rv h;intro r hr;obtain⟨j,k2,A⟩:=OL t 1 (by decide) (by omega) aj r hr;unfold q5;rw[d,j,k2,decide_eq_true A];(try rfl)
 ·intro r hr;cases hr
def c1 {U d:Type} (ad:U->d->Prop):List U->List d->Prop
 |[],[]=>True
 |a::l,b::m=>ad a b/\c1 ad l m
 |_,_=>False
theorem c1.len {U d:Type} {ad:U->d->Prop}:∀{l:List U} {m:List d},c1 ad l m->l.length=m.length
 |[],[],_=>rfl
 |_::_,_::_,h=>by rw[b7,b7,h.2.len]
 |[],_::_,h=>h.elim
 |_::_,[],h=>h.elim
theorem c1.imp {U d:Type} {ad S:U->d->Prop} (hi:∀a b,ad a b->S a b):∀{l:List U} {m:List d},c1 ad l m->c1 S l m
 |[],[],_=>trivial
 |_::_,_::_,h=>⟨hi _ _ h.1,h.2.imp hi⟩
 |[],_::_,h=>h.elim
 |_::_,[],h=>h.elim
def CL (y x:aT):Prop:=y.kind=x.kind/\y.load=x.load
def Has (aC:List (ah×aT)) (new:List aT) (gen fr:Int) (p:ah) (x:aT):Prop:=
 (∃y,(p,y)∈aC/\CL y x)\/∃(i:Nat) (y:aT),p=⟨fr+i,gen⟩/\new[i]? =some y/\CL y x
theorem Has.more {aC:List (ah×aT)} {new e:List aT} {gen fr:Int} {p:ah} {x:aT} (h:Has aC new gen fr p x):Has aC (new++e) gen fr p x:=by
 rcases h with h|⟨i,y,o,aj,d⟩
 ·exact .inl h
 ·exact .inr ⟨i,y,o,by rw[dt (dS.1 aj).1];exact aj,d⟩
theorem Px {x:aT} {p:ah}:∀{aC:List (ah×aT)},p0 x aC=some p->∃y,(p,y)∈aC/\CL y x
 |[],h=>by cases h
 |q::l,h=>by
  simp only[p0]at h;split at h
  ·rename_i ha;cases h;unfold alike at ha;simp only[be,aR]at ha;exact⟨q.2,dc,ha⟩
  ·obtain⟨y,o,aj⟩:=Px h;exact⟨y,cR _ o,aj⟩
theorem Py {x:aT} {a:Int}:∀{new:List aT} {fr:Int},newAt x fr new=some a->∃(i:Nat) (y:aT),a=fr+i/\new[i]? =some y/\CL y x
 |[],_,h=>by cases h
 |y::l,fr,h=>by
  simp only[newAt]at h;split at h
  ·rename_i ha;cases h;unfold alike at ha;simp only[be,aR]at ha;exact⟨0,y,by omega,rfl,ha⟩
  ·obtain⟨i,y,o,aj,d⟩:=Py h;exact⟨i+1,y,by omega,aj,d⟩
structure kj (P:aT->Prop) (fr:Int) (s s':hg):Prop where
 app:∃e,s'.new=s.new++e/\∀y∈e,P y
 bad:s'.bad=false->s.bad=false/\∀i:Nat,s.new.length<=i->i<s'.new.length->fr+i<=65535
theorem kj.refl {P:aT->Prop} {fr:Int} (s:hg):kj P fr s s:=⟨⟨[],by simp,fun y d=>by cases d⟩,fun h=>⟨h,fun i o aj=>by omega⟩⟩
theorem kj.trans {P:aT->Prop} {fr:Int} {a b c:hg} (o:kj P fr a b) (aj:kj P fr b c):kj P fr a c:=by
 obtain⟨⟨e,A,B⟩,h⟩:=o;obtain⟨⟨f,D,F⟩,j⟩:=aj;refine⟨⟨e++f,by rw[D,A,bp],fun y d=>?_⟩,fun hc=>?_⟩
 ·rcases fK.1 d with d|d
  ·exact B y d
  ·exact F y d
 ·obtain⟨I,k2⟩:=j hc;obtain⟨L,M⟩:=h I;refine⟨L,fun i o aj=>?_⟩;by_cases G:i<b.new.length
  ·exact M i o G
  ·exact k2 i (by omega) aj
theorem kj.has {P:aT->Prop} {aC:List (ah×aT)} {gen fr:Int} {s s':hg} (j:kj P fr s s') {p:ah} {x:aT} (h:Has aC s.new gen fr p x):Has aC s'.new gen fr p x:=by
 obtain⟨⟨e,d,_⟩,_⟩:=j;rw[d];exact h.more
theorem NY {P:aT->Prop} {aC:List (ah×aT)} {gen fr:Int} (s:hg) {x:aT} (hx:P x):Has aC (gE aC gen fr s x).2.new gen fr (gE aC gen fr s x).1 x/\kj P fr s (gE aC gen fr s x).2:=by
 unfold gE;split
 ·rename_i p hp;exact⟨.inl (Px hp),.refl s⟩
 ·split
  ·rename_i a ha;obtain⟨i,y,o,aj,h⟩:=Py ha;exact⟨.inr ⟨i,y,by rw[o],aj,h⟩,.refl s⟩
  ·refine⟨.inr ⟨s.new.length,x,rfl,by simp,rfl,rfl⟩,⟨[x],rfl,fun y j=>by rw[hB.1 j];exact hx⟩,fun d=>?_⟩;simp only[cg,bD]at d;refine⟨d.1,fun i o aj=>?_⟩;simp only[c2,List.length_singleton]at aj;have:i=s.new.length:=by omega
   subst this;omega
theorem CM {P:aT->Prop} {aC:List (ah×aT)} {gen fr:Int}:∀(l:List aT) (s:hg),(∀x∈l,P x)->c1 (Has aC (eO aC gen fr s l).2.new gen fr) (eO aC gen fr s l).1 l/\kj P fr s (eO aC gen fr s l).2
 |[],s,_=>⟨trivial,.refl s⟩
 |x::l,s,h=>by
  obtain⟨o,aj⟩:=NY (aC:=aC) (gen:=gen) (fr:=fr) s (h x dc);obtain⟨j,d⟩:=CM (aC:=aC) (gen:=gen) (fr:=fr) l (gE aC gen fr s x).2 fun y A=>h y (cR _ A);exact⟨⟨d.has o,j⟩,aj.trans d⟩
def CS (aC:List (ah×aT)):Prop:=∀q∈aC,dI q.1=true
theorem Has.may {aC:List (ah×aT)} {new:List aT} {gen fr:Int} {p:ah} {x:aT} (h:Has aC new gen fr p x) (ho:CS aC) (j:e1 gen=true) (o:0<=fr) (d:∀i:Nat,i<new.length->fr+i<=65535):dI p=true:=by
 rcases h with⟨y,h,_⟩|⟨i,y,rfl,aj,_⟩
 ·exact ho _ h
 ·have:=d i (dS.1 aj).1;unfold dI;rw[j];simp;omega
def sX (gen:Int) (x:aT):Prop:=jG x=true/\x.gen=gen/\x.kind<=3
theorem Pz {gen:Int} {r:bA} (h:q5 gen r=true):sX gen (fZ gen r)/\fZ gen r=⟨1,gen,xo r⟩:=by
 have e:fZ gen r=⟨1,gen,xo r⟩:=by unfold fZ;rw[ae h];(try rfl)
 unfold q5 at h;simp only[be,aR]at h;have d:=CH h.1.1.1;rw[e];refine⟨⟨?_,rfl,by show(1:Int)<=3;decide⟩,rfl⟩;have hl:(xo r).length<=55:=by unfold xo;simp;omega
 unfold jG;simp;omega
theorem Qc (l:List ah):(cM l).length=6*l.length:=by
 induction l with
 |nil=>rfl
 |cons a l d=>show(lP a++cM l).length=_;rw[c2,d,b7];unfold lP;simp[fz];omega
theorem PA {gen:Int} {r:cK} {p:List ah} (h:kQ gen r p=true):sX gen (ey gen r p)/\ey gen r p=⟨3,gen,xn r p⟩:=by
 have e:ey gen r p=⟨3,gen,xn r p⟩:=by unfold ey;rw[ae h];(try rfl)
 unfold kQ at h;simp only[be,aR]at h;have j:=CH h.1.1.1.1.1.1.1;have d:=h.1.1.1.1.1.1.2;rw[e];refine⟨⟨?_,rfl,by show(3:Int)<=3;decide⟩,rfl⟩;have hl:(xn r p).length<=55:=by unfold xn;simp[fz,fW,Qc];omega
 unfold jG;simp;omega
theorem Qp {gen next id:Int} {p:List ah} (h:kR gen next id p=true):jG (eM gen next id p)=true/\eM gen next id p=⟨4,gen,xm next id p⟩:=by
 have e:eM gen next id p=⟨4,gen,xm next id p⟩:=by unfold eM;rw[ae h];(try rfl)
 unfold kR at h;simp only[be,aR]at h;have j:=CH h.1.1.1.1;have d:=h.1.2;rw[e];refine⟨?_,rfl⟩;have hl:(xm next id p).length<=55:=by unfold xm;simp[fz,fW,Qc];omega
 unfold jG;simp;omega
theorem PB {gen:Int} {l:List bO} (d:e1 gen=true) (h:l.all kP=true) (j:l.length<=6):sX gen (gW gen l)/\gW gen l=⟨2,gen,fC l⟩:=by
 have e:gW gen l=⟨2,gen,fC l⟩:=by unfold gW;rw[d,h];(try rfl)
 have o:=CH d;rw[e];refine⟨⟨?_,rfl,by show(2:Int)<=3;decide⟩,rfl⟩;have:=Jf l;unfold jG;simp;omega
theorem PC {U:Type} {p:U->Bool} {l:List U} (n:Nat) (h:l.all p=true):(l.take n).all p=true:=eU.2 fun x hx=>eU.1 h x (List.mem_of_mem_take hx)
theorem PD {U:Type} {p:U->Bool} {l:List U} (n:Nat) (h:l.all p=true):(l.drop n).all p=true:=eU.2 fun x hx=>eU.1 h x (List.mem_of_mem_drop hx)
theorem PE {gen:Int} (d:e1 gen=true):∀(f:Nat) (l:List bO),l.all kP=true->∀x∈gC gen f l,sX gen x
 |0,l,_,x,hx=>by simp only[gC]at hx;cases hx
 |f+1,[],_,x,hx=>by cases hx
 |f+1,a::l,h,x,hx=>by
  simp only[gC]at hx;rcases bS.1 hx with rfl|hx
  ·exact(PB d (PC 6 h) (by rw[cE];omega)).1
  ·exact PE d f _ (PD 6 h) x hx
structure CN (ad:ah->aT->Prop) (gen:Int) (p:ah) (h:bC) (f1 q:List ah):Prop where
 may:bH h.t=true
 xp:c1 ad f1 ((b3 h.t).map (fZ gen))
 an:((b3 h.t).zip f1).all kP=true
 xl:c1 ad q (gD gen ((b3 h.t).zip f1))
 ok:kQ gen h.r q=true
 root:ad p (ey gen h.r q)
theorem CN.imp {ad S:ah->aT->Prop} {gen:Int} {p:ah} {h:bC} {f1 q:List ah} (k:CN ad gen p h f1 q) (hi:∀a b,ad a b->S a b):CN S gen p h f1 q:=⟨k.may,k.xp.imp hi,k.an,k.xl.imp hi,k.ok,hi _ _ k.root⟩
theorem PF {ad:ah->aT->Prop} {gen:Int} (d:∀p x,ad p x->dI p=true):∀{l:List bA} {f1:List ah},(∀r∈l,q5 gen r=true)->c1 ad f1 (l.map (fZ gen))->(l.zip f1).all kP=true
 |[],_,_,_=>rfl
 |_::_,[],_,_=>rfl
 |r::l,p::f1,hl,h=>by
  simp only[List.zip_cons_cons,k4,be];refine⟨?_,PF d (fun x hx=>hl x (cR _ hx)) h.2⟩;have:=hl r dc;unfold q5 at this;simp only[be]at this;unfold kP;rw[this.1.1.2,this.1.2,d _ _ h.1];(try rfl)
theorem Qq {aC:List (ah×aT)} {gen fr:Int} (ho:CS aC) (D:e1 gen=true) (Y:0<=fr) {s s':hg} {h:bC} {p:ah} (hl:nL aC gen fr s h=some (p,s')) (hs:s.bad=false->∀i:Nat,i<s.new.length->fr+i<=65535) (W:s'.bad=false):
 (∃f1 q,CN (Has aC s'.new gen fr) gen p h f1 q)/\kj (sX gen) fr s s':=by
 unfold nL at hl;split at hl
 ·rename_i hm;obtain⟨A,I⟩:∃A,A=eO aC gen fr s ((b3 h.t).map (fZ gen)):=⟨_,rfl⟩
  obtain⟨B,o⟩:∃B,B=eO aC gen fr A.2 (gD gen ((b3 h.t).zip A.1)):=⟨_,rfl⟩
  simp only[<-I,<-o]at hl;split at hl
  ·cases hl
  ·rename_i hn;have O:kQ gen h.r B.1=true:=by
    apply Classical.byContradiction;intro hc;exact hn (by unfold ey;rw[ab hc])
   obtain⟨n1,ae⟩:=PA O;have Q:=NX (t:=h.t) D;obtain⟨d,j⟩:=CM (P:=sX gen) (aC:=aC) (gen:=gen) (fr:=fr) ((b3 h.t).map (fZ gen)) s fun x hx=>by
    obtain⟨r,hr,rfl⟩:=nZ.1 hx;exact(Pz (Q r hr)).1
   rw[<-I]at d j;obtain⟨eH,Pf⟩:=NY (P:=sX gen) (aC:=aC) (gen:=gen) (fr:=fr) B.2 n1;injection hl with hl
   rw[hl]at eH Pf;have U:kj (fun _=>True) fr A.2 B.2:=by rw[o];exact(CM (aC:=aC) (gen:=gen) (fr:=fr) _ A.2 fun _ _=>trivial).2
   have R:A.2.bad=false:=(U.bad (Pf.bad W).1).1;have S:∀i:Nat,i<A.2.new.length->fr+i<=65535:=fun i hi=>by
    obtain⟨ac,k2⟩:=j.bad R;by_cases hc:i<s.new.length
    ·exact hs ac i hc
    ·exact k2 i (by omega) hi
   have M:((b3 h.t).zip A.1).all kP=true:=PF (gen:=gen) (fun p x Z=>Z.may ho D Y S) Q d;obtain⟨F,G⟩:=CM (P:=sX gen) (aC:=aC) (gen:=gen) (fr:=fr) (gD gen ((b3 h.t).zip A.1)) A.2 fun x hx=>PE D _ _ M x hx;rw[<-o]at F G;have L:kj (sX gen) fr A.2 s':=G.trans Pf;exact⟨⟨A.1,B.1,hm,d.imp fun _ _ k=>L.has k,M,F.imp fun _ _ k=>Pf.has k,O,eH⟩,j.trans L⟩
 ·cases hl
def CE (ad:ah->aT->Prop) (gen:Int) (ps:List ah) (l:List bC):Prop:=c1 (fun p h=>∃f1 q,CN ad gen p h f1 q) ps l
theorem c1.snoc {U d:Type} {ad:U->d->Prop} {a:U} {b:d} (j:ad a b):∀{l:List U} {m:List d},c1 ad l m->c1 ad (l++[a]) (m++[b])
 |[],[],_=>⟨j,trivial⟩
 |_::_,_::_,h=>⟨h.1,h.2.snoc j⟩
 |[],_::_,h=>h.elim
 |_::_,[],h=>h.elim
theorem PG {aC:List (ah×aT)} {gen fr:Int}:∀{l:List bC} {s s':hg} {roots ps:List ah},mJ aC gen fr s l roots=some (s',ps)->kj (fun _=>True) fr s s'
 |[],s,s',_,_,h=>by cases h;exact .refl s
 |x::l,s,s',roots,ps,h=>by
  simp only[mJ]at h;split at h
  ·cases h
  ·rename_i p d hp;refine kj.trans ?_ (PG h);unfold nL at hp;split at hp
   ·simp only at hp;split at hp
    ·cases hp
    ·injection hp with hp
     have e:=congrArg Prod.snd hp;simp only at e;rw[<-e];exact((CM _ s fun _ _=>trivial).2.trans (CM _ _ fun _ _=>trivial).2).trans (NY _ trivial).2
   ·cases hp
theorem PH {aC:List (ah×aT)} {gen fr:Int} (ho:CS aC) (D:e1 gen=true) (B:0<=fr):∀{l m:List bC} {s s':hg} {roots ps:List ah},mJ aC gen fr s l roots=some (s',ps)->s'.bad=false->(s.bad=false->∀i:Nat,i<s.new.length->fr+i<=65535)->CE (Has aC s.new gen fr) gen roots m->CE (Has aC s'.new gen fr) gen ps (m++l)/\kj (sX gen) fr s s'
 |[],m,s,s',roots,ps,h,d,hs,hm=>by cases h;rw[e9];exact⟨hm,.refl s⟩
 |x::l,m,s,s',roots,ps,h,d,hs,hm=>by
  simp only[mJ]at h;split at h
  ·cases h
  ·rename_i p I hp;have A:=((PG h).bad d).1;obtain⟨o,aj⟩:=Qq ho D B hp hs A;obtain⟨j,F⟩:=PH ho D B (m:=m++[x]) h d (fun _ i hi=>by
    obtain⟨G,k2⟩:=aj.bad A;by_cases hc:i<s.new.length
    ·exact hs G i hc
    ·exact k2 i (by omega) hi) (c1.snoc o (hm.imp fun a b ⟨f1,q,k⟩=>⟨f1,q,k.imp fun _ _ z=>aj.has z⟩))
   rw[bp]at j;exact⟨j,aj.trans F⟩
theorem PI {d:au} {sum gen fr lo hi:Int} {trees:List bC} {new:List aT} {ps:List ah} (ho:CS (tz d sum lo hi)) (h:lay d sum gen fr lo hi trees=some (new,ps)):
 CE (Has (tz d sum lo hi) new gen fr) gen ps trees/\(∀x∈new,sX gen x)/\(∀i:Nat,i<new.length->fr+i<=65535)/\0<=fr/\e1 gen=true/\trees.length<=7:=by
 unfold lay at h;split at h
 ·cases h
 ·rename_i hc;simp only[not_or,Bool.not_eq_false,Int.not_lt,Nat.not_lt]at hc;split at h
  ·cases h
  ·rename_i s roots hs;split at h
   ·cases h
   ·rename_i j;simp only[Bool.not_eq_true]at j;cases h;obtain⟨o,⟨⟨e,A,B⟩,D⟩⟩:=PH ho hc.2.1 hc.2.2 (m:=[]) hs j (fun _ i hi=>by simp at hi) trivial;rw[fo]at o A;exact⟨o,by rw[A];exact B,fun i hi=>(D j).2 i (by simp) hi,hc.2.2,hc.2.1,hc.1⟩
def Reads (d:au) (p:ah) (x:aT):Prop:=∃y,bP d p.addr p.gen=some y/\CL y x
theorem Qr {s:Bs} {x:aT} (h:er s=some x):jG x=true:=by
 unfold er at h;split at h
 ·rename_i hl;split at h
  ·rename_i hp;cases h;apply Classical.byContradiction;intro hc;unfold dn at hp;rw[ab hc]at hp;rw[<-hp]at hl;cases hl
  ·cases h
 ·cases h
theorem HD {d:au} {a g:Int} {x:aT} (h:bP d a g=some x):jG x=true/\e1 x.gen=true:=by
 have hm:jG x=true:=by
  unfold bP at h;split at h
  ·split at h
   ·cases h
   ·rename_i y j;split at h
    ·cases h
    ·cases h;exact Qr j
  ·cases h
 refine⟨hm,?_⟩;unfold jG at hm;simp only[be,aR]at hm;unfold e1;simp;omega
theorem NZ {y:aT} {k g:Int} {l:Bs} (h:CL y ⟨k,g,l⟩):y=⟨k,y.gen,l⟩:=by
 obtain⟨a,b,c⟩:=y;obtain⟨o,aj⟩:=h;simp only at o aj;rw[o,aj]
theorem Qs {g d:Int} {r:bA} (h:q5 g r=true) (j:e1 d=true):q5 d r=true:=by
 unfold q5 at h⊢;simp only[be]at h⊢;exact⟨⟨⟨j,h.1.1.2⟩,h.1.2⟩,h.2⟩
theorem Qt {g d:Int} {r:cK} {p:List ah} (h:kQ g r p=true) (j:e1 d=true):kQ d r p=true:=by
 unfold kQ at h⊢;simp only[be]at h⊢;exact⟨⟨⟨⟨⟨⟨⟨j,h.1.1.1.1.1.1.2⟩,h.1.1.1.1.1.2⟩,h.1.1.1.1.2⟩,h.1.1.1.2⟩,h.1.1.2⟩,h.1.2⟩,h.2⟩
theorem Reads.rec {d:au} {p:ah} {g:Int} {r:bA} (h:Reads d p (fZ g r)) (ho:q5 g r=true):(bP d p.addr p.gen).bind eh=some r:=by
 obtain⟨y,o,aj⟩:=h;rw[(Pz ho).2]at aj;have:=Qh (Qs ho (HD o).2);rw[o,l3,NZ aj,this]
theorem Reads.root {d:au} {p:ah} {g:Int} {r:cK} {q:List ah} (h:Reads d p (ey g r q)) (ho:kQ g r q=true):(bP d p.addr p.gen).bind dJ=some (r,q):=by
 obtain⟨y,o,aj⟩:=h;rw[(PA ho).2]at aj;have:=Qg (Qt ho (HD o).2);rw[o,l3,NZ aj,this]
theorem Reads.index {d:au} {p:ah} {g:Int} {l:List bO} (h:Reads d p (gW g l)) (A:e1 g=true) (ho:l.all kP=true) (h0:l≠[]) (j:l.length<=6):(bP d p.addr p.gen).bind dp=some (l.map ju):=by
 obtain⟨y,o,aj⟩:=h;rw[(PB A ho j).2]at aj;have:=Qm h0 j (HD o).2 ho;rw[o,l3,NZ aj,this]
theorem PJ {ad:ah->aT->Prop} {f:bA->aT}:∀{l:List bA} {f1:List ah},c1 ad f1 (l.map f)->∀i∈l.zip f1,i.1∈l/\ad i.2 (f i.1)
 |[],_,_,i,hi=>by cases hi
 |_::_,[],h,_,_=>h.elim
 |r::l,p::f1,h,i,hi=>by
  rcases bS.1 hi with rfl|hi
  ·exact⟨dc,h.1⟩
  ·obtain⟨o,aj⟩:=PJ h.2 i hi;exact⟨cR _ o,aj⟩
def N1 (d:au) (gen:Int) (l:List bO):Prop:=∀i∈l,q5 gen i.1=true/\Reads d i.2 (fZ gen i.1)
theorem PK {d:au} {gen:Int}:∀(l:List bO) (j:List bA),N1 d gen l->kb d (l.map ju) j=some (j++l.map (·.1))
 |[],j,_=>by simp[kb]
 |i::l,j,h=>by
  obtain⟨o,aj⟩:=h i dc;have e:=aj.rec o;simp only[eD,kb];rw[show(ju i).2=i.2 from rfl,e];simp only;rw[ab (by show¬(i.1.ino≠i.1.ino\/i.1.idx≠i.1.idx);simp),PK l _ fun x hx=>h x (cR _ hx)];simp
theorem PL {d:au} {gen:Int} (j:e1 gen=true):∀(f:Nat) (l:List bO) (q:List ah) (an:List bO) (rs:List bA),c1 (Reads d) q (gC gen f l)->l.length<=f->l.all kP=true->N1 d gen l->eN d q an rs=some (an++l.map ju,rs++l.map (·.1))
 |0,l,q,an,rs,hq,h,_,_=>by
  obtain rfl:l=[]:=e8 (by omega);cases q with
  |nil=>simp[eN]
  |cons a q=>exact hq.elim
 |f+1,[],q,an,rs,hq,_,_,_=>by
  cases q with
  |nil=>simp[eN]
  |cons a q=>exact hq.elim
 |f+1,a::l,[],an,rs,hq,_,_,_=>hq.elim
 |f+1,a::l,p::q,an,rs,hq,h,ho,hi=>by
  obtain⟨o,aj⟩:=hq;have e:=o.index j (PC 6 ho) (by simp) (by rw[cE];omega);simp only[eN];rw[e];simp only;rw[PK _ rs fun x hx=>hi x (List.mem_of_mem_take hx)];simp only;rw[PL j f ((a::l).drop 6) q _ _ aj (by rw[bW];simp only[b7]at h⊢;omega) (PD 6 ho) fun x hx=>hi x (List.mem_of_mem_drop hx)];rw[bp,bp,<-cX,<-cX,jT]
theorem N2:∀{l:List bA} {f1:List ah},f1.length=l.length->((l.zip f1).map ju).map (·.2)=f1/\(l.zip f1).map (·.1)=l
 |[],[],_=>⟨rfl,rfl⟩
 |[],_::_,h=>by cases h
 |_::_,[],h=>by cases h
 |r::l,p::f1,h=>by
  obtain⟨o,aj⟩:=N2 (l:=l) (f1:=f1) (by simpa using h);exact⟨by simp only[List.zip_cons_cons,eD,o];rfl,by simp only[List.zip_cons_cons,eD,aj]⟩
structure CO (d:au) (gen:Int) (x:gY) (h:bC) (f1:List ah):Prop where
 root:x.root=h.r
 tree:x.tree=h.t
 may:bH h.t=true
 an:x.an=((b3 h.t).zip f1).map ju
 xp:c1 (Reads d) f1 ((b3 h.t).map (fZ gen))
theorem Qu {d:au} {gen:Int} {p:ah} {h:bC} {f1 q:List ah} (k:CN (Reads d) gen p h f1 q):∃x,lR d p=some (x,q++f1)/\CO d gen x h f1:=by
 have j:e1 gen=true:=by
  have:=k.ok;unfold kQ at this;simp only[be]at this;exact this.1.1.1.1.1.1.1
 have hlen:f1.length=(b3 h.t).length:=by have:=k.xp.len;rwa [hS]at this
 have hz:=PJ k.xp;have D:N1 d gen ((b3 h.t).zip f1):=fun i hi=>⟨NX j _ (hz i hi).1,(hz i hi).2⟩;have B:=PL j _ _ q [] [] k.xl (aB _) k.an D;obtain⟨o,A⟩:=N2 hlen;unfold lR;rw[k.root.root k.ok];simp only;rw[B];simp only[fo];rw[A,Qo k.may];simp only;rw[o];exact⟨_,rfl,rfl,rfl,k.may,rfl,k.xp⟩
def Jb (d:au) (gen:Int) (l:List gY) (m:List bC):Prop:=c1 (fun x h=>∃f1,CO d gen x h f1) l m
theorem PM {d:au} {gen:Int} {ad:ah->aT->Prop} (B:∀p x,ad p x->Reads d p x):∀(l m:List bC) (ps:List ah) (s:jh),CE ad gen ps l->Jb d gen s.trees m->
 ∃s',iy d ps s=some s'/\s'.next=s.next/\s'.id=s.id/\Jb d gen s'.trees (m++l)/\∀z∈s'.all,z∈s.all\/∃x,ad z x
 |[],m,[],s,_,hs=>⟨s,rfl,rfl,rfl,by rw[e9];exact hs,fun z hz=>.inl hz⟩
 |[],_,_::_,_,h,_=>h.elim
 |_::_,_,[],_,h,_=>h.elim
 |h::l,m,p::ps,s,⟨⟨f1,q,k⟩,aj⟩,hs=>by
  obtain⟨x,hx,L⟩:=Qu (k.imp B);obtain⟨s',F,G,I,A,j⟩:=PM B l (m++[h]) ps {s with trees:=s.trees++[x],all:=s.all++(q++f1)} aj (hs.snoc ⟨f1,L⟩);refine⟨s',by simp only[iy,hx];exact F,G,I,by rw[bp]at A;exact A,fun z hz=>?_⟩;rcases j z hz with j|j
  ·rcases fK.1 j with j|j
   ·exact .inl j
   ·have D:∀{a:List ah} {b:List aT},c1 ad a b->z∈a->∃x,ad z x:=by
     intro a
     induction a with
     |nil=>intro b _ hz;cases hz
     |cons c a M=>
      intro b o hz;cases b with
      |nil=>exact o.elim
      |cons y b=>
       rcases bS.1 hz with rfl|hz
       ·exact⟨y,o.1⟩
       ·exact M o.2 hz
    rcases fK.1 j with j|j
    ·exact .inr (D k.xl j)
    ·exact .inr (D k.xp j)
  ·exact .inr j
theorem N3 {ad:ah->aT->Prop} {gen:Int}:∀{ps:List ah} {l:List bC},CE ad gen ps l->∀p∈ps,∃x,ad p x
 |[],_,_,p,hp=>by cases hp
 |_::_,[],h,_,_=>h.elim
 |a::ps,h::l,⟨⟨f1,q,k⟩,aj⟩,p,hp=>by
  rcases bS.1 hp with rfl|hp
  ·exact⟨_,k.root⟩
  ·exact N3 aj p hp
theorem PN {d:au} {gen sum next id g:Int} {ad:ah->aT->Prop} (D:∀p x,ad p x->Reads d p x) {y:aT} (G:bP d sum (-1)=some y) {ps:List ah} (hs:c0 y=some (next,id,ps)) (F:y.gen=g) {l:List bC} (ht:CE ad gen ps l):
 ∃s,look d sum=some s/\s.next=next/\s.id=id/\Jb d gen s.trees l/\∀z∈s.all,z=⟨sum,g⟩\/∃x,ad z x:=by
 obtain⟨s',j,o,A,B,h⟩:=PM (d:=d) D l [] ps ⟨next,id,[],⟨sum,y.gen⟩::ps⟩ ht trivial;refine⟨s',by unfold look;rw[G];simp only[hs];exact j,o,A,B,fun z hz=>?_⟩;rcases h z hz with h|h
 ·rcases bS.1 h with h|h
  ·exact .inl (by rw[h,F])
  ·exact .inr (N3 ht z h)
 ·exact .inr h
theorem CP {d d':au} {a g:Int} (h:d'.read a=d.read a):bP d' a g=bP d a g:=by unfold bP;rw[h]
theorem PO {d d':au}:∀{l:List bO} {j:List bA},(∀i∈l,d'.read i.2.addr=d.read i.2.addr)->kb d' l j=kb d l j
 |[],_,_=>rfl
 |i::l,j,h=>by
  simp only[kb];rw[CP (h i dc)];split
  ·rfl
  ·split
   ·rfl
   ·exact PO fun x hx=>h x (cR _ hx)
theorem PQ {d d':au}:∀{q:List ah} {an j:List bO} {rs d0:List bA},eN d q an rs=some (j,d0)->(∃e,j=an++e)/\((∀z∈q,d'.read z.addr=d.read z.addr)->(∀i∈j,d'.read i.2.addr=d.read i.2.addr)->eN d' q an rs=some (j,d0))
 |[],an,j,rs,d0,h=>by cases h;exact⟨⟨[],by simp⟩,fun _ _=>rfl⟩
 |p::q,an,j,rs,d0,h=>by
  simp only[eN]at h⊢;split at h
  ·cases h
  ·rename_i l hl;split at h
   ·cases h
   ·rename_i B A;obtain⟨⟨e,he⟩,aj⟩:=PQ (d':=d') h;refine⟨⟨l++e,by rw[he,bp]⟩,fun hq hi=>?_⟩;rw[CP (hq p dc),hl];simp only;rw[PO fun i o=>hi i (by rw[he];simp[o]),A];exact aj (fun z hz=>hq z (cR _ hz)) hi
theorem Qv {d d':au} {p:ah} {x:gY} {l:List ah} (h:lR d p=some (x,l)) (hp:d'.read p.addr=d.read p.addr) (hl:∀z∈l,d'.read z.addr=d.read z.addr):lR d' p=some (x,l):=by
 unfold lR at h⊢;rw[CP hp];split at h
 ·cases h
 ·rename_i r q hq;split at h
  ·cases h
  ·rename_i an cP hr;split at h
   ·cases h
   ·rename_i t ht;cases h;have:=(PQ (d':=d') hr).2 (fun z hz=>hl z (by simp[hz])) (fun i hi=>hl i.2 (fK.2 (.inr (nZ.2 ⟨i,hi,rfl⟩))));simp only[this,ht]
theorem PR {d d':au}:∀{l:List ah} {s s':jh},iy d l s=some s'->(∀z∈s.all,z∈s'.all)/\((∀z∈l,d'.read z.addr=d.read z.addr)->(∀z∈s'.all,d'.read z.addr=d.read z.addr)->iy d' l s=some s')
 |[],s,s',h=>by cases h;exact⟨fun _ h=>h,fun _ _=>rfl⟩
 |p::r,s,s',h=>by
  simp only[iy]at h⊢;split at h
  ·cases h
  ·rename_i x l hx;obtain⟨o,aj⟩:=PR (d':=d') h;refine⟨fun z hz=>o z (fK.2 (.inl hz)),fun hl ha=>?_⟩;rw[Qv hx (hl p dc) fun z hz=>ha z (o z (fK.2 (.inr hz)))];exact aj (fun z hz=>hl z (cR _ hz)) ha
theorem Qw {d d':au} {sum:Int} {s:jh} (h:look d sum=some s) (ha:∀z∈s.all,d'.read z.addr=d.read z.addr):look d' sum=some s:=by
 unfold look at h⊢;split at h
 ·cases h
 ·rename_i x hx;split at h
  ·cases h
  ·rename_i n i p hp;obtain⟨o,aj⟩:=PR (d':=d') h;rw[CP (ha ⟨sum,x.gen⟩ (o _ dc)),hx];simp only[hp];exact aj (fun z hz=>ha z (o z (cR _ hz))) ha
structure Calm (d:au):Prop where
 down:d.down=false
 arm:d.arm<=0
 wait:d.wait=[]
theorem Calm.read {d:au} (h:Calm d) (a:Int):d.read a=if 0<=a/\a<(d.last.length:Int)then((d.last[a.toNat]?).getD [],true)else([],false):=by
 unfold au.read au.has au.waits;rw[h.down,h.wait];by_cases hc:0<=a/\a<(d.last.length:Int)
 ·rw[ae hc,decide_eq_true hc.1,decide_eq_true hc.2];(try rfl)
 ·rw[ab hc,ab];simp only[Bool.not_false,gL,be,aR];exact hc
def mT:List Bs->Int->List aT->List Bs
 |last,_,[]=>last
 |last,i,x::l=>mT (gA last ⟨i,dn x⟩) (i+1) l
def CT:Int->List aT->List lK
 |_,[]=>[]
 |i,x::l=>⟨i,dn x⟩::CT (i+1) l
theorem PS:∀(l:List aT) (last:List Bs) (i:Int),(CT i l).foldl gA last=mT last i l
 |[],_,_=>rfl
 |x::l,last,i=>PS l (gA last ⟨i,dn x⟩) (i+1)
theorem Jc:∀(l:List aT) (last:List Bs) (i:Int),(mT last i l).length=last.length
 |[],_,_=>rfl
 |x::l,last,i=>by
  show(mT (gA last ⟨i,dn x⟩) (i+1) l).length=_;rw[Jc l,zf]
theorem PT {last:List Bs} {i:Int} (b:Bs) (hi:0<=i) (a:Nat) (ha:(a:Int)≠i):(gA last ⟨i,b⟩)[a]? =last[a]? :=by
 unfold gA;rw[ae hi,List.getElem?_set_ne (by show i.toNat≠a;omega)]
theorem N4:∀(l:List aT) (last:List Bs) (i:Int) (a:Nat),0<=i->¬(i<=a/\(a:Int)<i+l.length)->(mT last i l)[a]? =last[a]?
 |[],_,_,_,_,_=>rfl
 |x::l,last,i,a,hi,ha=>by
  simp only[b7]at ha;show(mT (gA last ⟨i,dn x⟩) (i+1) l)[a]? =_;rw[N4 l _ (i+1) a (by omega) (by omega),PT _ hi a (by omega)]
theorem PU:∀(l:List aT) (last:List Bs) (i:Int) (k:Nat) (x:aT),0<=i->l[k]? =some x->i+k<last.length->(mT last i l)[(i+k).toNat]? =some (dn x)
 |[],_,_,k,x,_,h,_=>by simp at h
 |y::l,last,i,0,x,hi,h,hl=>by
  simp at h;subst h;show(mT (gA last ⟨i,dn y⟩) (i+1) l)[_]? =_;rw[N4 l _ (i+1) _ (by omega) (by omega)];unfold gA;rw[ae hi];show(last.set i.toNat (dn y))[(i+((0:Nat):Int)).toNat]? =_;rw[show(i+((0:Nat):Int)).toNat=i.toNat by omega,List.getElem?_set_self (by omega)]
 |y::l,last,i,k+1,x,hi,h,hl=>by
  show(mT (gA last ⟨i,dn y⟩) (i+1) l)[_]? =_;rw[show(i+((k+1:Nat):Int))=i+1+(k:Int) by omega];exact PU l _ (i+1) k x (by omega) (by simpa using h) (by rw[zf];omega)
theorem PV {d:au} {i:Int} {b:Bs} (hd:d.down=false) (ha:d.arm<=0) (h0:0<=i) (hi:i<(d.last.length:Int)) (j:b.length=64):d.write i b=({d with wait:=d.wait++[⟨i,b⟩]},true):=by
 have h:d.has i=true:=by unfold au.has;rw[hd,decide_eq_true h0,decide_eq_true hi];(try rfl)
 unfold au.write;rw[h,ab (by rw[decide_eq_true (by omega)];simp),ab (by omega),hd];(try rfl)
theorem PW:∀(l:List aT) (d:au) (i:Int),d.down=false->d.arm<=0->(∀x∈l,jG x=true)->0<=i->i+l.length<=(d.last.length:Int)->
 cQ d i l=({d with last:=(d.wait++CT i l).foldl gA d.last,wait:=[]},true)
 |[],d,i,hd,ha,_,_,_=>by
  unfold cQ au.flush au.lL;rw[ab (by rw[hd];decide)];simp[CT]
 |x::l,d,i,hd,ha,hm,h0,hl=>by
  simp only[b7]at hl;have e:=PV (b:=dn x) hd ha h0 (by omega) (On (hm x dc));unfold cQ;rw[e];simp only[if_true];rw[PW l ({d with wait:=d.wait++[lK.mk i (dn x)]}:au) (i+1) hd ha (fun y h=>hm y (cR _ h)) (by omega) (by show i+1+(l.length:Int)<=(d.last.length:Int);omega)];show _=({d with last:=(d.wait++(⟨i,dn x⟩:lK)::CT (i+1) l).foldl gA d.last,wait:=[]},true);simp
theorem PX {d:au} (h:Calm d) {l:List aT} {i:Int} (hm:∀x∈l,jG x=true) (h0:0<=i) (hl:i+l.length<=(d.last.length:Int)):
 ∃d',cQ d i l=(d',true)/\Calm d'/\d'.last.length=d.last.length/\(∀a:Int,¬(i<=a/\a<i+l.length)->d'.read a=d.read a)/\∀(k:Nat) (x:aT),l[k]? =some x->d'.read (i+k)=(dn x,true):=by
 have e:=PW l d i h.down h.arm hm h0 hl;rw[h.wait,fo,PS]at e;have hc:Calm {d with last:=mT d.last i l,wait:=[]}:=⟨h.down,h.arm,rfl⟩
 refine⟨_,e,hc,Jc ..,fun a ha=>?_,fun k x hk=>?_⟩
 ·rw[hc.read,h.read];show(if 0<=a/\a<((mT d.last i l).length:Int)then(((mT d.last i l)[a.toNat]?).getD [],true)else([],false))=_;rw[Jc];split
  ·rw[N4 l d.last i a.toNat h0 (by omega)]
  ·rfl
 ·have j:=(dS.1 hk).1;rw[hc.read];show(if 0<=i+(k:Int)/\i+(k:Int)<((mT d.last i l).length:Int)then(((mT d.last i l)[(i+(k:Int)).toNat]?).getD [],true)else([],false))=_;rw[Jc,ae (by omega),PU l d.last i k x h0 hk (by omega)];(try rfl)
theorem Qx {s:mC} (h:zh s=true):(ir s).length=64:=by
 have h':=h;unfold zh at h';simp only[be,aR]at h';have:=CH h'.1.1.1.1.1.1;unfold ir;rw[ae h];refine On ?_;unfold jG;simp[fW];omega
theorem PY {d:au} (h:Calm d) {s:mC} (hs:zh s=true) (hl:2<=d.last.length):
 ∃d',gu d s=(d',true)/\Calm d'/\d'.last.length=d.last.length/\∀a:Int,2<=a->d'.read a=d.read a:=by
 have hn:0<=s.n%2/\s.n%2<2:=by omega
 have e:=PV (b:=ir s) h.down h.arm hn.1 (by omega) (Qx hs);have j:({d with wait:=d.wait++[⟨s.n%2,ir s⟩]}:au).flush=({d with last:=gA d.last ⟨s.n%2,ir s⟩,wait:=[]},true):=by
  unfold au.flush au.lL;rw[ab (by show¬d.down=true;rw[h.down];decide),h.wait];(try rfl)
 have hc:Calm {d with last:=gA d.last ⟨s.n%2,ir s⟩,wait:=[]}:=⟨h.down,h.arm,rfl⟩
 refine⟨_,by unfold gu;rw[e];exact j,hc,zf ..,fun a ha=>?_⟩;rw[hc.read,h.read];show(if 0<=a/\a<((gA d.last ⟨s.n%2,ir s⟩).length:Int)then(((gA d.last ⟨s.n%2,ir s⟩)[a.toNat]?).getD [],true)else([],false))=_;rw[zf];split
 ·rw[PT _ hn.1 a.toNat (by omega)]
 ·rfl
def CF (v:aV) (a:Int):Prop:=bB v.aJ+v.pos<=a/\a<bB v.aJ+64
def Clear (v:aV) (l:List ah):Prop:=∀p∈l,2<=p.addr/\¬CF v p.addr
structure VI (v:aV):Prop where
 calm:Calm v.d
 room:bB v.aJ+64<=(v.d.last.length:Int)
 CQ:v.next<=65536
def CU (v:aV):Prop:=∃s gen,e1 gen=true/\look v.d v.sum=some s/\s.next=v.next/\s.id=v.id/\Jb v.d gen s.trees v.trees/\Clear v s.all
def PZ (v:aV):Prop:=∃s,look v.d v.sum=some s/\Clear v s.all
theorem CU.P0 {v:aV} (h:CU v):PZ v:=let⟨s,_,_,o,_,_,_,aj⟩:=h;⟨s,o,aj⟩
theorem P1 {d:au} {a g:Int} {x:aT} (h:d.read a=(dn x,true)) (hm:jG x=true) (j:g<0\/x.gen=g):bP d a g=some x:=by
 unfold bP;rw[h];simp only[if_true,Om hm];rw[ab (by omega)]
theorem Qy {d:au} {a g:Int} {x:aT} (h:bP d a g=some x):0<=a/\a<(d.last.length:Int):=by
 have hr:(d.read a).2=true:=by
  unfold bP at h;split at h
  ·assumption
  ·cases h
 unfold au.read at hr;split at hr
 ·rename_i j;unfold au.has at j;simp at j;omega
 ·cases hr
theorem Qz {d:au} {sum:Int} {s:jh} (j:d.last.length<=65536) (h:look d sum=some s):∀p∈s.all,dI p=true:=by
 unfold look at h;split at h
 ·cases h
 ·rename_i x hx;split at h
  ·cases h
  ·rename_i n i p hp;refine wk (P:=fun p=>dI p=true) (fun p h=>h) h fun q hq=>?_;rcases bS.1 hq with rfl|hq
   ·have:=Qy hx;unfold dI;rw[(HD hx).2];simp;omega
   ·exact eU.1 (Aq hp) q hq
theorem N5 {d:au} {sum lo hi:Int} {q:ah×aT} (h:q∈tz d sum lo hi):∃s,look d sum=some s/\q.1∈s.all/\bP d q.1.addr q.1.gen=some q.2/\(q.1.addr<lo\/hi<=q.1.addr):=by
 unfold tz at h;obtain⟨p,hp,hq⟩:=List.mem_filterMap.1 h;unfold lS at hq;split at hq
 ·cases hq
 ·rename_i x hx;split at hq
  ·rename_i hc;cases hq;unfold blocks at hp;cases hl:look d sum with
   |none=>rw[hl]at hp;cases hp
   |some s=>rw[hl]at hp;exact⟨s,rfl,wm hp,hx,by simpa using hc⟩
  ·cases hq
theorem N6 {d:au} {sum lo hi:Int} (h:d.last.length<=65536):CS (tz d sum lo hi):=fun q hq=>by
 obtain⟨s,o,aj,_⟩:=N5 hq;exact Qz h o _ aj
theorem QA {st v:aV} {gen:Int} {new:List aT} {ps:List ah} {aC:List (ah×aT)} (hc:Calm v.d) (h0:0<=v.aJ) (ar:0<=v.pos) (hr:bB v.aJ+64<=(v.d.last.length:Int)) (am:v.d.last.length<=65536)
 (ht:CE (Has aC new gen (bB v.aJ+v.pos)) gen ps v.trees) (hn:∀x∈new,sX gen x) (D:∀i:Nat,i<new.length->bB v.aJ+v.pos+i<=65535) (A:e1 gen=true) (al:v.trees.length<=7)
 (ho:∀q∈aC,dI q.1=true/\bP v.d q.1.addr q.1.gen=some q.2/\2<=q.1.addr/\¬CF v q.1.addr) (hp:v.pos+new.length+1<=64) (hx:e1 v.next=true) (hi:e1 v.id=true):
 ∃w,hh st v gen (new,ps)=(w,0)/\Calm w.d/\w.d.last.length=v.d.last.length/\w.aJ=v.aJ/\w.next=v.next/\w.id=v.id/\w.trees=v.trees/\CU w:=by
 have an:2<=bB v.aJ:=by unfold bB;rw[ab (by omega)];omega
 obtain⟨fr,F⟩:∃fr,fr=bB v.aJ+v.pos:=⟨_,rfl⟩
 rw[<-F]at ht D;obtain⟨ak,L,eH,ao,Z,R⟩:=PX hc (l:=new) (i:=fr) (fun x hx=>(hn x hx).1) (by omega) (by omega);have G:kR gen v.next v.id ps=true:=by
  have hl:=c1.len ht;unfold kR;rw[A,hx,hi,decide_eq_true (by omega)];simp only[gL,eU];intro p hp;obtain⟨x,hx⟩:=N3 ht p hp;exact hx.may (fun q hq=>(ho q hq).1) A (by omega) D
 obtain⟨I,W⟩:=Qp G;obtain⟨j,M,Pf,ap,B,S⟩:=PX eH (l:=[eM gen v.next v.id ps]) (i:=fr+new.length) (fun x hx=>by rw[hB.1 hx];exact I) (by omega) (by simp only[List.length_singleton];omega);simp only[List.length_singleton]at B;have out:∀a:Int,¬(fr<=a/\a<fr+new.length+1)->j.read a=v.d.read a:=fun a ha=>by rw[B a (by omega),Z a (by omega)]
 have O:∀p x,Has aC new gen fr p x->Reads j p x:=by
  rintro p x (⟨y,h,hl⟩|⟨i,y,rfl,h,hl⟩)
  ·obtain⟨_,U,k2,o⟩:=ho _ h;unfold CF at o;exact⟨y,by rw[CP (out p.addr (by show¬_;simp only at k2 o;omega))];exact U,hl⟩
  ·have Q:=(dS.1 h).1;obtain⟨n1,Y,_⟩:=hn y (km h);exact⟨y,P1 (by show j.read (fr+i)=_;rw[B _ (by omega)];exact R i y h) n1 (.inr Y),hl⟩
 have hs:bP j (fr+new.length) (-1)=some (eM gen v.next v.id ps):=by
  have:=S 0 _ rfl;rw[show fr+(new.length:Int)+((0:Nat):Int)=fr+new.length by omega]at this;exact P1 this I (.inl (by decide))
 obtain⟨s,ac,ae,ag,ai,aj⟩:=PN O hs (by rw[W];exact Qf G) rfl ht;refine⟨{v with d:=j,seq:=gen,sum:=fr+new.length,pos:=v.pos+new.length+1},?_,Pf,by show j.last.length=_;omega,rfl,rfl,rfl,rfl,s,gen,A,ac,ae,ag,ai,fun z hz=>?_⟩
 ·unfold hh;simp only[<-F,L,M];simp
 ·unfold CF;show 2<=z.addr/\¬(bB v.aJ+(v.pos+new.length+1)<=z.addr/\z.addr<bB v.aJ+64);rcases aj z hz with rfl|⟨x,⟨y,h,_⟩|⟨i,y,rfl,h,_⟩⟩
  ·exact⟨by show 2<=fr+(new.length:Int);omega,by show¬(_<=fr+(new.length:Int)/\_);omega⟩
  ·obtain⟨_,_,k2,o⟩:=ho _ h;unfold CF at o;simp only at k2 o;omega
  ·have Q:=(dS.1 h).1;exact⟨by show 2<=fr+(i:Int);omega,by show¬(_<=fr+(i:Int)/\_);omega⟩
theorem QB {out:List Int} {p:ah} (k:Nat):((dq out p)[k]?).getD 0=(out[k]?).getD 0+(if k<out.length/\dW p.addr=k then 1 else 0):=by
 unfold dq;split
 ·rename_i h;by_cases hk:dW p.addr=k
  ·have e:(dW p.addr).toNat=k:=by omega
   rw[e,List.getElem?_set_self (by omega),ae (by omega)];(try rfl)
  ·rw[List.getElem?_set_ne (by omega),ab (by omega)];omega
 ·rename_i h;rw[ab (by omega)];omega
theorem P2 {k:Nat}:∀(l:List ah) (out:List Int),k<out.length->(out[k]?).getD 0<=((l.foldl dq out)[k]?).getD 0/\((∃p∈l,dW p.addr=k)->(out[k]?).getD 0<((l.foldl dq out)[k]?).getD 0)
 |[],out,_=>⟨ej _,fun⟨p,hp,_⟩=>by cases hp⟩
 |p::l,out,hk=>by
  have e:=QB (out:=out) (p:=p) k;obtain⟨o,aj⟩:=P2 l (dq out p) (by rw[KI];exact hk);rw[gK];refine⟨by split at e<;>omega,fun⟨q,hq,d⟩=>?_⟩;rcases bS.1 hq with rfl|hq
  ·rw[ae ⟨hk,d⟩]at e;omega
  ·have:=aj ⟨q,hq,d⟩;split at e<;>omega
theorem P3 {bv:Int}:∀{l:List Int} {i k:Int},hb bv i l=some k->∃j:Nat,k=i+j/\l[j]? =some 0/\k≠bv
 |[],_,_,h=>by cases h
 |n::l,i,k,h=>by
  simp only[hb]at h;split at h
  ·rename_i hc;cases h;exact⟨0,by omega,by simp[hc.1],hc.2⟩
  ·obtain⟨j,o,aj,d⟩:=P3 h;exact⟨j+1,by omega,by simpa using aj,d⟩
theorem QC {d:au} {sum bv aJ:Int} (h:ke d sum bv=some aJ):∀p∈(blocks d sum).getD [],2<=p.addr->¬(bB aJ<=p.addr/\p.addr<bB aJ+64):=by
 intro p hp aj hc;obtain⟨j,B,o,_⟩:=P3 h;have hj:j<bK d:=by rw[<-rk d sum];exact(dS.1 o).1
 have A:dW p.addr=(j:Int):=by
  unfold bB at hc;rw[ab (by omega)]at hc;unfold dW;rw[ab (by omega)];omega
 have:=(P2 (k:=j) ((blocks d sum).getD []) (List.replicate (bK d) 0) (by rw[k0];exact hj)).2 ⟨p,hp,A⟩;unfold ga at o;rw[o]at this;rw[tY,ae hj]at this;simp at this
theorem QD {d:au} {sum:Int} {s:jh} (h:look d sum=some s) {p:ah} (hp:p∈s.all):∃q∈(blocks d sum).getD [],q.addr=p.addr:=by
 unfold blocks;rw[h];simp only[dM,kq];unfold oQ;have B:∀(l:List ah) (p:ah),∃q∈cW p l,q.addr=p.addr:=by
  intro l p
  induction l with
  |nil=>exact⟨p,hB.2 rfl,rfl⟩
  |cons a l j=>
   simp only[cW];split
   ·rename_i h;exact⟨a,dc,h⟩
   ·split
    ·exact⟨p,dc,rfl⟩
    ·obtain⟨q,o,aj⟩:=j;exact⟨q,cR _ o,aj⟩
 have D:∀(l:List ah) (p:ah),∀z∈l,z∈cW p l:=by
  intro l p
  induction l with
  |nil=>intro z hz;cases hz
  |cons a l j=>
   intro z hz;simp only[cW];split
   ·exact hz
   ·split
    ·exact cR _ hz
    ·rcases bS.1 hz with rfl|hz
     ·exact dc
     ·exact cR _ (j z hz)
 have A:∀(l:List ah) (out:List ah),∀z∈out,z∈l.foldl (fun out p=>cW p out) out:=by
  intro l
  induction l with
  |nil=>exact fun out z hz=>hz
  |cons a l j=>exact fun out z hz=>j _ z (D out a z hz)
 have:∀(l:List ah) (out:List ah),p∈l->∃q∈l.foldl (fun out p=>cW p out) out,q.addr=p.addr:=by
  intro l
  induction l with
  |nil=>intro _ h;cases h
  |cons a l j=>
   intro out h;rcases bS.1 h with rfl|h
   ·obtain⟨q,o,aj⟩:=B out p;exact⟨q,A l _ q o,aj⟩
   ·exact j _ h
 exact this s.all [] hp
structure CG (v w:aV):Prop where
 cD:VI w
 N7:CU w
 trees:w.trees=v.trees
 next:w.next=v.next
 id:w.id=v.id
theorem VK.QE {K:Nat} {v:aV} (h:VK K v) (hi:VI v):e1 v.next=true/\e1 v.id=true:=by
 have:=h.oT;have:=hi.CQ;have:=h.rB;have:=h.rC;unfold e1;simp;omega
theorem P4 {K:Nat} {v v2:aV} {gen lo hi:Int} {p:List aT×List ah} (hk:VK K v) (hv:VI v) (hc:∀s,look v.d v.sum=some s->Clear v s.all)
 (hl:lay v.d v.sum gen (bB v2.aJ+v2.pos) lo hi v.trees=some p) (L:Calm v2.d) (h0:0<=v2.aJ) (S:0<=v2.pos) (hr:bB v2.aJ+64<=(v2.d.last.length:Int)) (hlen:v2.d.last.length=v.d.last.length)
 (O:∀a:Int,2<=a->v2.d.read a=v.d.read a) (M:∀s,look v.d v.sum=some s->∀q∈s.all,¬CF v2 q.addr) (hp:v2.pos+p.1.length+1<=64) (ht:v2.trees=v.trees) (hn:v2.next=v.next) (j:v2.id=v.id):
 (hh v v2 gen p).2=0/\CG v (hh v v2 gen p).1:=by
 have h:v.d.last.length<=65536:=by have:=hk.last;omega
 obtain⟨new,ps⟩:=p;obtain⟨o,aj,F,ae,G,I⟩:=PI (N6 h) hl;obtain⟨n1,R⟩:=hk.QE hv;obtain⟨w,e,U,W,Y,D,Z,ab,ac⟩:=QA (st:=v) (v:=v2) (gen:=gen) (new:=new) (ps:=ps) (aC:=tz v.d v.sum lo hi) L h0 S hr (by omega) (by rw[ht];exact o) aj F G (by rw[ht];exact I) (fun q hq=>by
  obtain⟨s,A,k2,Q,ag⟩:=N5 hq;have B:=hc s A _ k2;exact⟨N6 h q hq,by rw[CP (O _ B.1)];exact Q,B.1,M s A _ k2⟩) hp (by rw[hn];exact n1) (by rw[j];exact R)
 rw[e];exact⟨rfl,⟨U,by rw[Y,W];exact hr,by rw[D,hn];exact hv.CQ⟩,ac,by rw[ab,ht],by rw[D,hn],by rw[Z,j]⟩
theorem Jd {K:Nat} {v:aV} {lo hi:Int} (hk:VK K v) (ah:K<=900) (hv:VI v) (hc:∀s,look v.d v.sum=some s->Clear v s.all):
 (cq v lo hi).2≠11/\((cq v lo hi).2≠0->(cq v lo hi).1=v)/\((cq v lo hi).2=0->CG v (cq v lo hi).1):=by
 have O:v.d.last.length<=65536:=by have:=hk.last;omega
 have fail:∀c:Int,c≠11->c≠0->((v,c):aV×Int).2≠11/\(((v,c):aV×Int).2≠0->((v,c):aV×Int).1=v)/\(((v,c):aV×Int).2=0->CG v ((v,c):aV×Int).1):=fun c o aj=>⟨o,fun _=>rfl,fun h=>absurd h aj⟩;have done:∀r:aV×Int,r.2=0/\CG v r.1->r.2≠11/\(r.2≠0->r.1=v)/\(r.2=0->CG v r.1):=fun r h=>⟨by rw[h.1];decide,fun hn=>absurd h.1 hn,fun _=>h.2⟩;unfold cq;split
 ·rename_i h;rw[hv.calm.down]at h;cases h
 ·split
  ·exact fail 1 (by decide) (by decide)
  ·split
   ·exact fail 8 (by decide) (by decide)
   ·split
    ·exact fail 1 (by decide) (by decide)
    ·rename_i p hp;split
     ·rename_i hs;refine⟨by show(0:Int)≠11;decide,fun _=>rfl,fun _=>⟨hv,?_,rfl,rfl,rfl⟩⟩;unfold sameAs at hs;split at hs
      ·cases hs
      ·rename_i x hx;simp only[be]at hs;obtain⟨⟨o,_⟩,A⟩:=hs;split at A
       ·cases A
       ·rename_i next id roots R
        simp only[be,aR]at A;obtain⟨⟨⟨_,B⟩,D⟩,j⟩:=A;obtain⟨new,ps⟩:=p;obtain rfl:new=[]:=List.isEmpty_iff.1 o;obtain⟨U,_,_,_,Y,_⟩:=PI (N6 O) hp;simp only at j;subst j;obtain⟨s,I,ac,ae,ag,al⟩:=PN (d:=v.d) (fun q y hq=>by
         rcases hq with⟨z,hz,hl⟩|⟨i,z,_,hz,_⟩
         ·obtain⟨_,_,_,W,_⟩:=N5 hz;exact⟨z,W,hl⟩
         ·simp at hz) hx R rfl U
        exact⟨s,_,Y,I,by rw[ac,B],by rw[ae,D],ag,hc s I⟩
     ·split
      ·unfold writeNew;split
       ·exact fail 8 (by decide) (by decide)
       ·rename_i aJ G;split
        ·exact fail 8 (by decide) (by decide)
        ·split
         ·exact fail 8 (by decide) (by decide)
         ·rename_i Z Q;split
          ·exact fail 8 (by decide) (by decide)
          ·rename_i M;have F:=Bb G;have ai:(bK v.d:Int)*64+2<=v.d.last.length/\bK v.d<=100:=by
            have:=hk.last;unfold bK at F⊢;omega
           have hm:zh ⟨v.n+1,v.seq,v.sum,aJ,0⟩=true:=by
            have:=hk.n0;have:=hk.n1;have:=hk.jM;have:=hk.seq1;have:=hk.lT;have:=hk.jk;unfold zh e1;simp;omega
           obtain⟨d',L,B,D,j⟩:=PY hv.calm hm (by omega);simp only[L];rw[ab (by simp)];have ak:bB aJ+64<=(v.d.last.length:Int):=by unfold bB;rw[ab (by omega)];omega
           refine done _ (P4 (v2:={v with d:=d',n:=v.n+1,aJ:=aJ,pos:=0}) hk hv hc (lo:=lo) (hi:=hi) (by show lay _ _ _ (bB aJ+0) _ _ _=_;rw[Int.add_zero];exact Q) B F.1 (ej 0) (by show bB aJ+64<=(d'.last.length:Int);omega) D j (fun s hs q hq=>?_) (by show(0:Int)+Z.1.length+1<=64;omega) rfl rfl rfl);obtain⟨z,hz,S⟩:=QD hs hq;have:=QC G z hz (by rw[S];exact(hc s hs q hq).1);unfold CF;show¬(bB aJ+0<=q.addr/\q.addr<bB aJ+64);omega
      ·rename_i M;exact done _ (P4 (v2:=v) hk hv hc hp hv.calm hk.jl hk.gF hv.room rfl (fun _ _=>rfl) (fun s hs q hq=>(hc s hs q hq).2) (by omega) rfl rfl rfl)
structure VS (v:aV):Prop where
 cD:VI v
 st:PZ v
theorem VS.clear {v:aV} (h:VS v):∀s,look v.d v.sum=some s->Clear v s.all:=fun s hs=>by
 obtain⟨t,o,aj⟩:=h.st;rw[hs]at o;cases o;exact aj
theorem CG.vs {v w:aV} (h:CG v w):VS w:=⟨h.cD,h.N7.P0⟩
theorem VS.Je {v:aV} (h:VS v) {l:List bC} {n:Int} (hn:n<=65536):VS {v with trees:=l,next:=n}:=⟨⟨h.cD.calm,h.cD.room,hn⟩,h.st⟩
theorem N8 {K:Nat} {v x:aV} (hk:VK K x) (j:K<=900) (h:VS v) (hx:VS x):VS (dK v x).1:=by
 obtain⟨o,aj,d⟩:=Jd (lo:=0) (hi:=0) hk j hx.cD hx.clear;unfold dK;simp only;rw[ab o];split
 ·exact h
 ·rename_i h0;exact(d (by simpa using h0)).vs
theorem QF {K:Nat} {v:aV} (hk:VK K v) (d:K+1<=900) (h:VS v):VS (hR v).1:=by
 unfold hR;split
 ·exact h
 ·rename_i hc;obtain⟨o,aj⟩:=Bd (h:=⟨⟨3,v.next,v.id*65536+v.next,0,0⟩,dD v.trees⟩) hk.may hk.head;have hx:VK (K+1) {v with trees:=dX v.trees ⟨⟨3,v.next,v.id*65536+v.next,0,0⟩,dD v.trees⟩,next:=v.next+1}:={hk.le (ks K)with trees:=by have:=hk.trees;show(dX _ _).length<=_;omega,may:=aj,oT:=by have:=hk.oT;show 0<=v.next+1;omega}
  have:=N8 hx d h (h.Je (by omega));simp only;split<;>exact this
theorem QG {K:Nat} {v:aV} (hk:VK K v) (j:K+1<=900) (h:VS v) (s:eC):VS (fG v s):=by
 unfold fG;split
 ·exact N8 hk (by omega) h h
 ·split
  ·exact QF hk j h
  ·split
   ·unfold kf;split
    ·exact h
    ·rename_i l hl;obtain⟨o,aj⟩:=Bf hl;exact N8 (x:={v with trees:=l}) (hk.wS (aB K) (by have:=hk.trees;omega) (fun x hx=>hk.may x (aj x hx))) (by omega) h (h.Je h.cD.CQ)
   ·split
    ·unfold kg;split
     ·exact h
     ·exact h.Je h.cD.CQ
    ·unfold jN;split
     ·exact h
     ·rename_i s hs;obtain⟨o,aj,d⟩:=Jd (lo:=bB s) (hi:=bB s+64) hk (by omega) h.cD h.clear;simp only;rw[ab o];split
      ·exact h
      ·rename_i h0;exact(d (by simpa using h0)).vs
theorem QH {K:Nat} {v:aV} (hk:VK K v) (d:K+1<=900) (h:VS v) (s:eC):VS (eP v s):=by
 unfold eP;split
 ·split
  ·exact h
  ·exact h.Je h.cD.CQ
 ·split
  ·exact h
  ·exact QG hk d h s
theorem P5 {l:Bs}:∀(k n K:Nat) {v:aV},VK K v->K+2*k<=890->VS v->VS (kT l k n v)
 |0,_,_,_,_,_,h=>h
 |k+1,n,K,v,hk,d,h=>by
  simp only[kT];split
  ·exact h
  ·exact P5 k _ (K+2) (tH hk _) (by omega) (QH hk (by omega) h _)
theorem QI:er rr=none:=by decide+kernel
theorem P6 (ap:Nat) (id:Int):look (eB ap id).d (eB ap id).sum=none:=by
 have hc:Calm (eB ap id).d:=⟨rfl,ej 0,rfl⟩
 have:bP (eB ap id).d 0 (-1)=none:=by
  unfold bP;rw[hc.read];split
  ·have e:((eB ap id).d.last[(0:Int).toNat]?).getD []=rr:=by
    show((List.replicate (2+ap*64) rr)[0]?).getD []=_;rw[tY,ae (by omega)];(try rfl)
   simp only[e,QI,if_true]
  ·rfl
 show look (eB ap id).d 0=none;unfold look;rw[this]
theorem P7 {ap:Nat} {id gen fr:Int}:lay (eB ap id).d (eB ap id).sum gen fr 0 0 (eB ap id).trees=(if 7<1\/e1 gen=false\/fr<0 then none else match mJ [] gen fr ⟨[],false⟩ [⟨⟨1,0,0,0,0⟩,nG⟩] []with
 |none=>none
 |some (s,roots)=>if s.bad then none else some (s.new,roots)):=by
 have e:tz (eB ap id).d (eB ap id).sum 0 0=[]:=by unfold tz blocks;rw[P6];(try rfl)
 unfold lay;rw[e,show(eB ap id).trees=[⟨⟨1,0,0,0,0⟩,nG⟩]from rfl,List.length_singleton];generalize mJ [] gen fr ⟨[],false⟩ [⟨⟨1,0,0,0,0⟩,nG⟩] []=r;cases r<;>rfl
theorem QJ {ap:Nat} {id:Int}:(cq (eB ap id) 0 0).2=11\/(cq (eB ap id) 0 0).2=0:=by
 have j:lay (eB ap id).d (eB ap id).sum 0 0 0 0 (eB ap id).trees=some (((mJ [] 0 0 ⟨[],false⟩ [⟨⟨1,0,0,0,0⟩,nG⟩] []).map fun x=>(x.1.new,x.2)).getD ([],[])):=by
  rw[P7];decide+kernel
 have h:lay (eB ap id).d (eB ap id).sum 1 2 0 0 (eB ap id).trees=some (((mJ [] 1 2 ⟨[],false⟩ [⟨⟨1,0,0,0,0⟩,nG⟩] []).map fun x=>(x.1.new,x.2)).getD ([],[])):=by
  rw[P7];decide+kernel
 have hn:(((mJ [] 1 2 ⟨[],false⟩ [⟨⟨1,0,0,0,0⟩,nG⟩] []).map fun x=>(x.1.new,x.2)).getD ([],[])).1.length=3:=by decide+kernel
 obtain⟨p,hp⟩:∃p,p=((mJ [] 1 2 ⟨[],false⟩ [⟨⟨1,0,0,0,0⟩,nG⟩] []).map fun x=>(x.1.new,x.2)).getD ([],[]):=⟨_,rfl⟩
 rw[<-hp]at h hn;unfold cq;split
 ·exact .inl rfl
 ·rw[j];rw[ab (by simp),ab (by show¬(1073741824:Int)<0+1;decide)];rw[show(eB ap id).seq+1=1 from rfl,show bB (eB ap id).aJ+(eB ap id).pos=2 from rfl,h];simp only;split
  ·exact .inr rfl
  ·rw[ab (by show¬(64:Int)<0+p.1.length+1;omega)];unfold hh;simp only;split
   ·exact .inl rfl
   ·split
    ·exact .inl rfl
    ·exact .inr rfl
theorem QK {ap:Nat} {id:Int} (o:1<=ap) (h:ap<=15) (h0:0<=id) (hi:id<=1000):VS (mK ap id).1:=by
 have hk:=LN (ap:=ap) h h0 hi;have hv:VI (eB ap id):=⟨⟨rfl,ej 0,rfl⟩,by show(66:Int)<=((List.replicate (2+ap*64) rr).length:Int);rw[k0];omega,by show(1:Int)<=65536;decide⟩
 obtain⟨L,_,M⟩:=Jd (lo:=0) (hi:=0) hk (by decide) hv fun s hs=>by rw[P6]at hs;cases hs
 have hw:=M (QJ.resolve_left L);have j:=wT (lo:=0) (hi:=0) hk;obtain⟨Y,I⟩:∃Y,Y=(cq (eB ap id) 0 0).1:=⟨_,rfl⟩
 show VS {(cq (eB ap id) 0 0).1 with d:=(nM (cq (eB ap id) 0 0).1).1,n:=1};rw[<-I]at hw j⊢;have hm:zh ⟨1,Y.seq,Y.sum,Y.aJ,Y.pos⟩=true:=by
  have:=j.jM;have:=j.seq1;have:=j.lT;have:=j.jk;have:=j.jl;have:=j.jm;have:=j.gF;have:=j.kh;unfold zh e1;simp;omega
 have hr:=hw.cD.room;have Q:2<=bB Y.aJ:=by unfold bB;rw[ab (by have:=j.jl;omega)];have:=j.jl;omega
 obtain⟨d',B,D,F,G⟩:=PY hw.cD.calm hm (by omega);unfold nM;rw[B];obtain⟨s,O,A⟩:=hw.N7.P0;exact⟨⟨D,by show bB Y.aJ+64<=(d'.last.length:Int);rw[F];exact hr,hw.cD.CQ⟩,s,Qw O fun z hz=>G _ (A z hz).1,A⟩
theorem QL (l:Bs) {ap dr:Nat} (o:1<=ap) (h:ap<=15) (hm:dr<=400):VS (jo l ap dr):=by
 unfold jo;exact P5 dr 0 3 (tI h (by decide) (by decide)) (by omega) (QK o h (by decide) (by decide))
def jO (t:ao) (i:Int):cj:=if i<1\/(t.length:Int)<i then ef else nodeAt t i
def p6 (n:cj):Bool:=decide (0<=n.mode)&&decide (n.mode<=255)
def eQ (n:cj):Bool:=if n.kind=0 then decide (n=ef)else if n.kind=1 then decide (n.body.length<=120)&&p6 n else if n.kind=2 then(cv n.body).isSome&&p6 n else false
def oV (t:ao):Nat->Nat->List Int->List Int
 |0,_,nm=>nm
 |f+1,i,nm=>oV t f (i+1) ((aW t i).foldl bump nm)
def jq (t:ao):List Int:=oV t t.length 1 (List.replicate 10 0)
theorem tK (t:ao) (i:Int):aW t i=e3 (jO t i):=by
 unfold aW jO e3;by_cases h:i<1\/(t.length:Int)<i
 ·rw[ae h,ae (by omega)];(try rfl)
 ·rw[ab h];by_cases hk:(nodeAt t i).kind=2
  ·rw[ab (by omega),ae hk]
  ·rw[ae (by omega),ab hk]
theorem Bk:∀{l:List aX} {p:Option Bs} {s b:Bs},eu p s l=some b->b.length<=120
 |[],p,s,b,h=>by
  simp only[eu]at h;split at h
  ·cases h
  ·cases h;omega
 |e::l,p,s,b,h=>by
  simp only[eu]at h;split at h
  ·cases h
  ·exact Bk h
theorem LU {b:Bs} {l:List aX} (h:cv b=some l):b.length<=120:=by
 unfold cv at h;split at h
 ·cases h
 ·split at h
  ·rename_i aj;exact Bk aj
  ·cases h
theorem tL (n:cj):p6 n=true↔¬(n.mode<0\/255<n.mode):=by
 unfold p6;simp only[be,aR];omega
theorem LV (nm:List Int) (n:cj):ff nm n=if eQ n=true then some ((e3 n).foldl bump nm)else none:=by
 unfold ff eQ e3;by_cases h0:n.kind=0
 ·have hk:¬n.kind=2:=by omega
  rw[ae h0,ae h0,ab hk];by_cases hn:n=ef
  ·rw[ae hn,ae (by simpa using hn)];(try rfl)
  ·rw[ab hn,ab (by simpa using hn)]
 ·rw[ab h0,ab h0];by_cases o:n.kind=1
  ·have hk:¬n.kind=2:=by omega
   rw[ae o,ae o,ab hk];unfold j6;by_cases d:n.mode<0\/255<n.mode\/120<n.body.length
   ·rw[ae d,ab];intro h;simp only[be,aR,tL]at h;omega
   ·rw[ab d,ae]
    ·rfl
    ·simp only[be,aR,tL];omega
  ·rw[ab o,ab o];by_cases aj:n.kind=2
   ·rw[ae aj,ae aj,ae aj];cases hd:cv n.body with
    |none=>simp
    |some l=>
     have hl:=LU hd;simp only;unfold j6;by_cases d:n.mode<0\/255<n.mode\/120<n.body.length
     ·rw[ae d,ab];intro h;simp only[be,tL]at h;omega
     ·rw[ab d,ae]
      ·rfl
      ·simp only[be,tL];exact⟨rfl,by omega⟩
   ·rw[ab aj,ab aj,ab aj];simp
theorem Bl (t:ao):∀(f i:Nat) (nm:List Int),oV t (f+1) i nm=(aW t ((i+f:Nat):Int)).foldl bump (oV t f i nm)
 |0,i,nm=>rfl
 |f+1,i,nm=>by
  show oV t (f+1) (i+1) _=_;rw[Bl t f (i+1)];rw[show i+1+f=i+(f+1) by omega];(try rfl)
theorem Bm (t:ao):∀(l:List cj) (i:Nat) (nm:List Int),l=t.drop i->j7 l nm=if l.all eQ=true then some (oV t l.length (i+1) nm)else none
 |[],i,nm,_=>rfl
 |n::r,i,nm,h=>by
  have hi:i<t.length:=by
   apply Decidable.byContradiction;intro aj;rw[jS (by omega)]at h;cases h
  rw[bQ hi]at h;obtain⟨o,aj⟩:=List.cons.inj h;have hd:e3 n=aW t ((i+1:Nat):Int):=by
   rw[tK];unfold jO;rw[ab (by omega),ti hi,o]
  simp only[j7];rw[LV,k4];by_cases d:eQ n=true
  ·rw[ae d,d,gL];simp only;rw[Bm t r (i+1) _ aj,hd,b7];(try rfl)
  ·rw[ab d];have:eQ n=false:=by simpa using d
   rw[this];(try rfl)
theorem Bn (t:ao):pP t=if t.all eQ=true then some (jq t)else none:=Bm t t 0 _ rfl
def iD (s s':List Bool):Prop:=s.length=s'.length/\∀i:Nat,(s[i]?).getD false=true->(s'[i]?).getD false=true
theorem iD.refl (s:List Bool):iD s s:=⟨rfl,fun _ h=>h⟩
theorem iD.trans {a b c:List Bool} (h:iD a b) (k:iD b c):iD a c:=⟨h.1.trans k.1,fun i x=>k.2 i (h.2 i x)⟩
theorem iD.count:∀{s s':List Bool},iD s s'->s.count true<=s'.count true/\(s.count true=s'.count true->s=s')
 |[],[],_=>⟨aB _,fun _=>rfl⟩
 |[],_::_,h=>by cases h.1
 |_::_,[],h=>by cases h.1
 |a::s,b::s',h=>by
  have h0:=h.2 0;have hs:iD s s':=⟨by have:=h.1;simpa using this,fun i hi=>by have:=h.2 (i+1);simp at this;exact this hi⟩
  obtain⟨d,k2⟩:=hs.count;cases a<;>cases b<;>simp at h0⊢
  ·exact⟨d,k2⟩
  ·exact⟨by omega,by omega⟩
  ·exact⟨d,k2⟩
theorem Bo (s:List Bool) (e:aX):iD s (mark s e):=by
 unfold mark;refine⟨by simp,fun i hi=>?_⟩;rw[kn];split
 ·split
  ·rfl
  ·rename_i o aj;subst o;rw[o4 (by omega)]at hi;cases hi
 ·exact hi
theorem wW:∀(l:List aX) (s:List Bool),iD s (l.foldl mark s)
 |[],s=>.refl s
 |e::l,s=>(Bo s e).trans (wW l _)
theorem Bp:∀(l:List aX) (s:List Bool) (e:aX),e∈l->e.ino.toNat<s.length->((l.foldl mark s)[e.ino.toNat]?).getD false=true
 |[],s,e,he,_=>by cases he
 |a::l,s,e,he,hl=>by
  rw[gK];rcases bS.1 he with rfl|he
  ·refine(wW l _).2 _ ?_;unfold mark;rw[kn,ae rfl,ae hl];(try rfl)
  ·exact Bp l _ e he (by rw[<-(Bo s a).1];exact hl)
theorem wX (t:ao) (s:List Bool) (i:Nat):iD s (jb t s i):=by
 unfold jb;split
 ·exact wW _ _
 ·exact .refl s
theorem wY (t:ao):∀(l:List Nat) (s:List Bool),iD s (l.foldl (jb t) s)
 |[],s=>.refl s
 |i::l,s=>(wX t s i).trans (wY t l _)
theorem Bq (t:ao):∀(l:List Nat) (s:List Bool) (i:Nat) (e:aX),i∈l->(s[i]?).getD false=true->e∈aW t i->s.length=10->((l.foldl (jb t) s)[e.ino.toNat]?).getD false=true
 |[],_,_,_,hi,_,_,_=>by cases hi
 |k::l,s,i,e,hi,hs,he,hl=>by
  rw[gK];have o:=kM e he;rcases bS.1 hi with rfl|hi
  ·refine(wY t l _).2 _ ?_;unfold jb;rw[ae hs];exact Bp _ _ e he (by omega)
  ·exact Bq t l _ i e hi ((wX t s k).2 i hs) he (by rw[<-(wX t s k).1];exact hl)
theorem Br (t:ao) (s:List Bool):iD s (iw t s):=wY t _ s
theorem wZ (t:ao):∀(k:Nat) (s:List Bool),iD s (jI t k s)
 |0,s=>.refl s
 |k+1,s=>(Br t s).trans (wZ t k _)
theorem LW (t:ao) (k:Nat) (s:List Bool) (h:iw t s=s):jI t k s=s:=by
 induction k with
 |zero=>rfl
 |succ k d=>simp only[jI];rw[h];exact d
theorem Bt (t:ao):∀(k:Nat) (s:List Bool),iw t (jI t k s)=jI t k s\/s.count true+k<=(jI t k s).count true
 |0,s=>.inr (aB _)
 |k+1,s=>by
  by_cases h:iw t s=s
  ·left;rw[LW t (k+1) s h];exact h
  ·obtain⟨eH,Pf⟩:=(Br t s).count;have:s.count true≠(iw t s).count true:=fun e=>h (Pf e).symm;rcases Bt t k (iw t s)with o|o
   ·exact .inl o
   ·right;show _<=(jI t k (iw t s)).count true;omega
theorem w1 (t:ao):(eg t).length=10:=by
 have:=(wZ t 9 ((List.replicate 10 false).set 1 true)).1;unfold eg;rw[<-this];simp
theorem Bu:∀(s:List Bool),s.length<=s.count true->∀i:Nat,i<s.length->(s[i]?).getD false=true
 |[],_,i,h=>by simp at h
 |a::s,h,i,hi=>by
  have:=s.count_le_length (a:=true);cases a
  ·simp at h;omega
  ·cases i with
   |zero=>rfl
   |succ i=>simp at h hi⊢;have:=Bu s h i hi;simpa using this
theorem LX (t:ao):iw t (eg t)=eg t\/10<=(eg t).count true:=by
 have h:=Bt t 9 ((List.replicate 10 false).set 1 true);have e:((List.replicate 10 false).set 1 true).count true=1:=by decide
 rw[e]at h;unfold eg;exact h
theorem oW {i:Nat}:i∈[1,2,3,4,5,6,7,8,9]↔1<=i/\i<=9:=by
 simp only[bS,tZ,or_false];omega
theorem LY {t:ao} {i:Nat} {e:aX} (o:1<=i) (d:i<=9) (hs:((eg t)[i]?).getD false=true) (he:e∈aW t i):((eg t)[e.ino.toNat]?).getD false=true:=by
 have j:=kM e he;rcases LX t with h|h
 ·have:=Bq t [1,2,3,4,5,6,7,8,9] (eg t) i e (oW.2 ⟨o,d⟩) hs he (w1 t);change ((iw t (eg t))[e.ino.toNat]?).getD false=true at this
  rwa [h]at this
 ·exact Bu _ (by rw[w1];exact h) _ (by rw[w1];omega)
theorem Bv (t:ao):((eg t)[1]?).getD false=true:=by
 have:=(wZ t 9 ((List.replicate 10 false).set 1 true)).2 1 (by decide);exact this
theorem Bw {t:ao}:∀{n:Nat} {i:Int},Dn t n i->1<=i/\i<=9/\((eg t)[i.toNat]?).getD false=true
 |_,_,.root=>⟨by omega,by omega,Bv t⟩
 |_,_,.step (p:=p) hp he=>by
  obtain⟨o,h,hs⟩:=Bw hp;have d:=kM _ he;refine⟨d.1,d.2,?_⟩;have:((p.toNat:Nat):Int)=p:=by omega
  exact LY (i:=p.toNat) (by omega) (by omega) hs (by rw[this];exact he)
theorem Bx {t:ao} {i:Nat}:((eg t)[i]?).getD false=true↔∃n,Dn t n i:=
 ⟨fun h=>let⟨n,_,aj⟩:=A1 i h;⟨n,aj⟩,fun⟨n,h⟩=>by have:=(Bw h).2.2;rwa [hC]at this⟩
inductive Rf (t:ao) (i:Int):Int->Prop
 |refl:Rf t i i
 |step {p:Int} {e:aX}:Rf t i p->e∈aW t p->Rf t i e.ino
theorem Rf.trans {t:ao} {a b:Int} (h:Rf t a b):∀{c:Int},Rf t b c->Rf t a c
 |_,.refl=>h
 |_,.step hp he=>.step (h.trans hp) he
theorem Rf.By {t:ao}:∀{i:Int},Rf t 1 i->∃n,Dn t n i
 |_,.refl=>⟨0,.root⟩
 |_,.step hp he=>let⟨n,h⟩:=hp.By;⟨n+1,.step h he⟩
def left (S:List Int):Nat:=([1,2,3,4,5,6,7,8,9].filter (fun x:Int=>!decide (x∈S))).length
theorem w2 {p q:Int->Bool} (h:∀x,q x=true->p x=true):∀l:List Int,(l.filter q).length<=(l.filter p).length/\(∀x∈l,p x=true->q x=false->(l.filter q).length<(l.filter p).length)
 |[]=>⟨aB _,fun x hx=>by cases hx⟩
 |a::l=>by
  obtain⟨o,aj⟩:=w2 h l;rw[qf,qf];have ha:=h a;refine⟨?_,fun x hx hp hq=>?_⟩
  ·cases j:q a<;>cases d:p a<;>simp[j,d]at ha⊢<;>omega
  ·rcases bS.1 hx with rfl|hx
   ·rw[hp,hq];simp;omega
   ·have:=aj x hx hp hq;cases j:q a<;>cases d:p a<;>simp[j,d]at ha⊢<;>omega
theorem LZ {S S':List Int} (h:∀x∈S,x∈S'):left S'<=left S:=(w2 (fun x hx=>by simp at hx⊢;exact fun hm=>hx (h x hm)) _).1
theorem L0 {S:List Int} {i:Int} (o:1<=i) (d:i<=9) (hi:i∉S):left (S++[i])<left S:=
 (w2 (fun x hx=>by simp at hx⊢;exact hx.1) _).2 i (by simp only[bS];omega) (by simpa using hi) (by simp)
structure Rd (t:ao) (i:Int) (S S':List Int):Prop where
 sub:∀x∈S,x∈S'
 at_:i∈S'
 rH:∀x∈S',x∉S->∀e∈aW t x,e.ino∈S'
 fr:∀x∈S',x∈S\/Rf t i x
theorem Rd.there {t:ao} {i:Int} {S:List Int} (h:i∈S):Rd t i S S:=⟨fun _ h=>h,h,fun _ o aj=>absurd o aj,fun _ h=>.inl h⟩
structure Rs (t:ao) (i:Int) (S S1:List Int) (j:Nat):Prop where
 sub:∀x∈S,x∈S1
 at_:i∈S1
 rH:∀x∈S1,x∉S->x≠i->∀e∈aW t x,e.ino∈S1
 fr:∀x∈S1,x∈S\/Rf t i x
 go:∀e∈(aW t i).take j,e.ino∈S1
theorem Rs.start {t:ao} {i:Int} {S:List Int}:Rs t i S (S++[i]) 0:=
 ⟨fun x h=>List.mem_append_left _ h,by simp,fun x o aj d=>by simp at o;rcases o with o|o;exact absurd o aj;exact absurd o d,fun x h=>by simp at h;rcases h with h|h;exact .inl h;subst h;exact .inr .refl,fun e he=>by simp at he⟩
theorem Rs.step {t:ao} {i:Int} {S S1 d:List Int} {j:Nat} (h:Rs t i S S1 j) (hj:j<(aW t i).length) (aj:Rd t (aW t i)[j].ino S1 d):Rs t i S d (j+1):=by
 refine⟨fun x hx=>aj.sub x (h.sub x hx),aj.sub _ h.at_,fun x hx A hi e he=>?_,fun x hx=>?_,fun e he=>?_⟩
 ·by_cases o:x∈S1
  ·exact aj.sub _ (h.rH x o A hi e he)
  ·exact aj.rH x hx o e he
 ·rcases aj.fr x hx with o|o
  ·exact h.fr x o
  ·exact .inr (Rf.trans (.step .refl (cw hj)) o)
 ·rw[fm hj]at he;rcases fK.1 he with he|he
  ·exact aj.sub _ (h.go e he)
  ·simp at he;subst he;exact aj.at_
theorem Rs.done {t:ao} {i:Int} {S S1:List Int} {j:Nat} (h:Rs t i S S1 j) (hj:(aW t i).length<=j):Rd t i S S1:=by
 refine⟨h.sub,h.at_,fun x hx d e he=>?_,h.fr⟩;by_cases hi:x=i
 ·subst hi;exact h.go e (by rw[kk hj];exact he)
 ·exact h.rH x hx d hi e he
theorem Rd.root {t:ao} {S:List Int} (h:Rd t 1 [] S) (i:Nat):decide ((i:Int)∈S)=((eg t)[i]?).getD false:=by
 rw[kp,aR,Bx];constructor
 ·intro hi;rcases h.fr _ hi with o|o
  ·cases o
  ·exact o.By
 ·rintro⟨n,hn⟩;have key:∀{n:Nat} {i:Int},Dn t n i->i∈S:=by
   intro n;induction n with
   |zero=>intro i hd;cases hd;exact h.at_
   |succ n d=>intro i hd;cases hd with|step hp he=>exact h.rH _ (d hp) (by simp) _ he
  exact key hn
def lV (t:ao) (i:Nat):Bool:=
 let there:=!decide ((nodeAt t i).kind=0)
 let n:=((jq t)[i]?).getD 0
 (there !=((eg t)[i]?).getD false)||(!there&&decide (0<n))||(decide ((nodeAt t i).kind=2)&&decide (1<i)&&!decide (n=1))
theorem Bz (t:ao) (h:t.all eQ=true) {c:Nat} (hc:c<10):((jq t)[c]?).getD 0=(((t.map (fun n=>iA c (e3 n))).sum:Nat):Int):=by
 have hn:=Bn t;rw[ae h]at hn;have:=wK t (c:=c) (nm:=List.replicate 10 0) (by rw[k0];exact hc) hn;rw[this];rw[tY,ae hc];simp
theorem BA {f:cj->Nat}:∀{t:List cj} {i:Nat} (hi:i<t.length),1<=f t[i]->1<=(t.map f).sum
 |[],i,hi,_=>absurd hi (by simp)
 |a::t,i,hi,h=>by
  rw[eD,ql];cases i with
  |zero=>have h':1<=f a:=h;omega
  |succ i=>have:=BA (f:=f) (t:=t) (i:=i) (by simpa using hi) (by simpa using h);omega
theorem BB (t:ao):bH t=(decide (t.length=9)&&decide ((nodeAt t 1).kind=2)&&t.all eQ&&([1,2,3,4,5,6,7,8,9].all (fun i=>!lV t i))&&decide (((jq t)[1]?).getD 0=0)):=by
 unfold bH;by_cases o:t.length=9/\(nodeAt t 1).kind=2
 ·rw[ae o,Bn];by_cases d:t.all eQ=true
  ·rw[ae d,d];simp only[o.1,o.2,decide_true,gL];have D:∀c:Nat,c<10->0<=((jq t)[c]?).getD 0:=fun c hc=>by rw[Bz t d hc];omega
   have F:∀i:Nat,2<=i->i<=9->((eg t)[i]?).getD false=true->0<((jq t)[i]?).getD 0:=fun i aj j hs=>by
    obtain⟨n,hn⟩:=Bx.1 hs;generalize hz:(i:Int)=z at hn;cases hn with
    |root=>omega
    |step hp he=>
     obtain⟨k,hk,_,hd,_⟩:=rz he;rw[Bz t d (by omega)];have:=BA (f:=fun n=>iA i (e3 n)) hk (tE hd (by omega));omega
   have A:∀i:Nat,1<=i->i<=9->(jJ t (jq t) (eg t) i=false↔lV t i=false/\(i=1->((jq t)[i]?).getD 0=0)):=by
    intro i I j;have hp:=D i (by omega);have hs:=F i;have hr:i=1->((eg t)[i]?).getD false=true/\(nodeAt t i).kind=2:=fun e=>by subst e;exact⟨Bv t,o.2⟩
    unfold jJ lV;generalize ((jq t)[i]?).getD 0=n at*;generalize ((eg t)[i]?).getD false=G at*;generalize (nodeAt t i).kind=k at*;simp only[cg,iF,bD,du,c3,aR,bne_eq_false_iff_eq];by_cases B:k=0<;>cases G<;>simp[B]at*<;>omega
   rw[kp];simp only[eU,be,c3,aR];constructor
   ·intro h;exact⟨fun i hi=>((A i (oW.1 hi).1 (oW.1 hi).2).1 (h i hi)).1,((A 1 (by omega) (by omega)).1 (h 1 (by simp))).2 rfl⟩
   ·intro h i hi;exact(A i (oW.1 hi).1 (oW.1 hi).2).2 ⟨h.1 i hi,fun e=>by subst e;exact h.2⟩
  ·rw[ab d];have:t.all eQ=false:=by simpa using d
   rw[this];simp
 ·rw[ab o];by_cases j:t.length=9
  ·have:(nodeAt t 1).kind≠2:=fun h=>o ⟨j,h⟩;simp[this]
  ·simp[j]
def recAt (d:au) (h:bA) (p:ah):Option bA:=match(bP d p.addr p.gen).bind eh with
 |none=>none
 |some r=>if r.ino≠h.ino\/r.idx≠h.idx then none else some r
def e5 (d:au):List ah->List bO->Option (List bO)
 |[],an=>some an
 |q::r,an=>match(bP d q.addr q.gen).bind dp with
  |none=>none
  |some l=>e5 d r (an++l)
def fI (d:au):List bO->List bA->Option (List bA)
 |[],h=>some h
 |i::l,h=>match recAt d i.1 i.2 with
  |none=>none
  |some r=>fI d l (h++[r])
def jP (d:au) (p:ah):Option (gY×List ah):=match(bP d p.addr p.gen).bind dJ with
 |none=>none
 |some (r,q)=>match e5 d q []with
  |none=>none
  |some an=>match fI d an []with
   |none=>none
   |some cP=>match ei cP with
    |none=>none
    |some t=>some (⟨r,an,t⟩,q++an.map (·.2))
theorem BC (d:au):∀(l:List bO) (h:List bA),kb d l h=fI d l h
 |[],h=>rfl
 |i::l,h=>by
  simp only[kb,fI];unfold recAt;cases (bP d i.2.addr i.2.gen).bind eh with
  |none=>rfl
  |some r=>
   simp only;split
   ·rfl
   ·exact BC d l _
theorem w3 (d:au) (b:List bO):∀(a:List bO) (h:List bA),fI d (a++b) h=(fI d a h).bind (fI d b)
 |[],h=>rfl
 |i::a,h=>by
  simp only[k3,fI];cases recAt d i.1 i.2 with
  |none=>rfl
  |some r=>exact w3 d b a _
theorem w4 (d:au):∀(q:List ah) (an:List bO),e5 d q an=(e5 d q []).map (an++·)
 |[],an=>by simp[e5]
 |p::q,an=>by
  simp only[e5];cases (bP d p.addr p.gen).bind dp with
  |none=>rfl
  |some l=>
   simp only;rw[w4 d q (an++l),w4 d q ([]++l)];cases e5 d q []with
   |none=>rfl
   |some m=>simp
theorem BD (d:au):∀(q:List ah) (an:List bO) (cP:List bA),eN d q an cP=(e5 d q []).bind (fun l=>(fI d l cP).map (fun rs=>(an++l,rs)))
 |[],an,cP=>by simp[eN,e5,fI]
 |p::q,an,cP=>by
  simp only[eN,e5];cases (bP d p.addr p.gen).bind dp with
  |none=>rfl
  |some l=>
   simp only;rw[BC,w4 d q ([]++l)];cases hr:fI d l cP with
   |none=>
    simp only;cases e5 d q []with
    |none=>rfl
    |some m=>simp[w3,hr]
   |some h=>
    simp only;rw[BD d q];cases e5 d q []with
    |none=>rfl
    |some m=>
     simp only[l3,dM,fo,w3,hr];cases fI d m h with
     |none=>rfl
     |some z=>simp
theorem BE (d:au) (p:ah):jP d p=lR d p:=by
 unfold jP lR;cases (bP d p.addr p.gen).bind dJ with
 |none=>rfl
 |some x=>
  obtain⟨r,q⟩:=x;simp only;rw[BD];cases e5 d q []with
  |none=>rfl
  |some an=>
   simp only[l3];cases fI d an []with
   |none=>rfl
   |some cP=>rfl
theorem tM {d:au} {a g:Int} {x:aT} (h:bP d a g=some x) (o:0<=g):x.gen=g:=by
 unfold bP at h;split at h
 ·split at h
  ·cases h
  ·split at h
   ·cases h
   ·rename_i aj;cases h;apply Decidable.byContradiction;intro j;exact aj ⟨o,j⟩
 ·cases h
theorem w5 {p:ah} (h:dI p=true):0<=p.gen:=(wM h).1
theorem BF {x:aT} {r:cK} {q:List ah} (h:dJ x=some (r,q)):∀p∈q,0<=p.gen:=by
 unfold dJ at h;split at h
 ·rename_i o;cases h;by_cases hr:kQ x.gen (fj x.load).1 (fj x.load).2.1=true
  ·unfold kQ at hr;simp only[be]at hr;intro p hp;exact w5 (eU.1 hr.2 p hp)
  ·have d:=o.2.2;unfold ey at d;rw[ab hr]at d;have:=o.1;rw[<-d]at this;cases this
 ·cases h
theorem BG {x:aT} {n i:Int} {q:List ah} (h:c0 x=some (n,i,q)):∀p∈q,0<=p.gen:=by
 unfold c0 at h;split at h
 ·rename_i o;cases h;by_cases hr:kR x.gen (dC x.load).1 (dC x.load).2.1 (dC x.load).2.2.1=true
  ·unfold kR at hr;simp only[be]at hr;intro p hp;exact w5 (eU.1 hr.2 p hp)
  ·have d:=o.2.2;unfold eM at d;rw[ab hr]at d;have:=o.1;rw[<-d]at this;cases this
 ·cases h
theorem L1 {gen:Int} {x:aT}:∀{f:Nat} {l:List bO},l.length<=f->gC gen f l=[x]->l.length<=6/\gW gen l=x
 |0,l,hl,h=>by cases l with
  |nil=>cases h
  |cons a l=>simp at hl
 |f+1,[],hl,h=>by cases h
 |f+1,a::l,hl,h=>by
  simp only[gC,nV]at h;have d:(a::l).length<=6:=by
   apply Decidable.byContradiction;intro hc;have hd:((a::l).drop 6).length≠0:=by rw[bW];omega
   cases hq:(a::l).drop 6 with
   |nil=>rw[hq]at hd;exact hd rfl
   |cons b m=>
    rw[hq]at h;cases f with
    |zero=>simp at hl;subst hl;simp at hc
    |succ f=>simp[gC]at h
  exact⟨d,by rw[<-h.1,kk d]⟩
theorem BH {x:aT} {l:List bO} (h:dp x=some l):l.length<=6/\∀i∈l,0<=i.2.gen:=by
 unfold dp at h;split at h
 ·rename_i o;split at h
  ·rename_i aj;cases h;obtain⟨j,k2⟩:=L1 (aB _) aj.2;refine⟨j,?_⟩;unfold gW at k2;split at k2
   ·rename_i d;simp only[be]at d;intro i hi;have:=eU.1 d.2 i hi;unfold kP at this;simp only[be]at this;exact w5 this.2
   ·have:=o.1;rw[<-k2]at this;cases this
  ·cases h
 ·cases h
theorem w6 {d:au}:∀{q:List ah} {an j:List bO},e5 d q an=some j->j.length<=an.length+6*q.length/\((∀i∈an,0<=i.2.gen)->∀i∈j,0<=i.2.gen)
 |[],an,j,h=>by cases h;exact⟨aB _,id⟩
 |p::q,an,j,h=>by
  simp only[e5]at h;split at h
  ·cases h
  ·rename_i l hl;obtain⟨b,_,A⟩:=gf.1 hl;obtain⟨B,k2⟩:=BH A;obtain⟨o,aj⟩:=w6 h;rw[c2]at o;refine⟨by rw[b7];omega,fun ha=>aj fun i hi=>?_⟩;rcases fK.1 hi with hi|hi
   ·exact ha i hi
   ·exact k2 i hi
theorem L2 {x:aT} {r:bA} (h:eh x=some r):0<=r.idx:=by
 unfold eh at h;split at h
 ·split at h
  ·cases h;unfold lQ;exact Int.natCast_nonneg _
  ·cases h
 ·cases h
theorem L3 {d:au} {h:bA} {p:ah} {r:bA} (hr:recAt d h p=some r):r.load.length<=60/\0<=r.idx:=by
 unfold recAt at hr;split at hr
 ·cases hr
 ·rename_i y A;split at hr
  ·cases hr
  ·cases hr;obtain⟨b,o,j⟩:=gf.1 A;have:=Aa j;have:=kd o;exact⟨by omega,L2 j⟩
def iE (d:au):List ah->List gY->List ah->Option (List gY×List ah)
 |[],j,h=>some (j,h)
 |p::r,j,h=>match jP d p with
  |none=>none
  |some (x,l)=>iE d r (j++[x]) (h++p::l)
structure oX where
 next:Int
 id:Int
 trees:List gY
 all:List ah
def eR (d:au) (sum:Int):Option oX:=match bP d sum (-1)with
 |none=>none
 |some x=>match c0 x with
  |none=>none
  |some (next,id,p)=>(iE d p [] [⟨sum,x.gen⟩]).map (fun y=>⟨next,id,y.1,y.2⟩)
end Go.Ev
