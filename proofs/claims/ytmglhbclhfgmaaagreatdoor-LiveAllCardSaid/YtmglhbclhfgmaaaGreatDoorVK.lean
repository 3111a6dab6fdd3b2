/- A part of the proof of glacislaw13.LiveAll (made short by a program). -/
import Derived.Test.YtmglhbclhfgmaaaGreatDoorVJ
set_option maxHeartbeats 2000000
namespace Go.Ev
variable{F:Nat→Option aN} {O:Fz}
theorem vk:dd (.no .sl) (.no .sl)=true:=rfl
theorem akj [Fx F] {cs:List V} {v:aW} {s:gk} {kv:V} (hv:bZ O cs v) (hg:VG v) (hk:isScalar kv=true) (yD:11≤s.kind) (ur:s.kind≤15):
 ai F 86 [.agg cs,.agg (pO s kv)] O [] (fun r ψ R=>R=[]∧∃cs' l,r=.aM [.agg cs',.agg l]∧bZ ψ cs' (iG v s)∧zL ψ l) never:=by
 obtain⟨lv,wv,tv,rfl,hl,hw,ht,sl,sw,st,hd⟩:=hv.open;refine au ?_;refine S.box fun a2=>?_;refine S.box fun a3=>?_;refine S.alloc fun a4=>?_;refine S.alloc fun a5=>?_;refine S.alloc fun cb=>?_;refine S.ld 3 ?_;refine S.bin ?_;refine C.B (fun cp=>?_) fun cp=>?_
 ·refine S.af 4 ?_;refine S.call (ajJ hv hg.b) fun mr wa wb r8 cu=>?_;obtain⟨rfl,aaZ,rfl,yJ⟩:=cu;have e:iG v s=(eU v v).1:=by unfold iG;rw[B4 (by simpa using cp)]
  rw[e];obtain⟨Y,hY⟩:∃Y,Y=(eU v v).1:=⟨_,rfl⟩
  rw[←hY]at yJ⊢;obtain⟨ly,wy,ty,rfl,gt,gu,fY,cA,cB,cC,jI⟩:=yJ.open;refine S.store (v:=.agg (be ly wy ty Y)) 4 ?_ (hs:=cT cA cB cC);refine S.store 0 ?_;refine S.af 4 ?_;refine S.af 0 ?_;refine S.store (v:=.agg (be ly wy ty Y)) 2 ?_ (hs:=cT cA cB cC);refine S.dy 0 ?_ (hs:=by simp[same,cm,fv,hB,vk]);refine S.store 1 ?_;exact⟨_,.cN 2 rfl rfl rfl rfl (.cN 1 rfl rfl rfl rfl .nil),.none ⟨rfl,_,_,rfl,yJ,.plain _ _⟩⟩
 ·refine S.bin ?_;refine C.B (fun eu=>?_) fun eu=>?_
  ·refine S.af 4 ?_;refine S.call (ajO hv hg.b hg.Vi hg.Dc hg.Dd hg.xE) fun um sq wD o9 c3=>?_;obtain⟨rfl,ao9,rfl,JU⟩:=c3;have e:iG v s=(lW v).1:=by unfold iG;rw[pg (by simpa using cp)];rw[B4 (by simpa using eu)]
   rw[e];obtain⟨Y,hY⟩:∃Y,Y=(lW v).1:=⟨_,rfl⟩
   rw[←hY]at JU⊢;obtain⟨ly,wy,ty,rfl,gt,gu,fY,cA,cB,cC,jI⟩:=JU.open;refine S.store (v:=.agg (be ly wy ty Y)) 4 ?_ (hs:=cT cA cB cC);refine S.store 0 ?_;refine S.store 0 ?_;refine S.af 4 ?_;refine S.af 0 ?_;refine S.store (v:=.agg (be ly wy ty Y)) 2 ?_ (hs:=cT cA cB cC);refine S.dy 0 ?_ (hs:=by simp[same,cm,fv,hB,vk]);refine S.store 1 ?_;exact⟨_,.cN 2 rfl rfl rfl rfl (.cN 1 rfl rfl rfl rfl .nil),.none ⟨rfl,_,_,rfl,JU,.plain _ _⟩⟩
  ·refine S.bin ?_;refine C.B (fun mu=>?_) fun mu=>?_
   ·refine S.af 4 ?_;refine S.ld 3 ?_;refine S.call (ajK (id:=s.id) hv hg.b) fun v39 yj DX qh g6=>?_;obtain⟨rfl,apa,rfl,JV⟩:=g6;have e:iG v s=(pL v s.id).1:=by unfold iG;rw[pg (by simpa using cp)];rw[pg (by simpa using eu)];rw[B4 (by simpa using mu)]
    rw[e];obtain⟨Y,hY⟩:∃Y,Y=(pL v s.id).1:=⟨_,rfl⟩
    rw[←hY]at JV⊢;obtain⟨ly,wy,ty,rfl,gt,gu,fY,cA,cB,cC,jI⟩:=JV.open;refine S.store (v:=.agg (be ly wy ty Y)) 4 ?_ (hs:=cT cA cB cC);refine S.store 0 ?_;refine S.af 4 ?_;refine S.af 0 ?_;refine S.store (v:=.agg (be ly wy ty Y)) 2 ?_ (hs:=cT cA cB cC);refine S.dy 0 ?_ (hs:=by simp[same,cm,fv,hB,vk]);refine S.store 1 ?_;exact⟨_,.cN 2 rfl rfl rfl rfl (.cN 1 rfl rfl rfl rfl .nil),.none ⟨rfl,_,_,rfl,JV,.plain _ _⟩⟩
   ·refine S.bin ?_;refine C.B (fun fD=>?_) fun fD=>?_
    ·refine S.af 4 ?_;refine S.ld 3 ?_;refine S.call (ajL (id:=s.id) hv hg.b) fun Qp aa5 O49 Qq Bg=>?_;obtain⟨rfl,apb,rfl,JW⟩:=Bg;have e:iG v s=(pM v s.id).1:=by unfold iG;rw[pg (by simpa using cp)];rw[pg (by simpa using eu)];rw[pg (by simpa using mu)];rw[B4 (by simpa using fD)]
     rw[e];obtain⟨Y,hY⟩:∃Y,Y=(pM v s.id).1:=⟨_,rfl⟩
     rw[←hY]at JW⊢;obtain⟨ly,wy,ty,rfl,gt,gu,fY,cA,cB,cC,jI⟩:=JW.open;refine S.store (v:=.agg (be ly wy ty Y)) 4 ?_ (hs:=cT cA cB cC);refine S.store 0 ?_;refine S.af 4 ?_;refine S.af 0 ?_;refine S.store (v:=.agg (be ly wy ty Y)) 2 ?_ (hs:=cT cA cB cC);refine S.dy 0 ?_ (hs:=by simp[same,cm,fv,hB,vk]);refine S.store 1 ?_;exact⟨_,.cN 2 rfl rfl rfl rfl (.cN 1 rfl rfl rfl rfl .nil),.none ⟨rfl,_,_,rfl,JW,.plain _ _⟩⟩
    ·refine S.bin ?_;refine C.B (fun uj=>?_) fun uj=>?_
     ·refine S.af 4 ?_;refine S.call (aj7 hv hg.b) fun Pq aa6 O57 JX h57=>?_;obtain⟨rfl,apc,rfl,JY⟩:=h57;have e:iG v s=(oh v).1:=by unfold iG;rw[pg (by simpa using cp)];rw[pg (by simpa using eu)];rw[pg (by simpa using mu)];rw[pg (by simpa using fD)];
      rw[e];obtain⟨Y,hY⟩:∃Y,Y=(oh v).1:=⟨_,rfl⟩
      rw[←hY]at JY⊢;obtain⟨ly,wy,ty,rfl,gt,gu,fY,cA,cB,cC,jI⟩:=JY.open;refine S.store (v:=.agg (be ly wy ty Y)) 4 ?_ (hs:=cT cA cB cC);refine S.store 0 ?_;refine S.store 0 ?_;refine S.af 4 ?_;refine S.af 0 ?_;refine S.store (v:=.agg (be ly wy ty Y)) 2 ?_ (hs:=cT cA cB cC);refine S.dy 0 ?_ (hs:=by simp[same,cm,fv,hB,vk]);refine S.store 1 ?_;exact⟨_,.cN 2 rfl rfl rfl rfl (.cN 1 rfl rfl rfl rfl .nil),.none ⟨rfl,_,_,rfl,JY,.plain _ _⟩⟩
     ·exfalso;simp at cp eu mu fD uj;omega
end Go.Ev
set_option maxHeartbeats 8000000
namespace Go.Ev
variable{F:Nat→Option aN} {O:Fz}
theorem akk {v:aW} {s:gk} (I:¬s.kind≤7) (J:s.kind≤10):gK v s=v:=by unfold gK;rw[pg I,B4 J]
theorem akl {v:aW} {s:gk} (I:¬s.kind≤7) (J:¬s.kind≤10):gK v s=iG v s:=by unfold gK;rw[pg I,pg J]
theorem akm [Fx F] {lv wv tv lx wx tx kv:V} {v x:aW} {w:Bs} {s:gk} {BI:List Bool} (hv:bZ O (be lv wv tv v) v) (hg:VG v) (hx:bZ O (be lx wx tx x) x) (hk:aa qY O kv BI) (wP:Db s) (DM:s.v=0) (yD:1≤s.kind) (ur:s.kind≤15):
 ai F 47 [.agg (hT lv wv tv v lx wx tx x w),.agg (pO s kv)] O [] (fun r ψ R=>R=[]∧∃ly wy ty l,r=.aM [.agg (hT ly wy ty (gK v s) lx wx tx x w),.agg l]∧bZ ψ (be ly wy ty (gK v s)) (gK v s)∧bZ ψ (be lx wx tx x) x∧zL ψ l) never:=by
 have rx:=hx;obtain⟨_,_,_,ev,hl,hw,ht⟩:=hv;obtain⟨rfl,rfl,rfl⟩:lv=_∧wv=_∧tv=_:=by simp only[be,aq3]at ev;exact⟨ev.1,ev.2.1,ev.2.2.2.2.2.2.2.2.2.2.2.1⟩
 have hv:bZ O (be lv wv tv v) v:=⟨_,_,_,rfl,hl,hw,ht⟩
 obtain⟨_,_,_,ex,sj,uq,EG⟩:=hx;obtain⟨rfl,rfl,rfl⟩:lx=_∧wx=_∧tx=_:=by simp only[be,aq3]at ex;exact⟨ex.1,ex.2.1,ex.2.2.2.2.2.2.2.2.2.2.2.1⟩
 have hx:bZ O (be lx wx tx x) x:=rx;have sl:=hl.av;have sw:=hw.av;have st:=ht.av;have mB:=sj.av;have mC:=uq.av;have ux:=EG.av;have skv:=hk.av;have jx:=De (v:=v) (x:=x) (w:=w) sl sw st mB mC ux;have aj:pO s kv=[.j s.kind,.j 0,.j s.id,.j s.mode,.j s.off,.str s.path,.str s.dst,.str s.text,kv]:=by unfold pO;rw[DM]
 rw[aj];have hlS:=hl.dd;have hwS:=hw.dd;have htS:=ht.dd;have aa7:=sj.dd;have aa8:=uq.dd;have aa9:=EG.dd;refine au ?_;refine S.box fun a2=>?_;refine S.box fun a3=>?_;refine S.alloc fun a4=>?_;refine S.alloc fun a5=>?_;refine S.ld 2 ?_;refine S.bin ?_;refine G.aE ?_;refine G.ld 2 ?_;refine G.bin ?_;refine G.or ?_;refine G.aE ?_;refine G.ld 2 ?_;refine G.bin ?_;refine G.or ?_;refine G.aE ?_;refine G.ld 2 ?_;refine G.bin ?_;refine G.or ?_;refine C.B (fun ck=>?_) fun ck=>?_
 ·exfalso;rw[amt,amt,amt]at ck;simp at ck;omega
 ·refine S.ld 2 ?_;refine S.zl (j:=0) (by omega) ?_;refine S.af 3 ?_ (l:=be lv wv tv v);refine S.alloc fun cb=>?_;refine S.store (v:=.agg (be lv wv tv v)) 0 ?_ (hs:=cT sl sw st);refine S.build ?_;refine S.alloc fun c1=>?_;refine S.store 0 ?_;refine S.ld 4 ?_;refine S.bin ?_;refine C.B (fun uj=>?_) fun uj=>?_
  ·have BJ:s.kind≤7:=by simpa using uj
   refine S.af 1 ?_ (l:=be lv wv tv v);refine S.af 4 ?_ (l:=[.j s.kind,.j 0,.j s.id,.j s.mode,.j s.off,.str s.path,.str s.dst,.str s.text,kv]);refine S.call (MM hv hg.b.trees) fun v59 apd O59 JZ BK=>?_;obtain⟨rfl,BK⟩:=BK;have hv:=hv.mono JZ;have hx:=hx.mono JZ;have hk:=hk.mono JZ;refine S.dy 4 ?_ (l:=[.j s.kind,.j 0,.j s.id,.j s.mode,.j s.off,.str s.path,.str s.dst,.str s.text,kv]) (hs:=by simp[same,cm,fv,hB,vk,hk.dd]);refine S.call (by have:=akh (F:=F) BK hg.head wP hk.av;rw[aj]at this;exact this) fun v61 ape O61 J0 IV=>?_;obtain⟨rfl,u,rfl,hu⟩:=IV;have hv:=hv.mono J0;have hx:=hx.mono J0;have hk:=hk.mono J0;refine S.bin ?_;refine C.B (fun yN=>?_) fun yN=>?_
   ·have e:gK v s=v:=by unfold gK;rw[B4 BJ,B4 (by simpa using yN)]
    rw[e];refine S.af 5 ?_ (l:=hT lv wv tv v lx wx tx x w);refine S.ak (Vk sl sw st mB mC ux) ?_;refine S.store (v:=.agg (hT lv wv tv v lx wx tx x w)) 3 ?_ (hs:=jx);refine S.store 2 ?_;exact⟨_,.cN 3 rfl rfl rfl rfl (.cN 2 rfl rfl rfl rfl .nil),.none ⟨rfl,lv,wv,tv,_,rfl,hv,hx,.plain _ _⟩⟩
   ·have e:gK v s={v with trees:=lV v.trees (gm (et v.trees) s).1}:=by unfold gK;rw[B4 BJ,pg (by simpa using yN)]
    rw[e];refine S.af 1 ?_ (l:=be lv wv tv v);refine S.call (US hv hg.b.trees hu (akg (C9 hg.head) s)) fun v73 aa4 O73 EL JT=>?_;obtain⟨rfl,apf,rfl,J1⟩:=JT;obtain⟨Y,hY⟩:∃Y,Y={v with trees:=lV v.trees (gm (et v.trees) s).1}:=⟨_,rfl⟩
    rw[←hY]at J1⊢;have hv:=hv.mono EL;have hx:=hx.mono EL;have hk:=hk.mono EL;obtain⟨ly,wy,ty,rfl,gt,gu,fY,cA,cB,cC,jI⟩:=J1.open;have J2:=De (v:=Y) (x:=x) (w:=w) cA cB cC mB mC ux;refine S.store (v:=.agg (be ly wy ty Y)) 1 ?_ (hs:=cT cA cB cC);refine S.ld 4 ?_;refine S.af 1 ?_ (l:=be ly wy ty Y);refine S.zl (j:=0) (by omega) ?_;refine S.store (v:=.agg (be ly wy ty Y)) 5 ?_ (hs:=cT cA cB cC);refine S.af 5 ?_ (l:=hT ly wy ty Y lx wx tx x w);refine S.af 0 ?_;refine S.store (v:=.agg (hT ly wy ty Y lx wx tx x w)) 3 ?_ (hs:=J2);refine S.dy 0 ?_ (hs:=by simp[same,cm,fv,hB,vk,hk.dd]);refine S.store 2 ?_;exact⟨_,.cN 3 rfl rfl rfl rfl (.cN 2 rfl rfl rfl rfl .nil),.none ⟨rfl,ly,wy,ty,_,rfl,J1,hx,.plain _ _⟩⟩
  ·have BJ:¬s.kind≤7:=by simpa using uj
   refine S.ld 4 ?_;refine S.bin ?_;refine C.B (fun EM=>?_) fun EM=>?_
   ·have e:gK v s=v:=akk BJ (by simpa using EM);rw[e];refine S.af 1 ?_ (l:=be lv wv tv v);refine S.call (MM hv hg.b.trees) fun v79 apg O79 J3 J4=>?_;obtain⟨rfl,J4⟩:=J4;have hv:=hv.mono J3;have hx:=hx.mono J3;have hk:=hk.mono J3;refine S.ld 4 ?_;refine S.bin ?_;refine SW.xk (fun E ψ R=>∃(u:V) (t:an),aa aH ψ u t∧bN t∧bZ ψ (be lv wv tv v) v∧bZ ψ (be lx wx tx x) x∧aa qY ψ kv BI∧R=[(some a5,.cells [.j 0,.str [],.j 0,.j 0,.j 0,.j 0,.j 0,.no .sl,.j 0] false),(some a4,.cells [.no .sl,.no .sl,.j 0,.bool false,.j 0,.j 0,.j 0,.j 0,.j 0,.j 0,.j 0,.no .sl,.no .sl,.no .sl,.j 0,.bool false,.j 0,.j 0,.j 0,.j 0,.j 0,.j 0,.j 0,.no .sl,.str []] false),(some a3,.cells [.j s.kind,.j 0,.j s.id,.j s.mode,.j s.off,.str s.path,.str s.dst,.str s.text,kv] false),(some a2,.cells (hT lv wv tv v lx wx tx x w) false)]∧Sub [(2,.ptr a2 0),(3,.ptr a3 0),(4,.ptr a4 0),(5,.ptr a5 0),(10,u)] E) ?_ ?_
    ·refine C.B (fun c82=>?_) fun c82=>?_
     ·refine S.af 1 ?_ (l:=be lv wv tv v);refine S.ld 4 ?_;refine S.call (GH (kind:=3) (id:=s.id) hv hg.b.trees) fun IQ Qr Pv EN Bd=>?_;obtain⟨rfl,rfl,w4,rfl,dP,cw⟩:=Bd;have uo:=w4.2.2;obtain⟨X,hX⟩:∃X,X=kK v.trees 3 s.id:=⟨_,rfl⟩
      rw[←hX]at dP cw⊢;refine S.alloc fun gR=>?_;refine S.store (v:=.agg (fC.f w4)) 0 ?_ (hs:=fC.sc w4);refine S.un ?_;refine C.B (fun EO=>?_) fun EO=>?_
      ·refine S.af 6 ?_ (l:=hT lv wv tv v lx wx tx x w);refine S.ak (Vk sl sw st mB mC ux) ?_;refine S.store (v:=.agg (hT lv wv tv v lx wx tx x w)) 4 ?_ (hs:=jx);refine S.store 3 ?_;exact⟨_,.cN 4 rfl rfl rfl rfl (.cN 3 rfl rfl rfl rfl .nil),.none ⟨rfl,lv,wv,tv,_,rfl,hv,hx,.plain _ _⟩⟩
      ·obtain⟨h,rfl⟩:∃z,X=some z:=ap4.1 (by simpa using EO);change aa aH _ w4.2.1 h.t at cw;have JE:=C9 (hg.may h (UR hX.symm));refine S.ld 0 ?_;exact .drop 0 (.drop 0 (.drop 0 (.done ⟨_,_,cw,JE,hv,hx,hk,rfl,.r rfl⟩)))
     ·exact .drop 0 (.drop 0 (.done ⟨_,_,J4,C9 hg.head,hv,hx,hk,rfl,.r rfl⟩))
    intro E ψ R ac hM;obtain⟨u,t,hu,mw,hv,hx,hk,rfl,hE⟩:=hM;refine C.sub hE ?_;refine S.af 3 ?_ (l:=hT lv wv tv v lx wx tx x w);refine S.af 2 ?_;refine S.call (by have:=aki (F:=F) hu mw wP hk.av;rw[aj]at this;exact this) fun PI aph api Qs aba=>?_;obtain⟨rfl,Qt,rfl,ha⟩:=aba;have hv:=hv.mono Qs;have hx:=hx.mono Qs;obtain⟨e0,wQ,a0,oK,tK,rI,f0,so,Qu,n0,rfl,qs⟩:=ha;have Qv:=qs.av;refine S.dy 3 ?_ (hs:=by simp[hT,same,cm,fv,hB,mU,hlS,hwS,htS,aa7,aa8,aa9]);refine S.store (v:=.agg (hT lv wv tv v lx wx tx x w)) 1 ?_ (hs:=jx);refine S.store (v:=.agg [.j e0,.str wQ,.j a0,.j oK,.j tK,.j rI,.j f0,so,.j n0]) 0 ?_;exact⟨_,.cN 1 rfl rfl rfl rfl (.cN 0 rfl rfl rfl rfl .nil),.none ⟨rfl,lv,wv,tv,_,rfl,hv,hx,_,_,_,_,_,_,_,_,_,_,rfl,qs⟩⟩
   ·have e:gK v s=iG v s:=akl BJ (by simpa using EM);have apj:¬s.kind≤10:=by simpa using EM
    rw[e];refine S.ld 4 ?_;refine S.bin ?_;refine C.B (fun Qw=>?_) fun Qw=>?_
    ·exfalso;simp at Qw;omega
    ·refine S.ld 4 ?_;refine S.bin ?_;refine C.B (fun Qx=>?_) fun Qx=>?_
     ·exfalso;simp at Qx;omega
     ·refine S.ld 4 ?_;refine S.bin ?_;refine C.B (fun nM=>?_) fun nM=>?_
      ·exfalso;simp at nM;omega
      ·refine S.ld 4 ?_;refine S.bin ?_;refine C.B (fun Qy=>?_) fun Qy=>?_
       ·exfalso;simp at Qy;omega
       ·refine S.af 1 ?_ (l:=be lv wv tv v);refine S.af 4 ?_;refine S.call (by have:=akj (F:=F) (s:=s) hv hg hk.av (by omega) ur;rw[aj]at this;exact this) fun v50 D3 It t7 oV=>?_;obtain⟨rfl,apk,Qt,rfl,J5,ha⟩:=oV;obtain⟨Y,hY⟩:∃Y,Y=iG v s:=⟨_,rfl⟩
        rw[←hY]at J5⊢;have hx:=hx.mono t7;have hk:=hk.mono t7;obtain⟨e0,wQ,a0,oK,tK,rI,f0,so,Qu,n0,rfl,qs⟩:=ha;have Qv:=qs.av;obtain⟨ly,wy,ty,rfl,gt,gu,fY,cA,cB,cC,jI⟩:=J5.open;have J2:=De (v:=Y) (x:=x) (w:=w) cA cB cC mB mC ux;refine S.store (v:=.agg (be ly wy ty Y)) 1 ?_ (hs:=cT cA cB cC);refine S.store (v:=.agg [.j e0,.str wQ,.j a0,.j oK,.j tK,.j rI,.j f0,so,.j n0]) 0 ?_;refine S.ld 4 ?_;refine S.af 1 ?_ (l:=be ly wy ty Y);refine S.zl (j:=0) (by omega) ?_;refine S.store (v:=.agg (be ly wy ty Y)) 5 ?_ (hs:=cT cA cB cC);refine S.af 5 ?_ (l:=hT ly wy ty Y lx wx tx x w);refine S.af 0 ?_;refine S.store (v:=.agg (hT ly wy ty Y lx wx tx x w)) 3 ?_ (hs:=J2);refine S.dy 0 ?_ (hs:=by simp[same,cm,fv,hB,qs.dd]);refine S.store (v:=.agg [.j e0,.str wQ,.j a0,.j oK,.j tK,.j rI,.j f0,so,.j n0]) 2 ?_;exact⟨_,.cN 3 rfl rfl rfl rfl (.cN 2 rfl rfl rfl rfl .nil),.none ⟨rfl,ly,wy,ty,_,rfl,J5,hx,_,_,_,_,_,_,_,_,_,_,rfl,qs⟩⟩
end Go.Ev
namespace Go.Ev
variable{F:Nat→Option aN} {O:Fz}
theorem Vl {q:cV} {a m:Int} (ha:0≤a) (_hb:a≤4294967296) (hm:0<m):cg .rem q (.j a) (.j m)=some (.j (a%m)):=by
 show(bif cW .i64 .i64 then(bif iw m 0 then none else some (V.j (a.tmod m)))else none)=_;have J:iw m 0=false:=by rw[ki];simp;omega
 rw[show cW .i64 .i64=true from rfl,J,E7,KL,arU ha]
theorem akn {q:cV} (a b:UInt8):cg .add q (c5 a) (c5 b)=some (c5 (a+b)):=by
 show some (V.int .u8 (e6 .u8 (B6 (a.toNat:Int) (b.toNat:Int))))=some (V.int .u8 (Int.ofNat (a+b).toNat));have h:e6 .u8 ((a.toNat:Int)+(b.toNat:Int))=(((a.toNat+b.toNat)%256:Nat):Int):=by rw[uL];simp[IntKind.wrap,IntKind.signed,IntKind.bits]
 rw[Lc,h];congr 2
theorem ir (l:Bs) (n:Nat) {m:Int} (hm:0<m):0≤(aJ l n m).1∧(aJ l n m).1<m:=by
 unfold aJ;split
 ·exact⟨aqc 0,hm⟩
 ·exact⟨Int.emod_nonneg _ (by omega),Int.emod_lt_of_pos _ hm⟩
namespace G
variable{F:Nat→Option aN} {K:KX} {E:Env} {O:Fz} {R:List Ob} {Q:bB} {rs:List Op} {d:Nat} {g:Option (Pa×Bool)} {b:Bool}
theorem ako [gd K] {n:Nat} {xs:List Od} {vs:List V} {v:V} {o:Ob} (hi:R[0]? =some o) (hc:b=true→ai F n vs O [o] (fun r ψ R=>ψ=O∧r=v∧R=[o]) never) (hn:SA F K rs ((d,gv b v)::E) O R Q) (hg:Gd E g b:=by first|exact .y rfl|exact .n rfl|exact .yg rfl|exact .ng rfl) (hx:uY E b xs vs:=by repeat(first|exact .nil|refine .cons (.g rfl) ?_|refine .cons (.gl rfl) ?_|refine .cons (.u (.t rfl)) ?_|refine .cons (.u .c) ?_)):SR F K (.op ⟨some (pa d),aC n xs,g⟩::Op.aI rs) E O R Q:=by
 cases b with
 |false=>exact S.no hg hn
 |true=>
  intro W h sh;rcases hc rfl (R.eraseIdx 0++W) h (by simpa using sh.front hi)with⟨r,h',I,ψ,O',J,h3,rfl,rfl,rfl⟩|⟨_,_,_,_,_,_,_,h⟩
  ·refine ad.call hg (hx.is rfl) I (S.r hn W h' ?_);cases R with
   |nil=>cases hi
   |cons p R=>simp only[aqe,E8]at hi;subst hi;simpa using h3
  ·exact h.elim
end G
def iZ (a:Pa) (lv:V) (n:Nat):Ob:=(some a,.cells [lv,.j (n:Int)] false)
theorem Vm [Fx F] {lv:V} (hs:isScalar lv=true):ai F 6 [lv] O [] (fun r ψ R=>ψ=O∧∃a,r=.ptr a 0∧R=[iZ a lv 0]) never:=by
 refine au ?_;refine S.build ?_ (l:=[lv,.j 0]);refine S.box fun a5=>?_;exact⟨_,.t rfl .nil,.done ⟨rfl,a5,rfl,rfl⟩⟩
theorem akp [Fx F] {lv:V} {l:Bs} {a:Pa} {n:Nat} (hl:aa aQ O lv l) (dt:l.length≤1000):ai F 27 [.ptr a 0] O [iZ a lv n] (fun r ψ R=>ψ=O∧r=.bool (decide (l.length≤n))∧R=[iZ a lv n]) never:=by
 have sl:=hl.av;refine au ?_;refine S.ld 0 ?_;refine S.ld 0 ?_;refine S.len ?_ (hl:=aa.len hl);refine S.bin ?_;refine⟨_,.t rfl .nil,.done ⟨rfl,?_,rfl⟩⟩;show V.bool (decide ((l.length:Int)≤(n:Int)))=_;rw[show decide ((l.length:Int)≤(n:Int))=decide (l.length≤n)from decide_eq_decide.2 (by omega)]
theorem kO [Fx F] {lv:V} {l:Bs} {a:Pa} {n:Nat} {m:Int} (hl:aa aQ O lv l) (dt:l.length≤1000):ai F 48 [.ptr a 0,.j m] O [iZ a lv n] (fun r ψ R=>ψ=O∧r=.j (aJ l n m).1∧R=[iZ a lv (aJ l n m).2]) never:=by
 have sl:=hl.av;refine au ?_;refine S.ld 0 ?_;refine S.ld 0 ?_;refine S.len ?_ (hl:=aa.len hl);refine S.bin ?_;refine G.mv ?_;refine G.bin ?_;refine G.or ?_;refine C.B (fun cy=>?_) fun cy=>?_
 ·have e:aJ l n m=(0,n):=by
   unfold aJ;rw[B4];simp at cy;rcases cy with h|h
   ·exact .inl h
   ·exact .inr h
  rw[e];exact⟨_,.t rfl .nil,.done ⟨rfl,rfl,rfl⟩⟩
 ·simp at cy;have hn:n<l.length:=by omega
  have e:aJ l n m=(((l[n]).toNat:Int)%m,n+1):=by
   unfold aJ;rw[pg (by omega),KJ hn];(try rfl)
  rw[e];refine S.ld 0 ?_;refine S.bin ?_ (v:=.j ((n+1:Nat):Int)) (hv:=by rw[ei (by omega) (by omega)];(try rfl));refine S.store 0 ?_;refine S.ld 0 ?_;refine S.ld 0 ?_;refine S.bin ?_ (v:=.j (n:Int)) (hv:=by rw[ig (by omega) (by omega),show(((n+1:Nat):Int)-1)=(n:Int) by omega]);refine S.aF hl hn fun DK DL=>?_;refine S.aX ?_;refine S.lK ?_;refine S.bin ?_ (hv:=Vl (by omega) (by have:=arc l[n];omega) (by omega));exact⟨_,.t rfl .nil,.done ⟨rfl,rfl,rfl⟩⟩
theorem M6 [Fx F] {lv:V} {l:Bs} {a:Pa} {n:Nat} (hl:aa aQ O lv l) (dt:l.length≤1000):ai F 50 [.ptr a 0] O [iZ a lv n] (fun r ψ R=>ψ=O∧r=.str (gL l n).1∧R=[iZ a lv (gL l n).2]) never:=by
 have sl:=hl.av;refine ai.same (au ?_);refine S.zt (e:=ec) zJ fun v3 ψ3 Ap h3=>?_;have hl:=hl.mono Ap;refine S.bb 0 rfl (kO (n:=n) (m:=15) hl dt) fun v5 Qz QA QB h5=>?_;obtain⟨h5,rfl,rfl⟩:=h5;have h5:=h5.symm;subst h5;obtain⟨Er,QC⟩:∃j:Nat,(aJ l (n) 15).1=(j:Int):=⟨(aJ l (n) 15).1.toNat,by have:=(ir l (n) (m:=15) (by omega)).1;omega⟩
 have hk5:=(ir l (n) (m:=15) (by omega)).2;rw[QC]at hk5⊢;refine S.aF h3 (j:=Er) (by show Er<15;omega) fun apl aaL=>?_;refine S.aX ?_;have dE:zJ.length=15:=rfl;have e:gL l n=(zJ[Er]'(by omega),(aJ l n 15).2):=by unfold gL;rw[QC,aqo,KJ (by omega)];(try rfl)
 rw[e];exact⟨_,.t rfl .nil,.done ⟨rfl,rfl⟩⟩
end Go.Ev
set_option maxHeartbeats 1000000
namespace Go.Ev
variable{F:Nat→Option aN} {O:Fz}
def M7:List Int:=vf.map Int.ofNat
theorem Vn {j:Nat} (h:j<vf.length):vf[j]≤121:=by
 have:∀x∈vf,x≤121:=by decide
 exact this _ (W1 h)
theorem akq [Fx F] {lv:V} {l:Bs} {a:Pa} {n:Nat} (hl:aa aQ O lv l) (dt:l.length≤1000):ai F 87 [.ptr a 0] O [iZ a lv n] (fun r ψ R=>ψ=O∧r=.str (pN l n).1∧R=[iZ a lv (pN l n).2]) never:=by
 have sl:=hl.av;refine ai.same (au ?_);refine S.zt (e:=bp) M7 fun v7 wn A9 h7=>?_;have hl:=hl.mono A9;refine S.bb 0 rfl (kO (n:=n) (m:=8) hl dt) fun v9 x6 O9 vM h9=>?_;obtain⟨h9,rfl,rfl⟩:=h9;have h9:=h9.symm;subst h9;obtain⟨BL,QD⟩:∃j:Nat,(aJ l (n) 8).1=(j:Int):=⟨(aJ l (n) 8).1.toNat,by have:=(ir l (n) (m:=8) (by omega)).1;omega⟩
 have hk9:=(ir l (n) (m:=8) (by omega)).2;rw[QD]at hk9⊢;have ny:vf.length=8:=rfl;obtain⟨k,hk⟩:∃k,k=vf[BL]'(by omega):=⟨_,rfl⟩
 have rX:k≤121:=by rw[hk];exact Vn (by omega)
 have hki:M7[BL]'(by show BL<8;omega)=(k:Int):=by rw[hk];simp[M7]
 refine S.aF h7 (j:=BL) (by show BL<8;omega) fun J6 J7=>?_;refine S.aX ?_;rw[hki];refine S.u0 (e:=aQ) (0:UInt8) (n:=k) (by omega) (by omega) fun gS vJ=>?_;refine S.bb 1 rfl (kO (n:=(aJ l n 8).2) (m:=26) hl dt) fun rM qd x7 oR dR=>?_;obtain⟨dR,rfl,rfl⟩:=dR;have dR:=dR.symm;subst dR;have hc:=ir l (aJ l n 8).2 (m:=26) (by omega);refine S.bin ?_;refine S.tb ?_;obtain⟨n2,l9⟩:∃n2,n2=(aJ l (aJ l n 8).2 26).2:=⟨_,rfl⟩
 obtain⟨cc,d1⟩:∃cc,cc=bS (97+(aJ l (aJ l n 8).2 26).1):=⟨_,rfl⟩
 rw[←l9,←d1];refine SW.bG (fun m E ψ R=>∃(j:Nat) (out:List UInt8),j+m=k∧out.length=k∧(∀i:Nat,i<j→out[i]? =some (cc+bS ((i%3:Nat):Int)))∧wn=ψ∧R=[iZ a lv n2,aQ.ob (some gS) out]∧Sub [(3,.j (k:Int)),(4,.sl gS 0 k (.ex k)),(5,c5 cc),(6,.j (j:Int))] E) (m:=k) (.done ⟨0,_,by omega,by simp,fun i hi=>absurd hi (by omega),rfl,rfl,.r rfl⟩) ?_;intro m0 E ψ R ac hI;obtain⟨j,out,e5,dC,eV,rfl,rfl,hE⟩:=hI;refine C.sub hE ?_;refine S.bin ?_;refine C.D (fun gs=>?_) fun gs=>?_
 ·have hj:j<k:=by omega
  have oo:ae aQ (.sl gS 0 k (.ex k)) out (some gS):=ae.new dC;refine S.bin ?_ (v:=.j ((j%3:Nat):Int)) (hv:=by rw[Vl (by omega) (by omega) (by omega)];(try rfl));refine S.tb ?_;refine S.bin ?_ (v:=c5 (cc+bS ((j%3:Nat):Int))) (hv:=akn _ _);refine S.cX oo (by omega) (fun a30 i4=>?_) (j:=j);cases i4;refine S.pE (e:=aQ) (l:=out) (j:=j) (cc+bS ((j%3:Nat):Int)) 1 ?_;refine S.bin ?_;exact⟨m0-1,by omega,.done ⟨j+1,_,by omega,by rw[arw];exact dC,fun i hi=>by
   rw[aqG];split
   ·rename_i he;subst he;rw[B4 (by omega)]
   ·exact eV i (by omega),rfl,rfl,.r rfl⟩⟩
 ·obtain rfl:j=k:=by omega
  have oo:ae aQ (.sl gS 0 j (.ex j)) out (some gS):=ae.new dC;have e:pN l n=(out,n2):=by
   unfold pN;simp only[QD,aqo];rw[KJ (by omega),←l9];simp only[aqD];rw[←hk];have:out=GQ j (aJ l (aJ l n 8).2 26).1:=by
    refine aro fun i=>?_;unfold GQ;rw[←d1];by_cases hi:i<j
    ·rw[eV i hi];simp[hi]
    ·rw[aq9 (by omega),aq9 (by simp;omega)]
   rw[this]
  rw[e];refine S.jS 1 oo ?_;exact⟨_,.t rfl .nil,.only 0 ⟨rfl,rfl⟩⟩
end Go.Ev
set_option maxHeartbeats 4000000
namespace Go.Ev
variable{F:Nat→Option aN} {O:Fz}
theorem Df {l:List Int} {j:Nat} (h:j<l.length):(l[j]?).getD 0=l[j]:=by rw[KJ h];(try rfl)
theorem akr [Fx F] {lv:V} {l:Bs} {a:Pa} {n:Nat} (hl:aa aQ O lv l) (dt:l.length≤1000):ai F 49 [.ptr a 0] O [iZ a lv n] (fun r ψ R=>ψ=O∧r=.agg (pO (tg l n).1 (.no .sl))∧R=[iZ a lv (tg l n).2]) never:=by
 have sl:=hl.av;refine au ?_;refine S.alloc fun a2=>?_;refine S.a8 fun a4=>?_;refine S.alloc fun a3=>?_;refine S.bb 3 rfl (kO (n:=n) (m:=12) hl dt) fun v6 BC O6 uy h6=>?_;obtain⟨h6,rfl,rfl⟩:=h6;have h6:=h6.symm;subst h6;obtain⟨yO,IE⟩:∃j:Nat,(aJ l (n) 12).1=(j:Int):=⟨(aJ l (n) 12).1.toNat,by have:=(ir l (n) (m:=12) (by omega)).1;omega⟩
 have hk6:=(ir l (n) (m:=12) (by omega)).2;rw[IE]at hk6⊢;have nB:vg.length=12:=rfl;refine S.jq 1 ?_;refine S.gi 2 ?_;have ol4:ae bp (.sl a4 0 12 (.ex 12)) vg (some a4):=ae.new rfl;refine S.cX ol4 (j:=yO) (by show yO<12;omega) fun c1 h7=>?_;cases h7;refine S.fM (e:=bp) (l:=vg) (j:=yO) 0 2 ?_ (hj:=by show yO<12;omega);refine S.bb 0 rfl (M6 (n:=(aJ l n 12).2) hl dt) fun eL rK Jy nu dA=>?_;obtain⟨dA,rfl,rfl⟩:=dA;have dA:=dA.symm;subst dA;refine S.bF 2 ?_ (hu:=zq (e:=bp) vg yO 0 _ rfl);refine S.jq 1 ?_;refine S.gi 2 ?_;refine S.build ?_;obtain⟨K,iP⟩:∃K,K=vg[yO]'(by omega):=⟨_,rfl⟩
 obtain⟨P,jb⟩:∃P,P=(gL l (aJ l n 12).2).1:=⟨_,rfl⟩
 obtain⟨n2,l9⟩:∃n2,n2=(gL l (aJ l n 12).2).2:=⟨_,rfl⟩
 have J8:tg l n=iY l K P n2:=by unfold tg;rw[IE,aqo,Df (by omega),←iP,←jb,←l9]
 rw[J8];rw[←iP,←jb,←l9];refine S.store 1 ?_;refine S.ld 1 ?_;refine S.bin ?_;refine C.B (fun dG=>?_) fun dG=>?_
 ·have k1:K=1:=by simpa using dG
  refine S.bb 0 rfl (kO (n:=n2) (m:=2) hl dt) fun k0 rO rP rQ bX=>?_;obtain⟨bX,rfl,rfl⟩:=bX;have bX:=bX.symm;subst bX;have apm:=ir l n2 (m:=2) (by omega);refine S.bin ?_;refine S.store 1 ?_;refine S.bb 0 rfl (kO (n:=(aJ l n2 2).2) (m:=12) hl dt) fun Aw EQ ER BM eO=>?_;obtain⟨eO,rfl,rfl⟩:=eO;have eO:=eO.symm;subst eO;refine S.bin ?_;refine C.D (fun d5=>?_) fun d5=>?_
  ·have e:iY l K P n2=(⟨K,0,0,(aJ l (aJ l (aJ l n2 2).2 12).2 4).1,0,P,[],[]⟩,(aJ l (aJ l (aJ l n2 2).2 12).2 4).2):=by unfold iY;rw[B4 k1,B4 d5]
   rw[e];refine S.bb 0 rfl (kO (n:=(aJ l (aJ l n2 2).2 12).2) (m:=4) hl dt) fun JN JO JP wN gN=>?_;obtain⟨gN,rfl,rfl⟩:=gN;have gN:=gN.symm;subst gN;refine S.store 1 ?_;refine S.af 1 ?_;refine S.store 3 ?_;exact⟨_,.cN 3 rfl rfl rfl rfl .nil,.only 0 ⟨rfl,rfl,rfl⟩⟩
  ·have e:iY l K P n2=(⟨K,0,0,1+(aJ l n2 2).1,0,P,[],[]⟩,(aJ l (aJ l n2 2).2 12).2):=by unfold iY;rw[B4 k1,pg d5]
   rw[e];refine S.af 1 ?_;refine S.store 3 ?_;exact⟨_,.cN 3 rfl rfl rfl rfl .nil,.only 0 ⟨rfl,rfl,rfl⟩⟩
 ·have k1:¬K=1:=by simpa using dG
  refine S.bin ?_;refine SW.xk (fun E ψ R=>∃c:Bool,c=decide (K=2∨K=4)∧O=ψ∧R=[iZ a lv n2,(some a3,.cells [.j K,.j 0,.j 0,.j 0,.j 0,.str P,.str [],.str [],.no .sl] false),(some a2,.cells [.j 0,.j 0,.j 0,.j 0,.j 0,.str [],.str [],.str [],.no .sl] false)]∧Sub [(0,.ptr a 0),(2,.ptr a2 0),(3,.ptr a3 0),(13,.j K),(26,.bool c)] E) ?_ ?_
  ·refine C.B (fun mg=>?_) fun mg=>?_
   ·exact .drop 2 (.done ⟨_,by simp at mg;simp[mg],rfl,rfl,.r rfl⟩)
   ·refine S.bin ?_;exact .drop 2 (.done ⟨_,by simp at mg;simp[mg],rfl,rfl,.r rfl⟩)
  intro E ψ R ac hM;obtain⟨c,hc,rfl,rfl,hE⟩:=hM;refine C.sub hE ?_;refine C.B (fun BN=>?_) fun BN=>?_
  ·have k2:K=2∨K=4:=by rw[hc]at BN;simpa using BN
   have e:iY l K P n2=(⟨K,0,0,0,0,P,(gL l n2).1,[]⟩,(gL l n2).2):=by unfold iY;rw[pg k1,B4 k2]
   rw[e];refine S.bb 0 rfl (M6 (n:=n2) hl dt) fun Qd Qe Qf wM i4=>?_;obtain⟨i4,rfl,rfl⟩:=i4;have i4:=i4.symm;subst i4;refine S.store 1 ?_;refine S.af 1 ?_;refine S.store 2 ?_;exact⟨_,.cN 2 rfl rfl rfl rfl .nil,.only 0 ⟨rfl,rfl,rfl⟩⟩
  ·have k2:¬(K=2∨K=4):=by rw[hc]at BN;simpa using BN
   refine S.bin ?_;refine C.B (fun eA=>?_) fun eA=>?_
   ·have k3:K=5:=by simpa using eA
    refine S.a8 fun J9=>?_;refine S.bb 1 rfl (kO (n:=n2) (m:=8) hl dt) fun ue abb Pz l36 lh=>?_;obtain⟨lh,rfl,rfl⟩:=lh;have lh:=lh.symm;subst lh;obtain⟨yP,QE⟩:∃j:Nat,(aJ l (n2) 8).1=(j:Int):=⟨(aJ l (n2) 8).1.toNat,by have:=(ir l (n2) (m:=8) (by omega)).1;omega⟩
    have abc:=(ir l (n2) (m:=8) (by omega)).2;rw[QE]at abc⊢;refine S.gi 1 ?_;have abd:ae bp (.sl J9 0 8 (.ex 8)) xD (some J9):=ae.new rfl;refine S.cX abd (j:=yP) (by show yP<8;omega) fun a37 pd=>?_;cases pd;refine S.fM (e:=bp) (l:=xD) (j:=yP) 0 1 ?_ (hj:=by show yP<8;omega);refine S.bb 0 rfl (akq (n:=(aJ l n2 8).2) hl dt) fun wt QF QG Ka mF=>?_;obtain⟨mF,rfl,rfl⟩:=mF;have mF:=mF.symm;subst mF;refine S.bF 1 ?_ (hu:=zq (e:=bp) xD yP 0 _ rfl);refine S.gi 1 ?_;refine S.drop 1 ?_;have ho8:xD.length=8:=rfl;have e:iY l K P n2=(⟨K,0,0,0,xD[yP]'(by omega),P,[],(pN l (aJ l n2 8).2).1⟩,(pN l (aJ l n2 8).2).2):=by unfold iY;rw[pg k1,pg k2,B4 k3,QE,aqo,Df (by omega)]
    rw[e];refine S.store 1 ?_;refine S.store 1 ?_;refine S.af 1 ?_;refine S.store 2 ?_;exact⟨_,.cN 2 rfl rfl rfl rfl .nil,.only 0 ⟨rfl,rfl,rfl⟩⟩
   ·have k3:¬K=5:=by simpa using eA
    refine S.bin ?_;refine C.B (fun fD=>?_) fun fD=>?_
    ·have k4:K=6:=by simpa using fD
     refine S.a8 fun a45=>?_;refine S.bb 1 rfl (kO (n:=n2) (m:=8) hl dt) fun v47 abe O47 Kb nz=>?_;obtain⟨nz,rfl,rfl⟩:=nz;have nz:=nz.symm;subst nz;obtain⟨BO,QH⟩:∃j:Nat,(aJ l (n2) 8).1=(j:Int):=⟨(aJ l (n2) 8).1.toNat,by have:=(ir l (n2) (m:=8) (by omega)).1;omega⟩
     have abf:=(ir l (n2) (m:=8) (by omega)).2;rw[QH]at abf⊢;have abg:ae bp (.sl a45 0 8 (.ex 8)) zK (some a45):=ae.new rfl;refine S.cX abg (j:=BO) (by show BO<8;omega) fun a48 lb=>?_;cases lb;refine S.fM (e:=bp) (l:=zK) (j:=BO) 0 1 ?_ (hj:=by show BO<8;omega);refine S.drop 1 ?_;have ho8:zK.length=8:=rfl;have e:iY l K P n2=(⟨K,0,0,0,zK[BO]'(by omega),P,[],[]⟩,(aJ l n2 8).2):=by unfold iY;rw[pg k1,pg k2,pg k3,B4 k4,QH,aqo,Df (by omega)]
     rw[e];refine S.store 1 ?_;refine S.af 1 ?_;refine S.store 2 ?_;exact⟨_,.cN 2 rfl rfl rfl rfl .nil,.only 0 ⟨rfl,rfl,rfl⟩⟩
    ·have k4:¬K=6:=by simpa using fD
     refine S.bin ?_;refine C.B (fun fE=>?_) fun fE=>?_
     ·have k5:K=7:=by simpa using fE
      have e:iY l K P n2=(⟨K,0,0,(aJ l n2 256).1,0,P,[],[]⟩,(aJ l n2 256).2):=by unfold iY;rw[pg k1,pg k2,pg k3,pg k4,B4 k5]
      rw[e];refine S.bb 0 rfl (kO (n:=n2) (m:=256) hl dt) fun OH Pt ZQ Ed sf=>?_;obtain⟨sf,rfl,rfl⟩:=sf;have sf:=sf.symm;subst sf;refine S.store 1 ?_;refine S.af 1 ?_;refine S.store 2 ?_;exact⟨_,.cN 2 rfl rfl rfl rfl .nil,.only 0 ⟨rfl,rfl,rfl⟩⟩
     ·have k5:¬K=7:=by simpa using fE
      have e:iY l K P n2=(⟨K,0,0,0,0,P,[],[]⟩,n2):=by unfold iY;rw[pg k1,pg k2,pg k3,pg k4,pg k5]
      rw[e];refine S.af 1 ?_;refine S.store 2 ?_;exact⟨_,.cN 2 rfl rfl rfl rfl .nil,.only 0 ⟨rfl,rfl,rfl⟩⟩
end Go.Ev
set_option maxHeartbeats 4000000
namespace Go.Ev
variable{F:Nat→Option aN} {O:Fz}
theorem aks [Fx F] {lv:V} {l:Bs} {a:Pa} {n:Nat} (hl:aa aQ O lv l) (dt:l.length≤1000):ai F 29 [.ptr a 0] O [iZ a lv n] (fun r ψ R=>ψ=O∧r=.agg (pO (rj l n).1 (.no .sl))∧R=[iZ a lv (rj l n).2]) never:=by
 have sl:=hl.av;refine au ?_;refine S.alloc fun a2=>?_;refine S.bb 1 rfl (kO (n:=n) (m:=20) hl dt) fun v5 Qz QA QB h5=>?_;obtain⟨h5,rfl,rfl⟩:=h5;have h5:=h5.symm;subst h5;obtain⟨k,hk⟩:∃k,k=(aJ l n 20).1:=⟨_,rfl⟩
 obtain⟨n2,l9⟩:∃n2,n2=(aJ l n 20).2:=⟨_,rfl⟩
 have J8:rj l n=kN l k n2:=by unfold rj;rw[←hk,←l9]
 rw[J8];rw[←hk,←l9];refine S.bin ?_;refine C.B (fun ja=>?_) fun ja=>?_
 ·have k1:k<12:=by simpa using ja
  have e:kN l k n2=tg l n2:=by unfold kN;rw[B4 k1]
  rw[e];refine S.bb 0 rfl (akr (n:=n2) hl dt) fun eL rK Jy nu dA=>?_;obtain⟨dA,rfl,rfl⟩:=dA;have dA:=dA.symm;subst dA;refine S.store (v:=.agg (pO (tg l n2).1 (.no .sl))) 1 ?_;exact⟨_,.cN 1 rfl rfl rfl rfl .nil,.only 0 ⟨rfl,rfl,rfl⟩⟩
 ·have k1:¬k<12:=by simpa using ja
  refine S.bin ?_;refine C.B (fun jE=>?_) fun jE=>?_
  ·have k2:k<15:=by simpa using jE
   have e:kN l k n2=(stepOf 11 0 [],n2):=by unfold kN;rw[pg k1];rw[B4 k2]
   rw[e];refine S.build ?_;refine S.store 1 ?_;exact⟨_,.cN 1 rfl rfl rfl rfl .nil,.only 0 ⟨rfl,rfl,rfl⟩⟩
  ·have k2:¬k<15:=by simpa using jE
   refine S.bin ?_;refine C.B (fun cp=>?_) fun cp=>?_
   ·have k3:k<17:=by simpa using cp
    have e:kN l k n2=(stepOf 12 0 [],n2):=by unfold kN;rw[pg k1];rw[pg k2];rw[B4 k3]
    rw[e];refine S.build ?_;refine S.store 1 ?_;exact⟨_,.cN 1 rfl rfl rfl rfl .nil,.only 0 ⟨rfl,rfl,rfl⟩⟩
   ·have k3:¬k<17:=by simpa using cp
    refine S.bin ?_;refine C.B (fun cG=>?_) fun cG=>?_
    ·have k4:k=17:=by simpa using cG
     refine S.a8 fun a22=>?_;refine S.bb 1 rfl (kO (n:=n2) (m:=2) hl dt) fun JN JO JP wN gN=>?_;obtain⟨gN,rfl,rfl⟩:=gN;have gN:=gN.symm;subst gN;obtain⟨yQ,QI⟩:∃j:Nat,(aJ l (n2) 2).1=(j:Int):=⟨(aJ l (n2) 2).1.toNat,by have:=(ir l (n2) (m:=2) (by omega)).1;omega⟩
     have abh:=(ir l (n2) (m:=2) (by omega)).2;rw[QI]at abh⊢;refine S.gi 1 ?_;have abi:ae bp (.sl a22 0 2 (.ex 2)) vh (some a22):=ae.new rfl;refine S.cX abi (j:=yQ) (by show yQ<2;omega) fun a25 fF=>?_;cases fF;refine S.fM (e:=bp) (l:=vh) (j:=yQ) 0 1 ?_ (hj:=by show yQ<2;omega);refine S.bb 0 rfl (kO (n:=(aJ l n2 2).2) (m:=4) hl dt) fun nE yn A0 oW dv=>?_;obtain⟨dv,rfl,rfl⟩:=dv;have dv:=dv.symm;subst dv;have apn:=ir l (aJ l n2 2).2 (m:=4) (by omega);refine S.bF 1 ?_ (hu:=zq (e:=bp) vh yQ 0 _ rfl);refine S.gi 1 ?_;refine S.bin ?_;refine S.build ?_;have hgl:vh.length=2:=rfl;have e:kN l k n2=(stepOf (vh[yQ]'(by omega)) (1+(aJ l (aJ l n2 2).2 4).1) [],(aJ l (aJ l n2 2).2 4).2):=by unfold kN;rw[pg k1,pg k2,pg k3,B4 k4,QI,aqo,Df (by omega)]
     rw[e];refine S.store 2 ?_;exact⟨_,.cN 2 rfl rfl rfl rfl .nil,.only 0 ⟨rfl,rfl,rfl⟩⟩
    ·have k4:¬k=17:=by simpa using cG
     refine S.bin ?_;refine C.B (fun rU=>?_) fun rU=>?_
     ·have k5:k=18:=by simpa using rU
      have e:kN l k n2=(stepOf 15 0 [],n2):=by unfold kN;rw[pg k1];rw[pg k2];rw[pg k3];rw[pg k4];rw[B4 k5]
      rw[e];refine S.build ?_;refine S.store 1 ?_;exact⟨_,.cN 1 rfl rfl rfl rfl .nil,.only 0 ⟨rfl,rfl,rfl⟩⟩
     ·have k5:¬k=18:=by simpa using rU
      refine S.a8 fun Bj=>?_;refine S.bb 1 rfl (kO (n:=n2) (m:=3) hl dt) fun v37 Qg Qh JJ pd=>?_;obtain⟨pd,rfl,rfl⟩:=pd;have pd:=pd.symm;subst pd;obtain⟨wR,QJ⟩:∃j:Nat,(aJ l (n2) 3).1=(j:Int):=⟨(aJ l (n2) 3).1.toNat,by have:=(ir l (n2) (m:=3) (by omega)).1;omega⟩
      have abj:=(ir l (n2) (m:=3) (by omega)).2;rw[QJ]at abj⊢;refine S.gi 1 ?_;have abk:ae bp (.sl Bj 0 3 (.ex 3)) th (some Bj):=ae.new rfl;refine S.cX abk (j:=wR) (by show wR<3;omega) fun a38 fZ=>?_;cases fZ;refine S.fM (e:=bp) (l:=th) (j:=wR) 0 1 ?_ (hj:=by show wR<3;omega);refine S.bb 0 rfl (M6 (n:=(aJ l n2 3).2) hl dt) fun OG apo O41 l41 wC=>?_;obtain⟨wC,rfl,rfl⟩:=wC;have wC:=wC.symm;subst wC;refine S.bF 1 ?_ (hu:=zq (e:=bp) th wR 0 _ rfl);refine S.gi 1 ?_;refine S.bb 0 rfl (kO (n:=(gL l (aJ l n2 3).2).2) (m:=3) hl dt) fun Qk Ql Qm Qn mE=>?_;obtain⟨mE,rfl,rfl⟩:=mE;have mE:=mE.symm;subst mE;refine S.bF 1 ?_ (hu:=zq (e:=bp) th wR 0 _ rfl);refine S.gi 1 ?_;refine S.build ?_;have hgl:th.length=3:=rfl;have e:kN l k n2=(stepOf (th[wR]'(by omega)) (aJ l (gL l (aJ l n2 3).2).2 3).1 (gL l (aJ l n2 3).2).1,(aJ l (gL l (aJ l n2 3).2).2 3).2):=by unfold kN;rw[pg k1,pg k2,pg k3,pg k4,pg k5,QJ,aqo,Df (by omega)]
      rw[e];refine S.store 2 ?_;exact⟨_,.cN 2 rfl rfl rfl rfl .nil,.only 0 ⟨rfl,rfl,rfl⟩⟩
def zeroV:aW:=⟨⟨[],[],0,false⟩,0,0,0,0,0,0,0,[]⟩
theorem akt (O:Fz):bZ O (be (.no .sl) (.no .sl) (.no .sl) zeroV) zeroV:=⟨_,_,_,rfl,aa.nil _,aa.nil _,js.nil _⟩
theorem aku [Fx F] {cs:List V} {kv:V} {v:aW} {s:gk} {BI:List Bool} (hv:bZ O cs v) (hg:VG v) (hk:aa qY O kv BI) (wP:Db s) (yD:1≤s.kind) (ur:s.kind≤15):
 ai F 28 [.agg cs,.agg (pO s kv)] O [] (fun r ψ R=>R=[]∧∃cs' l,r=.aM [.agg cs',.agg l]∧bZ ψ cs' (gK v s)∧zL ψ l) never:=by
 obtain⟨lv,wv,tv,rfl,hl,hw,ht,sl,sw,st,hd⟩:=hv.open;have skv:=hk.av;refine au ?_;refine S.box fun a2=>?_;refine S.box fun a3=>?_;refine S.alloc fun a4=>?_;refine S.alloc fun a5=>?_;refine S.store 2 ?_;refine S.af 3 ?_ (l:=be lv wv tv v);refine S.build ?_;refine S.build ?_ (l:=be lv wv tv v++[.no .sl,.no .sl,.j 0,.bool false,.j 0,.j 0,.j 0,.j 0,.j 0,.j 0,.j 0,.no .sl]) (d3:=by simp[aY,V.cells,be,lH,pC,mR,pD, *]);refine S.build ?_ (l:=hT lv wv tv v (.no .sl) (.no .sl) (.no .sl) zeroV []) (d3:=by simp[aY,V.cells,be,lH,pC,mR,pD, *]);refine S.af 2 ?_ (l:=pO {s with v:=0} kv);refine S.call (akm (s:={s with v:=0}) (w:=[]) hv hg (akt O) hk ⟨wP.path,wP.dst,wP.text,wP.off⟩ rfl yD ur) fun rM qd x7 oR dR=>?_;obtain⟨rfl,ly,wy,ty,la,rfl,hy,hz,ha⟩:=dR;obtain⟨Y,hY⟩:∃Y,Y=gK v {s with v:=0}:=⟨_,rfl⟩
 have hYs:gK v s=Y:=hY.symm;rw[←hY]at hy⊢;rw[hYs];obtain⟨ly',wy',ty',iO,gt,gu,fY⟩:=hy;obtain⟨rfl,rfl,rfl⟩:ly=ly'∧wy=wy'∧ty=ty':=by simp only[be,aq3]at iO;exact⟨iO.1,iO.2.1,iO.2.2.2.2.2.2.2.2.2.2.2.1⟩
 have cA:=gt.av;have cB:=gu.av;have cC:=fY.av;obtain⟨e0,wQ,a0,oK,tK,rI,f0,so,Qu,n0,rfl,qs⟩:=ha;have Qv:=qs.av;have jx:=De (v:=Y) (x:=zeroV) (w:=[]) (lx:=.no .sl) (wx:=.no .sl) (tx:=.no .sl) cA cB cC rfl rfl rfl;refine S.alloc fun cb=>?_;refine S.alloc fun c1=>?_;refine S.store (v:=.agg (hT ly wy ty Y (.no .sl) (.no .sl) (.no .sl) zeroV [])) 1 ?_ (hs:=jx);refine S.store (v:=.agg [.j e0,.str wQ,.j a0,.j oK,.j tK,.j rI,.j f0,so,.j n0]) 0 ?_;refine S.zl (j:=0) (by omega) ?_;refine S.af 1 ?_ (l:=be ly wy ty Y);refine S.af 0 ?_;refine S.store (v:=.agg (be ly wy ty Y)) 3 ?_ (hs:=cT cA cB cC);refine S.dy 0 ?_ (hs:=by simp[same,cm,fv,hB,qs.dd]);refine S.store (v:=.agg [.j e0,.str wQ,.j a0,.j oK,.j tK,.j rI,.j f0,so,.j n0]) 2 ?_;exact⟨_,.cN 3 rfl rfl rfl rfl (.cN 2 rfl rfl rfl rfl .nil),.none ⟨rfl,_,_,rfl,⟨ly,wy,ty,rfl,gt,gu,fY⟩,_,_,_,_,_,_,_,_,_,_,rfl,qs⟩⟩
end Go.Ev
namespace Go.Ev
structure VK (K:Nat) (v:aW):Prop where
 wait:v.d.wait.length≤101*K
 last:v.d.last.length≤1000
 arm:v.d.arm≤1000
 nb:0≤v.seq
 seq1:v.seq≤K
 ri:0≤v.sum
 lX:v.sum≤10000
 nc:0≤v.aU
 lY:v.aU≤100
 ju:0≤v.pos
 og:v.pos≤64
 n0:0≤v.n
 n1:v.n≤K
 trees:v.trees.length≤K
 may:∀h∈v.trees,bL h.t=true
 Dc:0≤v.id
 Dd:v.id≤1000
 xE:0≤v.next
theorem VK.le {K L:Nat} {v:aW} (h:VK K v) (hl:K≤L):VK L v:={h with wait:=by have:=h.wait;have:=Nat.mul_le_mul_left 101 hl;omega,seq1:=by have:=h.seq1;omega,n1:=by have:=h.n1;omega,trees:=by have:=h.trees;omega}
theorem VK.akv {K:Nat} {v:aW} (h:VK K v) (hk:K≤900):VG v:=
 {b:={wait:=by have:=h.wait;omega,last:=by have:=h.last;omega,arm:=by have:=h.arm;omega,nb:=h.nb,seq1:=by have:=h.seq1;omega,ri:=h.ri,lX:=by have:=h.lX;omega,nc:=h.nc,lY:=by have:=h.lY;omega,ju:=h.ju,og:=by have:=h.og;omega,n0:=h.n0,n1:=by have:=h.n1;omega,trees:=by have:=h.trees;omega,dp:=fun x hx=>⟨C9 (h.may x hx),by have:=Va x.t;omega⟩}
  may:=h.may,Vi:=by have:=h.trees;omega,Dc:=h.Dc,Dd:=by have:=h.Dd;omega,xE:=h.xE}
theorem VK.Dg {K:Nat} {v w:aW} (h:VK K v) (hd:DB v w):VK (K+1) {v with d:=w.d}:=
 {h.le (aqF K)with wait:=by have:=h.wait;have:=hd.2.1;show w.d.wait.length≤_;omega,last:=by rw[show({v with d:=w.d}:aW).d.last.length=w.d.last.length from rfl,hd.1];exact h.last,arm:=by have:=h.arm;have:=hd.2.2;show w.d.arm≤_;omega}
theorem VK.M8 {K L:Nat} {v:aW} (h:VK K v) (hl:K≤L) {l:List bD} (I:l.length≤L) (J:∀x∈l,bL x.t=true):VK L {v with trees:=l}:={h.le hl with trees:=I,may:=J}
theorem akw {d:ay} {sum eC s:Int} (h:rf d sum eC=some s):0≤s∧s<(bW d:Nat):=by
 have:=MU eC 0 (lT d sum) s h;rw[CX]at this;omega
theorem Vo {K:Nat} {st v:aW} {gen:Int} {p:List aV×List ag} (aj:VK K st) (hv:VK (K+1) v) (c4:DB st (kL st v gen p).1) (hp:v.pos+p.1.length+1≤64) (hg:gen=st.seq+1):VK (K+1) (kL st v gen p).1:=by
 have I:=VK.Dg aj c4;unfold kL at c4 I⊢;simp only at c4 I⊢;split
 ·rename_i hc;rw[B4 hc]at I;exact I
 ·rename_i hc;rw[pg hc]at I c4;split
  ·rename_i oE;rw[B4 oE]at I;exact I
  ·rename_i oE;rw[pg oE]at I c4;have hs:=aj.seq1;have hs0:=aj.nb;have hf:=C4 (s:=v.aU) hv.nc (by have:=hv.lY;omega);have rc:bO v.aU≤6402:=by unfold bO;have:=hv.lY;split<;>omega
   have JG:=hv.ju;exact{hv with wait:=I.wait,last:=I.last,arm:=I.arm,nb:=by show 0≤gen;omega,seq1:=by show gen≤_;omega,ri:=by show 0≤bO v.aU+v.pos+p.1.length;omega,lX:=by show bO v.aU+v.pos+p.1.length≤_;omega,ju:=by show 0≤v.pos+p.1.length+1;omega,og:=by show v.pos+p.1.length+1≤_;omega}
theorem M9 {K:Nat} {v:aW} {lo hi:Int} (h:VK K v):VK (K+1) (dz v lo hi).1:=by
 have c4:=C7 (v:=v) (lo:=lo) (hi:=hi) h.ju;have h':=h.le (aqF K);unfold dz at c4⊢;split
 ·exact h'
 ·rename_i fK;rw[pg fK]at c4;split
  ·exact h'
  ·rename_i jw;rw[pg jw]at c4;split
   ·exact h'
   ·rename_i pT;rw[pg pT]at c4;split
    ·exact h'
    ·rename_i p hp;rw[hp]at c4;simp only at c4⊢;split
     ·exact h'
     ·rename_i fj;rw[pg fj]at c4;split
      ·rename_i rN;rw[B4 rN]at c4;unfold writeNew at c4⊢;split
       ·exact h'
       ·rename_i aU JH;rw[JH]at c4;simp only at c4;have gQ:=akw JH;have Es:bW v.d≤100:=by have:=h.last;unfold bW;omega
        split
        ·exact h'
        ·rename_i ja;rw[pg ja]at c4;split
         ·exact h'
         ·rename_i p2 tZ;rw[tZ]at c4;simp only at c4;split
          ·exact h'
          ·rename_i ml;rw[pg ml]at c4;have hs:=C5 v.d ⟨v.n+1,v.seq,v.sum,aU,0⟩;simp only at c4⊢;have J:=VK.Dg h (w:={v with d:=(jr v.d ⟨v.n+1,v.seq,v.sum,aU,0⟩).1}) ⟨hs.1,by show(jr _ _).1.wait.length≤_;omega,hs.2.2⟩;split
           ·exact J
           ·rename_i g7;rw[pg g7]at c4;refine Vo h {J with n0:=by have:=h.n0;show 0≤v.n+1;omega,n1:=by have:=h.n1;show v.n+1≤_;omega,nc:=gQ.1,lY:=by show aU≤100;omega,ju:=aqc 0,og:=by show(0:Int)≤64;omega} c4 (by show 0+(p2.1.length:Int)+1≤64;omega) rfl
      ·rename_i rN;rw[pg rN]at c4;exact Vo h h' c4 (by omega) rfl
theorem Na {K:Nat} {v x:aW} (h:VK K v) (hx:VK K x) (hd:x.d=v.d):VK (K+1) (eU v x).1:=by
 have I:=M9 (lo:=0) (hi:=0) hx;have c4:=C7 (v:=x) (lo:=0) (hi:=0) hx.ju;unfold eU;simp only;split
 ·exact VK.Dg h (by unfold DB at c4⊢;rw[hd]at c4;exact c4)
 ·split
  ·exact h.le (aqF K)
  ·exact I
theorem Vp {l:List bD} {h:bD} (hl:∀x∈l,bL x.t=true) (hh:bL h.t=true):(fi l h).length≤l.length+1∧∀x∈fi l h,bL x.t=true:=by
 refine⟨?_,fun x hx=>?_⟩
 ·unfold fi;rw[UP];have:=MO (l:=l) (k:=h.r.kind) (i:=h.r.id);omega
 ·rcases U0 hx with I|I
  ·rw[I];exact hh
  ·exact hl x I
theorem Vq {l:List bD} {t:an} (hl:∀x∈l,bL x.t=true):(lV l t).length≤l.length+1∧∀x∈lV l t,bL x.t=true:=by
 unfold lV;split
 ·rename_i h;exact Vp hl h
 ·exact⟨aqF _,hl⟩
theorem Vr {k i:Int}:∀{l r:List bD},hS l k i=some r→r.length≤l.length∧∀x∈r,x∈l
 |[],_,h=>by cases h
 |a::l,r,h=>by
  simp only[hS]at h;split at h
  ·cases h;exact⟨by simp,fun x hx=>amI _ hx⟩
  ·obtain⟨z,z1,z2⟩:=aqp.1 h;subst z2;obtain⟨aaY,JB⟩:=Vr z1;refine⟨by simp;omega,fun x hx=>?_⟩;rcases Ro.1 hx with I|I
   ·rw[I];exact apV
   ·exact amI _ (JB x I)
theorem VK.head {K:Nat} {v:aW} (h:VK K v):bL (et v.trees)=true:=MY (P:=fun t=>bL t=true) M5 h.may
theorem akx {K:Nat} {v:aW} (h:VK K v):VK (K+2) (lW v).1:=by
 unfold lW;split
 ·exact h.le (by omega)
 ·obtain⟨I,J⟩:=Vp (h:=⟨⟨3,v.next,v.id*65536+v.next,0,0⟩,et v.trees⟩) h.may h.head;have hx:VK (K+1) {v with trees:=fi v.trees ⟨⟨3,v.next,v.id*65536+v.next,0,0⟩,et v.trees⟩,next:=v.next+1}:={h.le (aqF K)with trees:=by have:=h.trees;show(fi _ _).length≤_;omega,may:=J,xE:=by have:=h.xE;show 0≤v.next+1;omega}
  have:=Na (h.le (aqF K)) hx rfl;simp only;split<;>exact this
theorem aky {K:Nat} {v:aW} (h:VK K v) (s:gk):VK (K+2) (iG v s):=by
 unfold iG;split
 ·exact(Na h h rfl).le (by omega)
 ·split
  ·exact akx h
  ·split
   ·unfold pL;split
    ·exact h.le (by omega)
    ·rename_i l hl;obtain⟨I,J⟩:=Vr hl;exact(Na h (x:={v with trees:=l}) (h.M8 (B5 K) (by have:=h.trees;omega) (fun x hx=>h.may x (J x hx))) rfl).le (by omega)
   ·split
    ·unfold pM;split
     ·exact h.le (by omega)
     ·rename_i x hx;obtain⟨I,J⟩:=Vq (t:=x.t) h.may;exact h.M8 (by omega) (by have:=h.trees;omega) J
    ·unfold oh;split
     ·exact h.le (by omega)
     ·rename_i s hs;have I:=M9 (lo:=bO s) (hi:=bO s+64) h;have c4:=C7 (v:=v) (lo:=bO s) (hi:=bO s+64) h.ju;simp only;split
      ·exact(h.Dg c4).le (by omega)
      ·split
       ·exact h.le (by omega)
       ·exact I.le (by omega)
theorem Nb {K:Nat} {v:aW} (h:VK K v) (s:gk):VK (K+2) (gK v s):=by
 unfold gK;split
 ·split
  ·exact h.le (by omega)
  ·obtain⟨I,J⟩:=Vq (t:=(gm (et v.trees) s).1) h.may;exact h.M8 (by omega) (by have:=h.trees;omega) J
 ·split
  ·exact h.le (by omega)
  ·exact aky h s
theorem akz {bi:Nat} {id:Int} (h:bi≤15) (h0:0≤id) (I:id≤1000):VK 1 (iq bi id):={wait:=by show 0≤101*1;omega,last:=by show(List.replicate _ _).length≤1000;rw[aqL];omega,arm:=by show(0:Int)≤1000;omega,nb:=aqc 0,seq1:=by show(0:Int)≤1;omega,ri:=aqc 0,lX:=by show(0:Int)≤10000;omega,nc:=aqc 0,lY:=by show(0:Int)≤100;omega,ju:=aqc 0,og:=by show(0:Int)≤64;omega,n0:=aqc 0,n1:=by show(0:Int)≤1;omega,trees:=by show 1≤1;omega,may:=fun x hx=>by rw[aqj.1 hx];exact M5,Dc:=h0,Dd:=I,xE:=by show(0:Int)≤1;omega}
theorem Nc {bi:Nat} {id:Int} (h:bi≤15) (h0:0≤id) (I:id≤1000):VK 3 (vd bi id).1:=by
 have J:=M9 (lo:=0) (hi:=0) (akz (bi:=bi) h h0 I);obtain⟨Y,hY⟩:∃Y,Y=(dz (iq bi id) 0 0).1:=⟨_,rfl⟩
 show VK 3 {(dz (iq bi id) 0 0).1 with d:=(xC (dz (iq bi id) 0 0).1).1,n:=1};rw[←hY]at J⊢;have hs:=C5 Y.d ⟨1,Y.seq,Y.sum,Y.aU,Y.pos⟩;have h3:=VK.Dg J (w:={Y with d:=(xC Y).1}) ⟨hs.1,by show(jr _ _).1.wait.length≤_;omega,hs.2.2⟩;exact{h3 with n0:=by show(0:Int)≤1;omega,n1:=by show(1:Int)≤3;omega}
theorem Vs {l:Bs}:∀(k n K:Nat) {v:aW},VK K v→VK (K+2*k) (ti l k n v)
 |0,n,K,v,h=>h
 |k+1,n,K,v,h=>by
  simp only[ti];split
  ·exact h.le (by omega)
  ·exact(Vs k _ (K+2) (Nb h _)).le (by omega)
theorem akA:∀x∈zJ,x.length≤10:=by decide
theorem Nd (l:Bs) (n:Nat):(gL l n).1.length≤10:=by
 unfold gL;simp only;cases h:zJ[(aJ l n 15).1.toNat]? with
 |none=>exact amu _
 |some x=>exact akA x (aqM h)
theorem akB (l:Bs) (n:Nat):(pN l n).1.length≤121:=by
 unfold pN GQ;simp only[apZ,List.length_range];cases h:vf[(aJ l n 8).1.toNat]? with
 |none=>exact amu _
 |some x=>obtain⟨I,J⟩:=ap1.1 h;show x≤121;rw[←J];exact Vn I
theorem Vt {l:List Int} {j:Nat} {B:Int} (h:∀x∈l,x≤B) (tO:0≤B):(l[j]?).getD 0≤B:=by
 cases hx:l[j]? with
 |none=>exact tO
 |some x=>exact h x (aqM hx)
def GR (s:gk):Prop:=Db s∧1≤s.kind∧s.kind≤15
theorem akC {l:Bs} {kind:Int} {path:Bs} {n:Nat} (I:1≤kind) (J:kind≤15) (hp:path.length≤10):GR (iY l kind path n).1:=by
 have hd:=Nd l n;have ht:=akB l (aJ l n 8).2;have ho:=Vt (l:=xD) (j:=(aJ l n 8).1.toNat) (B:=1000) (by decide) (by decide);have hc:=Vt (l:=zK) (j:=(aJ l n 8).1.toNat) (B:=1000) (by decide) (by decide);unfold iY
 repeat' split
 all_goals exact⟨⟨by show path.length≤1000;omega,by first|(show 0≤1000;omega)|(show(gL l n).1.length≤1000;omega),by first|(show 0≤1000;omega)|(show(pN _ _).1.length≤1000;omega),by first|(show(0:Int)≤1000000;omega)|exact Int.le_trans ho (by decide)|exact Int.le_trans hc (by decide)⟩,I,J⟩
theorem akD (l:Bs) (n:Nat):GR (tg l n).1:=by
 have hk:=ir l n (m:=12) (by omega);unfold tg;have key:∀j<12,1≤(vg[j]?).getD 0∧(vg[j]?).getD 0≤15:=by decide
 have:=key (aJ l n 12).1.toNat (by omega);exact akC this.1 this.2 (Nd l _)
theorem Dh {k i:Int} {p:Bs} (I:1≤k) (J:k≤15) (hp:p.length≤10):GR (stepOf k i p):=⟨⟨by show p.length≤1000;omega,by show 0≤1000;omega,by show 0≤1000;omega,by show(0:Int)≤1000000;omega⟩,I,J⟩
theorem akE (l:Bs) (n:Nat):GR (rj l n).1:=by
 unfold rj kN;have n2:([]:Bs).length≤10:=amu _;split
 ·exact akD _ _
 ·split
  ·exact Dh (by decide) (by decide) n2
  ·split
   ·exact Dh (by decide) (by decide) n2
   ·split
    ·have hk:=ir l (aJ l n 20).2 (m:=2) (by omega);have key:∀j<2,1≤(vh[j]?).getD 0∧(vh[j]?).getD 0≤15:=by decide
     have:=key (aJ l (aJ l n 20).2 2).1.toNat (by omega);exact Dh this.1 this.2 n2
    ·split
     ·exact Dh (by decide) (by decide) n2
     ·have hk:=ir l (aJ l n 20).2 (m:=3) (by omega);have key:∀j<3,1≤(th[j]?).getD 0∧(th[j]?).getD 0≤15:=by decide
      have:=key (aJ l (aJ l n 20).2 3).1.toNat (by omega);exact Dh this.1 this.2 (Nd _ _)
end Go.Ev
set_option maxHeartbeats 4000000
namespace Go.Ev
variable{F:Nat→Option aN} {O:Fz}
def om (l:Bs) (bi eP:Nat):aW:=ti l eP 0 (vd bi 1).1
theorem Vu (l:Bs) {bi:Nat} (eP:Nat) (h:bi≤15):VK (3+2*eP) (om l bi eP):=Vs eP 0 3 (Nc h (by decide) (by decide))
theorem Vv [Fx F] {lv:V} {l:Bs} {a:Pa} {bi eP:Nat} (hl:aa aQ O lv l) (dt:l.length≤1000) (h4:4≤bi) (cd:bi≤12) (hm:eP≤400):
 ai F 7 [.ptr a 0,.j (bi:Int),.j (eP:Int)] O [iZ a lv 0] (fun r ψ R=>∃cs n,r=.agg cs∧bZ ψ cs (om l bi eP)∧R=[iZ a lv n]) never:=by
 have sl:=hl.av;refine au ?_;refine S.alloc fun cb=>?_;refine S.call (ajP (bi:=bi) (id:=1) h4 cd (by decide) (by decide)) fun g4 kX p7 mj abl=>?_;obtain⟨rfl,apq,rfl,QK⟩:=abl;have hl:=hl.mono mj;obtain⟨ly,wy,ty,rfl,gt,gu,fY,cA,cB,cC,jI⟩:=QK.open;have iP:=Nc (bi:=bi) (id:=1) (by omega) (by decide) (by decide);refine S.alloc fun c1=>?_;refine S.store (v:=.agg (be ly wy ty (vd bi 1).1)) 0 ?_ (hs:=cT cA cB cC);refine SW.bG (fun m E ψ R=>∃(i n:Nat) (v:aW) (ip iu uz:V),i+m=eP∧ti l m n v=om l bi eP∧VK (3+2*i) v∧bZ ψ (be ip iu uz v) v∧aa aQ ψ lv l∧R=[iZ a lv n,(some c1,.cells (be ip iu uz v) false),(some cb,.cells [.no .sl,.no .sl,.j 0,.bool false,.j 0,.j 0,.j 0,.j 0,.j 0,.j 0,.j 0,.no .sl] false)]∧Sub [(0,.ptr a 0),(2,.j (eP:Int)),(6,.ptr cb 0),(7,.ptr c1 0),(9,.j (i:Int))] E) (m:=eP) (.front 2 rfl (.done ⟨0,0,_,ly,wy,ty,by omega,rfl,iP,QK,hl,rfl,.r rfl⟩)) ?_;intro m0 E ψ R ac hI;obtain⟨i,n,v,ip,iu,uz,Bk,ab,iP,hv,hl,rfl,hE⟩:=hI;refine C.sub hE ?_;refine S.bin ?_;refine G.mv ?_;refine G.ako rfl (fun _=>akp hl dt) ?_;refine G.un ?_;refine G.and ?_;refine C.B (fun d5=>?_) fun d5=>?_
 ·simp at d5;obtain⟨k,rfl⟩:∃k,m0=k+1:=⟨m0-1,by omega⟩
  simp only[ti]at ab;rw[pg (by omega)]at ab;obtain⟨abm,k1,Kc⟩:=akE l n;have hg:=iP.akv (by omega);have hK2:=Nb iP (rj l n).1;obtain⟨Kd,Ke,Kf,su,Kg,Kh,Ki⟩:=id hv;obtain⟨rfl,rfl,rfl⟩:ip=Kd∧iu=Ke∧uz=Kf:=by simp only[be,aq3]at su;exact⟨su.1,su.2.1,su.2.2.2.2.2.2.2.2.2.2.2.1⟩
  refine S.af 1 ?_ (l:=be ip iu uz v);refine S.bb 0 rfl (aks (n:=n) hl dt) fun nE yn A0 oW dv=>?_;obtain⟨dv,rfl,rfl⟩:=dv;have dv:=dv.symm;subst dv;refine S.dy 1 ?_ (hs:=GN Kg Kh Ki);refine S.call (aku (BI:=[]) hv hg (aa.nil _) abm k1 Kc) fun yb yc yd oT d6=>?_;obtain⟨rfl,apr,la,rfl,QL,ha⟩:=d6;obtain⟨lx,wx,tx,rfl,sj,uq,EG,mB,mC,ux,Jk⟩:=QL.open;have hl:=hl.mono oT;refine S.store (v:=.agg (be lx wx tx (gK v (rj l n).1))) 1 ?_ (hs:=cT mB mC ux);refine S.bin ?_;exact⟨k,by omega,.done ⟨i+1,_,_,lx,wx,tx,by omega,ab,hK2.le (by omega),QL,hl,rfl,.r rfl⟩⟩
 ·simp at d5;have e:v=om l bi eP:=by
   rw[←ab];cases m0 with
   |zero=>rfl
   |succ k=>simp only[ti];rw[B4 (d5 (by omega))]
  obtain⟨Kd,Ke,Kf,su,Kg,Kh,Ki⟩:=id hv;obtain⟨rfl,rfl,rfl⟩:ip=Kd∧iu=Ke∧uz=Kf:=by simp only[be,aq3]at su;exact⟨su.1,su.2.1,su.2.2.2.2.2.2.2.2.2.2.2.1⟩
  rw[←e];refine S.af 1 ?_ (l:=be ip iu uz v);refine S.store (v:=.agg (be ip iu uz v)) 2 ?_ (hs:=cT Kg.av Kh.av Ki.av);exact⟨_,.cN 2 rfl rfl rfl rfl .nil,.only 0 ⟨_,n,rfl,hv,rfl⟩⟩
end Go.Ev
namespace Go.Ev
def nd (t:an) (i:Int):cM:=if i<1∨(t.length:Int)<i then ff else nodeAt t i
def zM (n:cM):Bool:=decide (0≤n.mode)&&decide (n.mode≤255)
def fR (n:cM):Bool:=if n.kind=0 then decide (n=ff)else if n.kind=1 then decide (n.body.length≤120)&&zM n else if n.kind=2 then(cY n.body).isSome&&zM n else false
def xF (t:an):Nat→Nat→List Int→List Int
 |0,_,nm=>nm
 |f+1,i,nm=>xF t f (i+1) ((aR t i).foldl bump nm)
def l0 (t:an):List Int:=xF t t.length 1 (List.replicate 10 0)
theorem GS (t:an) (i:Int):aR t i=gj (nd t i):=by
 unfold aR nd gj;by_cases h:i<1∨(t.length:Int)<i
 ·rw[B4 h,B4 (by omega)];(try rfl)
 ·rw[pg h];by_cases hk:(nodeAt t i).kind=2
  ·rw[pg (by omega),B4 hk]
  ·rw[B4 (by omega),pg hk]
theorem Vw:∀{l:List aT} {p:Option Bs} {s b:Bs},fy p s l=some b→b.length≤120
 |[],p,s,b,h=>by
  simp only[fy]at h;split at h
  ·cases h
  ·cases h;omega
 |e::l,p,s,b,h=>by
  simp only[fy]at h;split at h
  ·cases h
  ·exact Vw h
theorem akF {b:Bs} {l:List aT} (h:cY b=some l):b.length≤120:=by
 unfold cY at h;split at h
 ·cases h
 ·split at h
  ·rename_i J;exact Vw J
  ·cases h
theorem GU (n:cM):zM n=true↔¬(n.mode<0∨255<n.mode):=by
 unfold zM;simp only[G7,G6];omega
theorem akG (nm:List Int) (n:cM):gC nm n=if fR n=true then some ((gj n).foldl bump nm)else none:=by
 unfold gC fR gj;by_cases h0:n.kind=0
 ·have hk:¬n.kind=2:=by omega
  rw[B4 h0,B4 h0,pg hk];by_cases hn:n=ff
  ·rw[B4 hn,B4 (by simpa using hn)];(try rfl)
  ·rw[pg hn,pg (by simpa using hn)]
 ·rw[pg h0,pg h0];by_cases I:n.kind=1
  ·have hk:¬n.kind=2:=by omega
   rw[B4 I,B4 I,pg hk];unfold nX;by_cases hb:n.mode<0∨255<n.mode∨120<n.body.length
   ·rw[B4 hb,pg];intro h;simp only[G7,G6,GU]at h;omega
   ·rw[pg hb,B4]
    ·rfl
    ·simp only[G7,G6,GU];omega
  ·rw[pg I,pg I];by_cases J:n.kind=2
   ·rw[B4 J,B4 J,B4 J];cases hd:cY n.body with
    |none=>simp
    |some l=>
     have hl:=akF hd;simp only;unfold nX;by_cases hb:n.mode<0∨255<n.mode∨120<n.body.length
     ·rw[B4 hb,pg];intro h;simp only[G7,GU]at h;omega
     ·rw[pg hb,B4]
      ·rfl
      ·simp only[G7,GU];exact⟨rfl,by omega⟩
   ·rw[pg J,pg J,pg J];simp
theorem Vx (t:an):∀(f i:Nat) (nm:List Int),xF t (f+1) i nm=(aR t ((i+f:Nat):Int)).foldl bump (xF t f i nm)
 |0,i,nm=>rfl
 |f+1,i,nm=>by
  show xF t (f+1) (i+1) _=_;rw[Vx t f (i+1)];rw[show i+1+f=i+(f+1) by omega];(try rfl)
theorem Vy (t:an):∀(l:List cM) (i:Nat) (nm:List Int),l=t.drop i→nY l nm=if l.all fR=true then some (xF t l.length (i+1) nm)else none
 |[],i,nm,_=>rfl
 |n::r,i,nm,h=>by
  have hi:i<t.length:=by
   apply Decidable.byContradiction;intro J;rw[aqw (by omega)]at h;cases h
  rw[Rm hi]at h;obtain⟨I,J⟩:=List.cons.inj h;have hd:gj n=aR t ((i+1:Nat):Int):=by
   rw[GS];unfold nd;rw[pg (by omega),Gu hi,I]
  simp only[nY];rw[akG,aqJ];by_cases hf:fR n=true
  ·rw[B4 hf,hf,aql];simp only;rw[Vy t r (i+1) _ J,hd,WW];(try rfl)
  ·rw[pg hf];have:fR n=false:=by simpa using hf
   rw[this];(try rfl)
theorem Vz (t:an):zu t=if t.all fR=true then some (l0 t)else none:=Vy t t 0 _ rfl
def kP (s s':List Bool):Prop:=s.length=s'.length∧∀i:Nat,(s[i]?).getD false=true→(s'[i]?).getD false=true
theorem kP.refl (s:List Bool):kP s s:=⟨rfl,fun _ h=>h⟩
theorem kP.trans {a b c:List Bool} (h:kP a b) (k:kP b c):kP a c:=⟨h.1.trans k.1,fun i x=>k.2 i (h.2 i x)⟩
theorem kP.count:∀{s s':List Bool},kP s s'→s.count true≤s'.count true∧(s.count true=s'.count true→s=s')
 |[],[],_=>⟨B5 _,fun _=>rfl⟩
 |[],_::_,h=>by cases h.1
 |_::_,[],h=>by cases h.1
 |a::s,b::s',h=>by
  have h0:=h.2 0;have hs:kP s s':=⟨by have:=h.1;simpa using this,fun i hi=>by have:=h.2 (i+1);simp at this;exact this hi⟩
  obtain⟨k1,k2⟩:=hs.count;cases a<;>cases b<;>simp at h0⊢
  ·exact⟨k1,k2⟩
  ·exact⟨by omega,by omega⟩
  ·exact⟨k1,k2⟩
theorem VA (s:List Bool) (e:aT):kP s (mark s e):=by
 unfold mark;refine⟨by simp,fun i hi=>?_⟩;rw[aqG];split
 ·split
  ·rfl
  ·rename_i I J;subst I;rw[aq9 (by omega)]at hi;cases hi
 ·exact hi
theorem Nf:∀(l:List aT) (s:List Bool),kP s (l.foldl mark s)
 |[],s=>.refl s
 |e::l,s=>(VA s e).trans (Nf l _)
theorem VC:∀(l:List aT) (s:List Bool) (e:aT),e∈l→e.ino.toNat<s.length→((l.foldl mark s)[e.ino.toNat]?).getD false=true
 |[],s,e,he,_=>by cases he
 |a::l,s,e,he,hl=>by
  rw[aqk];rcases Ro.1 he with rfl|he
  ·refine(Nf l _).2 _ ?_;unfold mark;rw[aqG,B4 rfl,B4 hl];(try rfl)
  ·exact VC l _ e he (by rw[←(VA s a).1];exact hl)
theorem Ng (t:an) (s:List Bool) (i:Nat):kP s (lN t s i):=by
 unfold lN;split
 ·exact Nf _ _
 ·exact .refl s
theorem Nh (t:an):∀(l:List Nat) (s:List Bool),kP s (l.foldl (lN t) s)
 |[],s=>.refl s
 |i::l,s=>(Ng t s i).trans (Nh t l _)
theorem VD (t:an):∀(l:List Nat) (s:List Bool) (i:Nat) (e:aT),i∈l→(s[i]?).getD false=true→e∈aR t i→s.length=10→((l.foldl (lN t) s)[e.ino.toNat]?).getD false=true
 |[],_,_,_,hi,_,_,_=>by cases hi
 |k::l,s,i,e,hi,hs,he,hl=>by
  rw[aqk];have I:=pF e he;rcases Ro.1 hi with rfl|hi
  ·refine(Nh t l _).2 _ ?_;unfold lN;rw[B4 hs];exact VC _ _ e he (by omega)
  ·exact VD t l _ i e hi ((Ng t s k).2 i hs) he (by rw[←(Ng t s k).1];exact hl)
theorem VE (t:an) (s:List Bool):kP s (kI t s):=Nh t _ s
theorem Ni (t:an):∀(k:Nat) (s:List Bool),kP s (mW t k s)
 |0,s=>.refl s
 |k+1,s=>(VE t s).trans (Ni t k _)
theorem akH (t:an) (k:Nat) (s:List Bool) (h:kI t s=s):mW t k s=s:=by
 induction k with
 |zero=>rfl
 |succ k ih=>simp only[mW];rw[h];exact ih
theorem VF (t:an):∀(k:Nat) (s:List Bool),kI t (mW t k s)=mW t k s∨s.count true+k≤(mW t k s).count true
 |0,s=>.inr (B5 _)
 |k+1,s=>by
  by_cases h:kI t s=s
  ·left;rw[akH t (k+1) s h];exact h
  ·obtain⟨fK,jw⟩:=(VE t s).count;have:s.count true≠(kI t s).count true:=fun e=>h (jw e).symm;rcases VF t k (kI t s)with I|I
   ·exact .inl I
   ·right;show _≤(mW t k (kI t s)).count true;omega
theorem Nj (t:an):(fg t).length=10:=by
 have:=(Ni t 9 ((List.replicate 10 false).set 1 true)).1;unfold fg;rw[←this];simp
theorem VH:∀(s:List Bool),s.length≤s.count true→∀i:Nat,i<s.length→(s[i]?).getD false=true
 |[],_,i,h=>by simp at h
 |a::s,h,i,hi=>by
  have:=s.count_le_length (a:=true);cases a
  ·simp at h;omega
  ·cases i with
   |zero=>rfl
   |succ i=>simp at h hi⊢;have:=VH s h i hi;simpa using this
theorem akI (t:an):kI t (fg t)=fg t∨10≤(fg t).count true:=by
 have h:=VF t 9 ((List.replicate 10 false).set 1 true);have e:((List.replicate 10 false).set 1 true).count true=1:=by decide
 rw[e]at h;unfold fg;exact h
theorem xG {i:Nat}:i∈[1,2,3,4,5,6,7,8,9]↔1≤i∧i≤9:=by
 simp only[Ro,arW,or_false];omega
theorem akJ {t:an} {i:Nat} {e:aT} (I:1≤i) (h9:i≤9) (hs:((fg t)[i]?).getD false=true) (he:e∈aR t i):((fg t)[e.ino.toNat]?).getD false=true:=by
 have gc:=pF e he;rcases akI t with h|h
 ·have:=VD t [1,2,3,4,5,6,7,8,9] (fg t) i e (xG.2 ⟨I,h9⟩) hs he (Nj t);change ((kI t (fg t))[e.ino.toNat]?).getD false=true at this
  rwa [h]at this
 ·exact VH _ (by rw[Nj];exact h) _ (by rw[Nj];omega)
theorem VI (t:an):((fg t)[1]?).getD false=true:=by
 have:=(Ni t 9 ((List.replicate 10 false).set 1 true)).2 1 (by decide);exact this
theorem VJ {t:an}:∀{n:Nat} {i:Int},Dn t n i→1≤i∧i≤9∧((fg t)[i.toNat]?).getD false=true
 |_,_,.root=>⟨by omega,by omega,VI t⟩
 |_,_,.step (p:=p) hp he=>by
  obtain⟨I,h9,hs⟩:=VJ hp;have gc:=pF _ he;refine⟨gc.1,gc.2,?_⟩;have:((p.toNat:Nat):Int)=p:=by omega
  exact akJ (i:=p.toNat) (by omega) (by omega) hs (by rw[this];exact he)
theorem VL {t:an} {i:Nat}:((fg t)[i]?).getD false=true↔∃n,Dn t n i:=
 ⟨fun h=>let⟨n,_,J⟩:=Ve i h;⟨n,J⟩,fun⟨n,h⟩=>by have:=(VJ h).2.2;rwa [aqo]at this⟩
inductive Rf (t:an) (i:Int):Int→Prop
 |refl:Rf t i i
 |step {p:Int} {e:aT}:Rf t i p→e∈aR t p→Rf t i e.ino
theorem Rf.trans {t:an} {a b:Int} (h:Rf t a b):∀{c:Int},Rf t b c→Rf t a c
 |_,.refl=>h
 |_,.step hp he=>.step (h.trans hp) he
theorem Rf.VM {t:an}:∀{i:Int},Rf t 1 i→∃n,Dn t n i
 |_,.refl=>⟨0,.root⟩
 |_,.step hp he=>let⟨n,h⟩:=hp.VM;⟨n+1,.step h he⟩
def left (S:List Int):Nat:=([1,2,3,4,5,6,7,8,9].filter (fun x:Int=>!decide (x∈S))).length
theorem Nk {p q:Int→Bool} (h:∀x,q x=true→p x=true):∀l:List Int,(l.filter q).length≤(l.filter p).length∧(∀x∈l,p x=true→q x=false→(l.filter q).length<(l.filter p).length)
 |[]=>⟨B5 _,fun x hx=>by cases hx⟩
 |a::l=>by
  obtain⟨I,J⟩:=Nk h l;rw[ars,ars];have ha:=h a;refine⟨?_,fun x hx hp hq=>?_⟩
  ·cases Kj:q a<;>cases z7:p a<;>simp[Kj,z7]at ha⊢<;>omega
  ·rcases Ro.1 hx with rfl|hx
   ·rw[hp,hq];simp;omega
   ·have:=J x hx hp hq;cases Kj:q a<;>cases z7:p a<;>simp[Kj,z7]at ha⊢<;>omega
theorem akK {S S':List Int} (h:∀x∈S,x∈S'):left S'≤left S:=(Nk (fun x hx=>by simp at hx⊢;exact fun hm=>hx (h x hm)) _).1
theorem akL {S:List Int} {i:Int} (I:1≤i) (h9:i≤9) (hi:i∉S):left (S++[i])<left S:=
 (Nk (fun x hx=>by simp at hx⊢;exact hx.1) _).2 i (by simp only[Ro];omega) (by simpa using hi) (by simp)
structure Rd (t:an) (i:Int) (S S':List Int):Prop where
 sub:∀x∈S,x∈S'
 at_:i∈S'
 Di:∀x∈S',x∉S→∀e∈aR t x,e.ino∈S'
 fr:∀x∈S',x∈S∨Rf t i x
theorem Rd.there {t:an} {i:Int} {S:List Int} (h:i∈S):Rd t i S S:=⟨fun _ h=>h,h,fun _ I J=>absurd I J,fun _ h=>.inl h⟩
structure Rs (t:an) (i:Int) (S S1:List Int) (j:Nat):Prop where
 sub:∀x∈S,x∈S1
 at_:i∈S1
 Di:∀x∈S1,x∉S→x≠i→∀e∈aR t x,e.ino∈S1
 fr:∀x∈S1,x∈S∨Rf t i x
 go:∀e∈(aR t i).take j,e.ino∈S1
theorem Rs.start {t:an} {i:Int} {S:List Int}:Rs t i S (S++[i]) 0:=
 ⟨fun x h=>List.mem_append_left _ h,by simp,fun x I J h3=>by simp at I;rcases I with I|I;exact absurd I J;exact absurd I h3,fun x h=>by simp at h;rcases h with h|h;exact .inl h;subst h;exact .inr .refl,fun e he=>by simp at he⟩
theorem Rs.step {t:an} {i:Int} {S S1 S2:List Int} {j:Nat} (h:Rs t i S S1 j) (hj:j<(aR t i).length) (J:Rd t (aR t i)[j].ino S1 S2):Rs t i S S2 (j+1):=by
 refine⟨fun x hx=>J.sub x (h.sub x hx),J.sub _ h.at_,fun x hx tA hi e he=>?_,fun x hx=>?_,fun e he=>?_⟩
 ·by_cases I:x∈S1
  ·exact J.sub _ (h.Di x I tA hi e he)
  ·exact J.Di x hx I e he
 ·rcases J.fr x hx with I|I
  ·exact h.fr x I
  ·exact .inr (Rf.trans (.step .refl (W1 hj)) I)
 ·rw[aqd hj]at he;rcases aqh.1 he with he|he
  ·exact J.sub _ (h.go e he)
  ·simp at he;subst he;exact J.at_
theorem Rs.done {t:an} {i:Int} {S S1:List Int} {j:Nat} (h:Rs t i S S1 j) (hj:(aR t i).length≤j):Rd t i S S1:=by
 refine⟨h.sub,h.at_,fun x hx tA e he=>?_,h.fr⟩;by_cases hi:x=i
 ·subst hi;exact h.go e (by rw[aqz hj];exact he)
 ·exact h.Di x hx tA hi e he
theorem Rd.root {t:an} {S:List Int} (h:Rd t 1 [] S) (i:Nat):decide ((i:Int)∈S)=((fg t)[i]?).getD false:=by
 rw[aqC,G6,VL];constructor
 ·intro hi;rcases h.fr _ hi with I|I
  ·cases I
  ·exact I.VM
 ·rintro⟨n,hn⟩;have key:∀{n:Nat} {i:Int},Dn t n i→i∈S:=by
   intro n;induction n with
   |zero=>intro i hd;cases hd;exact h.at_
   |succ n ih=>intro i hd;cases hd with|step hp he=>exact h.Di _ (ih hp) (by simp) _ he
  exact key hn
def rk (t:an) (i:Nat):Bool:=
 let there:=!decide ((nodeAt t i).kind=0)
 let n:=((l0 t)[i]?).getD 0
 (there !=((fg t)[i]?).getD false)||(!there&&decide (0<n))||(decide ((nodeAt t i).kind=2)&&decide (1<i)&&!decide (n=1))
theorem VN (t:an) (h:t.all fR=true) {c:Nat} (hc:c<10):((l0 t)[c]?).getD 0=(((t.map (fun n=>kM c (gj n))).sum:Nat):Int):=by
 have hn:=Vz t;rw[B4 h]at hn;have:=M0 t (c:=c) (nm:=List.replicate 10 0) (by rw[aqL];exact hc) hn;rw[this];rw[arV,B4 hc];simp
theorem VO {f:cM→Nat}:∀{t:List cM} {i:Nat} (hi:i<t.length),1≤f t[i]→1≤(t.map f).sum
 |[],i,hi,_=>absurd hi (by simp)
 |a::t,i,hi,h=>by
  rw[ap3,ary];cases i with
  |zero=>have h':1≤f a:=h;omega
  |succ i=>have:=VO (f:=f) (t:=t) (i:=i) (by simpa using hi) (by simpa using h);omega
theorem VP (t:an):bL t=(decide (t.length=9)&&decide ((nodeAt t 1).kind=2)&&t.all fR&&([1,2,3,4,5,6,7,8,9].all (fun i=>!rk t i))&&decide (((l0 t)[1]?).getD 0=0)):=by
 unfold bL;by_cases I:t.length=9∧(nodeAt t 1).kind=2
 ·rw[B4 I,Vz];by_cases hf:t.all fR=true
  ·rw[B4 hf,hf];simp only[I.1,I.2,decide_true,aql];have Dq:∀c:Nat,c<10→0≤((l0 t)[c]?).getD 0:=fun c hc=>by rw[VN t hf hc];omega
   have abn:∀i:Nat,2≤i→i≤9→((fg t)[i]?).getD false=true→0<((l0 t)[i]?).getD 0:=fun i J h9 hs=>by
    obtain⟨n,hn⟩:=VL.1 hs;generalize hz:(i:Int)=z at hn;cases hn with
    |root=>omega
    |step hp he=>
     obtain⟨k,hk,_,hd,_⟩:=Da he;rw[VN t hf (by omega)];have:=VO (f:=fun n=>kM i (gj n)) hk (GO hd (by omega));omega
   have Br:∀i:Nat,1≤i→i≤9→(mX t (l0 t) (fg t) i=false↔rk t i=false∧(i=1→((l0 t)[i]?).getD 0=0)):=by
    intro i lm h9;have hp:=Dq i (by omega);have hs:=abn i;have hr:i=1→((fg t)[i]?).getD false=true∧(nodeAt t i).kind=2:=fun e=>by subst e;exact⟨VI t,I.2⟩
    unfold mX rk;generalize ((l0 t)[i]?).getD 0=n at*;generalize ((fg t)[i]?).getD false=sn at*;generalize (nodeAt t i).kind=k at*;simp only[W0,aqs,NI,apR,apH,G6,bne_eq_false_iff_eq];by_cases tN:k=0<;>cases sn<;>simp[tN]at*<;>omega
   rw[aqC];simp only[ap6,G7,apH,G6];constructor
   ·intro h;exact⟨fun i hi=>((Br i (xG.1 hi).1 (xG.1 hi).2).1 (h i hi)).1,((Br 1 (by omega) (by omega)).1 (h 1 (by simp))).2 rfl⟩
   ·intro h i hi;exact(Br i (xG.1 hi).1 (xG.1 hi).2).2 ⟨h.1 i hi,fun e=>by subst e;exact h.2⟩
  ·rw[pg hf];have:t.all fR=false:=by simpa using hf
   rw[this];simp
 ·rw[pg I];by_cases h9:t.length=9
  ·have:(nodeAt t 1).kind≠2:=fun h=>I ⟨h9,h⟩;simp[this]
  ·simp[h9]
end Go.Ev
namespace Go.Ev
def recAt (d:ay) (h:bH) (p:ag):Option bH:=match(b7 d p.addr p.gen).bind fP with
 |none=>none
 |some r=>if r.ino≠h.ino∨r.idx≠h.idx then none else some r
def gp (d:ay):List ag→List b2→Option (List b2)
 |[],ao=>some ao
 |q::r,ao=>match(b7 d q.addr q.gen).bind er with
  |none=>none
  |some l=>gp d r (ao++l)
def hU (d:ay):List b2→List bH→Option (List bH)
 |[],am=>some am
 |i::l,am=>match recAt d i.1 i.2 with
  |none=>none
  |some r=>hU d l (am++[r])
def nf (d:ay) (p:ag):Option (jW×List ag):=match(b7 d p.addr p.gen).bind eT with
 |none=>none
 |some (r,q)=>match gp d q []with
  |none=>none
  |some ao=>match hU d ao []with
   |none=>none
   |some dp=>match fh dp with
    |none=>none
    |some t=>some (⟨r,ao,t⟩,q++ao.map (·.2))
theorem VQ (d:ay):∀(l:List b2) (am:List bH),rb d l am=hU d l am
 |[],am=>rfl
 |i::l,am=>by
  simp only[rb,hU];unfold recAt;cases (b7 d i.2.addr i.2.gen).bind fP with
  |none=>rfl
  |some r=>
   simp only;split
   ·rfl
   ·exact VQ d l _
theorem Nl (d:ay) (b:List b2):∀(a:List b2) (am:List bH),hU d (a++b) am=(hU d a am).bind (hU d b)
 |[],am=>rfl
 |i::a,am=>by
  simp only[aqI,hU];cases recAt d i.1 i.2 with
  |none=>rfl
  |some r=>exact Nl d b a _
theorem Nn (d:ay):∀(q:List ag) (ao:List b2),gp d q ao=(gp d q []).map (ao++·)
 |[],ao=>by simp[gp]
 |p::q,ao=>by
  simp only[gp];cases (b7 d p.addr p.gen).bind er with
  |none=>rfl
  |some l=>
   simp only;rw[Nn d q (ao++l),Nn d q ([]++l)];cases gp d q []with
   |none=>rfl
   |some m=>simp
theorem VS (d:ay):∀(q:List ag) (ao:List b2) (dp:List bH),gH d q ao dp=(gp d q []).bind (fun l=>(hU d l dp).map (fun rs=>(ao++l,rs)))
 |[],ao,dp=>by simp[gH,gp,hU]
 |p::q,ao,dp=>by
  simp only[gH,gp];cases (b7 d p.addr p.gen).bind er with
  |none=>rfl
  |some l=>
   simp only;rw[VQ,Nn d q ([]++l)];cases hr:hU d l dp with
   |none=>
    simp only;cases gp d q []with
    |none=>rfl
    |some m=>simp[Nl,hr]
   |some ID=>
    simp only;rw[VS d q];cases gp d q []with
    |none=>rfl
    |some m=>
     simp only[aqP,ap0,aqa,Nl,hr];cases hU d m ID with
     |none=>rfl
     |some z=>simp
theorem VT (d:ay) (p:ag):nf d p=u4 d p:=by
 unfold nf u4;cases (b7 d p.addr p.gen).bind eT with
 |none=>rfl
 |some x=>
  obtain⟨r,q⟩:=x;simp only;rw[VS];cases gp d q []with
  |none=>rfl
  |some ao=>
   simp only[aqP];cases hU d ao []with
   |none=>rfl
   |some dp=>rfl
theorem GV {d:ay} {a g:Int} {x:aV} (h:b7 d a g=some x) (hg:0≤g):x.gen=g:=by
 unfold b7 at h;split at h
 ·split at h
  ·cases h
  ·split at h
   ·cases h
   ·rename_i J;cases h;apply Decidable.byContradiction;intro h3;exact J ⟨hg,h3⟩
 ·cases h
theorem No {p:ag} (h:ep p=true):0≤p.gen:=(M2 h).1
theorem VU {x:aV} {r:dn} {q:List ag} (h:eT x=some (r,q)):∀p∈q,0≤p.gen:=by
 unfold eT at h;split at h
 ·rename_i I;cases h;by_cases hr:pJ x.gen (gG x.load).1 (gG x.load).2.1=true
  ·unfold pJ at hr;simp only[G7]at hr;intro p hp;exact No (ap6.1 hr.2 p hp)
  ·have h3:=I.2.2;unfold fA at h3;rw[pg hr]at h3;have:=I.1;rw[←h3]at this;cases this
 ·cases h
theorem VV {x:aV} {n i:Int} {q:List ag} (h:dX x=some (n,i,q)):∀p∈q,0≤p.gen:=by
 unfold dX at h;split at h
 ·rename_i I;cases h;by_cases hr:pK x.gen (ek x.load).1 (ek x.load).2.1 (ek x.load).2.2.1=true
  ·unfold pK at hr;simp only[G7]at hr;intro p hp;exact No (ap6.1 hr.2 p hp)
  ·have h3:=I.2.2;unfold gh at h3;rw[pg hr]at h3;have:=I.1;rw[←h3]at this;cases this
 ·cases h
theorem akM {gen:Int} {x:aV}:∀{f:Nat} {l:List b2},l.length≤f→iV gen f l=[x]→l.length≤6∧jn gen l=x
 |0,l,hl,h=>by cases l with
  |nil=>cases h
  |cons a l=>simp at hl
 |f+1,[],hl,h=>by cases h
 |f+1,a::l,hl,h=>by
  simp only[iV,aq3]at h;have h6:(a::l).length≤6:=by
   apply Decidable.byContradiction;intro hc;have hd:((a::l).drop 6).length≠0:=by rw[Rn];omega
   cases hq:(a::l).drop 6 with
   |nil=>rw[hq]at hd;exact hd rfl
   |cons b m=>
    rw[hq]at h;cases f with
    |zero=>simp at hl;subst hl;simp at hc
    |succ f=>simp[iV]at h
  exact⟨h6,by rw[←h.1,aqz h6]⟩
theorem VW {x:aV} {l:List b2} (h:er x=some l):l.length≤6∧∀i∈l,0≤i.2.gen:=by
 unfold er at h;split at h
 ·rename_i I;split at h
  ·rename_i J;cases h;obtain⟨k1,k2⟩:=akM (B5 _) J.2;refine⟨k1,?_⟩;unfold jn at k2;split at k2
   ·rename_i h3;simp only[G7]at h3;intro i hi;have:=ap6.1 h3.2 i hi;unfold pI at this;simp only[G7]at this;exact No this.2
   ·have:=I.1;rw[←k2]at this;cases this
  ·cases h
 ·cases h
theorem Np {d:ay}:∀{q:List ag} {ao iN:List b2},gp d q ao=some iN→iN.length≤ao.length+6*q.length∧((∀i∈ao,0≤i.2.gen)→∀i∈iN,0≤i.2.gen)
 |[],ao,iN,h=>by cases h;exact⟨B5 _,id⟩
 |p::q,ao,iN,h=>by
  simp only[gp]at h;split at h
  ·cases h
  ·rename_i l hl;obtain⟨b,_,dl⟩:=aqg.1 hl;obtain⟨k1,k2⟩:=VW dl;obtain⟨I,J⟩:=Np h;rw[amv]at I;refine⟨by rw[WW];omega,fun ha=>J fun i hi=>?_⟩;rcases aqh.1 hi with hi|hi
   ·exact ha i hi
   ·exact k2 i hi
theorem akN {x:aV} {r:bH} (h:fP x=some r):0≤r.idx:=by
 unfold fP at h;split at h
 ·split at h
  ·cases h;unfold ra;exact Int.natCast_nonneg _
  ·cases h
 ·cases h
theorem akO {d:ay} {h:bH} {p:ag} {r:bH} (hr:recAt d h p=some r):r.load.length≤60∧0≤r.idx:=by
 unfold recAt at hr;split at hr
 ·cases hr
 ·rename_i y hy;split at hr
  ·cases hr
  ·cases hr;obtain⟨b,b0,dl⟩:=aqg.1 hy;have:=Uo dl;have:=oe b0;exact⟨by omega,akN dl⟩
def kQ (d:ay):List ag→List jW→List ag→Option (List jW×List ag)
 |[],ts,bQ=>some (ts,bQ)
 |p::r,ts,bQ=>match nf d p with
  |none=>none
  |some (x,l)=>kQ d r (ts++[x]) (bQ++p::l)
structure xH where
 next:Int
 id:Int
 trees:List jW
 all:List ag
def fS (d:ay) (sum:Int):Option xH:=match b7 d sum (-1)with
 |none=>none
 |some x=>match dX x with
  |none=>none
  |some (next,id,p)=>(kQ d p [] [⟨sum,x.gen⟩]).map (fun y=>⟨next,id,y.1,y.2⟩)
end Go.Ev
set_option maxHeartbeats 1000000
namespace Go.Ev
variable{F:Nat→Option aN} {O:Fz}
theorem akP {q:cV} {x:Int} {k:Nat} (h0:0≤x) (I:x<256) (hk:k≤3):cg .shl q (.j x) (.j (8*(k:Int)))=some (.j (x*256^k)):=by
 show uA true .i64 x (8*(k:Int))=_;have hl:jc (8*(k:Int)) 0=false:=by rw[sH];simp;omega
 simp only[uA,hl,KL,E7];have e1:(8*(k:Int)).toNat=8*k:=by omega
 have e2:min (8*k) (IntKind.bits .i64)=8*k:=by simp[IntKind.bits];omega
 have e3:(2:Int)^(8*k)=256^k:=by
  have:(256:Nat)^k=2^(8*k):=by rw[Nat.pow_mul]
  have h:=congrArg (fun(n:Nat)=>(n:Int)) this;simp only[arR]at h;exact h.symm
 rw[e1,e2,e3];have hw:∀z:Int,0≤z→z<4294967296→IntKind.wrap .i64 z=z:=fun z a b=>by
  rw[←uL];exact zm (by omega) (by omega)
 have hp:(256:Int)^k≤16777216:=by
  have:k=0∨k=1∨k=2∨k=3:=by omega
  rcases this with rfl|rfl|rfl|rfl<;>decide
 have JG:(0:Int)<256^k:=Int.pow_pos (by decide);have hm:x*256^k≤255*16777216:=Int.mul_le_mul (by omega) hp (by omega) (by omega);rw[hw _ (Int.mul_nonneg h0 (by omega)) (by omega)]
theorem akQ {q:cV} {a b:Nat} {k:Nat} (ha:a<256^k) (hb:b<256) (hk:k≤3):cg .or q (.j (a:Int)) (.j ((b:Int)*256^k))=some (.j ((a+b*256^k:Nat):Int)):=by
 show(if cW .i64 .i64 then some (V.j (IntKind.wrap .i64 (BitVec.ofInt 64 (a:Int)|||BitVec.ofInt 64 ((b:Int)*256^k)).toNat))else none)=_;rw[B4 (show cW .i64 .i64=true from rfl)];have e0:((b:Int)*256^k)=((b*256^k:Nat):Int):=by simp
 have ym:(256:Nat)^k=2^(8*k):=by rw[Nat.pow_mul]
 have ac:(256:Nat)^k≤16777216:=by
  have:k=0∨k=1∨k=2∨k=3:=by omega
  rcases this with rfl|rfl|rfl|rfl<;>decide
 have hm:b*256^k≤255*16777216:=aq4 (by omega) ac;rw[e0,BitVec.ofInt_natCast,BitVec.ofInt_natCast];have e1:(BitVec.ofNat 64 a|||BitVec.ofNat 64 (b*256^k)).toNat=a+b*256^k:=by
  rw[BitVec.toNat_or,BitVec.toNat_ofNat,BitVec.toNat_ofNat,arp (by omega),arp (by omega),Nat.or_comm,ym,Nat.mul_comm,←Nat.two_pow_add_eq_or_of_lt (by rw[←ym];exact ha)];omega
 rw[e1,←uL,F4 .i64 (show a+b*256^k≤9223372036854775807 by omega)]
theorem aa.nil? {U:Type} {e:bI U} {v:V} {b:List U} (h:aa e O v b):∃q,cg .eql .slice v (.no .sl)=some (.bool q)∧(q=true→b=[]):=by
 rcases h.2 with⟨rfl,hn⟩|⟨a,o,c,_,_,rfl,_⟩
 ·exact⟨true,rfl,fun _=>ap8 hn⟩
 ·exact⟨false,rfl,fun h=>by cases h⟩
theorem VX [Fx F] {bC:V} {b:Bs} (cj:aa aQ O bC b) (hb:b.length≤1000000):ai F 233 [bC] O [] (fun r ψ R=>ψ=O∧∃s,R=[aQ.ob s (b)]∧ae aQ r (b) s) never:=by
 obtain⟨q,mo,g3⟩:=cj.nil?;refine ai.same (au ?_);refine S.bin ?_ (v:=.bool q) (hv:=mo);refine C.B (fun fj=>?_) fun fj=>?_
 ·obtain rfl:=g3 fj;exact⟨_,.t rfl .nil,.new aQ (.done ⟨none,rfl,ae.nil⟩)⟩
 ·refine S.a8 fun a5=>?_;have o5:ae aQ (.sl a5 0 0 (.ex 0)) [] (some a5):=ae.new rfl;refine S.bu 0 o5 (.f cj) (by simp;omega) fun v7 s7 o7=>?_;exact⟨_,.t rfl .nil,.only 0 ⟨s7,rfl,o7⟩⟩
theorem Dj [Fx F] {bC lv:V} {b:Bs} {n:Nat} {l:List Int} (cj:aa aQ O bC b) (hl:aa bp O lv l) (hn:1≤n) (Az:n≤4) (hb:b.length+l.length*n≤1000000) (dl:l.length≤1000000):ai F 219 [bC,.j (n:Int),lv] O [] (fun r ψ R=>ψ=O∧∃s,R=[aQ.ob s (b++bo n l)]∧ae aQ r (b++bo n l) s) never:=by
 refine ai.same (au ?_);refine S.call (VX cj (by omega)) fun p9 AA AB qa dB=>?_;obtain⟨dB,AC,rfl,vL⟩:=dB;have dB:=dB.symm;subst dB;refine S.bin ?_;refine G.mv ?_;refine G.bin ?_;refine G.or ?_;refine C.B (fun d4=>?_) fun d4=>?_
 ·exfalso;simp at d4;omega
 ·refine S.len ?_ (hl:=aa.len hl);refine SW.bG (fun m E ψ R=>∃(j:Nat) (v:V) (s:Option Pa),j+m=l.length∧O=ψ∧R=[aQ.ob s (b++bo n (l.take j))]∧ae aQ v (b++bo n (l.take j)) s∧Sub [(0,v),(1,.j (n:Int)),(19,lv),(20,.j (l.length:Int)),(21,.j (j:Int))] E) (m:=l.length) (.done ⟨0,p9,AC,by omega,rfl,by simp[bo],by simpa[bo]using vL,.r rfl⟩) ?_;intro m0 E ψ R ac hI;obtain⟨j,v,s,hj,rfl,rfl,ho,hE⟩:=hI;refine C.sub hE ?_;refine S.bin ?_;refine C.D (fun d5=>?_) fun d5=>?_
  ·have hc:j<l.length:=by omega
   have dD:b.length+(j+1)*n≤1000000:=by have:=arb n (show j+1≤l.length from hc);omega
   have hlen:(b++bo n (l.take j)).length=b.length+j*n:=by rw[amv,ij,ab7,aqn (by omega)]
   rw[aqr,arh]at dD;refine S.aF hl hc fun oN j4=>?_;refine S.aX ?_;refine SW.bG (fun m E ψ R=>∃(i:Nat) (v:V) (s:Option Pa),i+m=n∧O=ψ∧R=[aQ.ob s (b++bo n (l.take j)++le i l[j])]∧ae aQ v (b++bo n (l.take j)++le i l[j]) s∧Sub [(0,v),(1,.j (n:Int)),(8,.j l[j]),(19,lv),(20,.j (l.length:Int)),(21,.j (j:Int)),(25,.j (n:Int)),(26,.j (i:Int))] E) (m:=n) (.done ⟨0,v,s,by omega,rfl,by simp[le],by simpa[le]using ho,.r rfl⟩) ?_;intro m2 E ψ R ac hI;obtain⟨i,v,s,hi,rfl,rfl,ho,hE⟩:=hI;refine C.sub hE ?_;refine S.bin ?_;refine C.D (fun iK=>?_) fun iK=>?_
   ·refine S.bin ?_;refine S.bin ?_ (hv:=TB (by omega));refine S.tb ?_;refine S.a8 fun Bj=>?_;refine S.bu (m:=[bS (l[j]/256^i)]) 1 ho (.lit 0) (by rw[amv,hlen,hD];simp;omega) fun ue yv j7=>?_;refine S.drop 0 ?_;refine S.mv ?_;refine S.bin ?_;refine⟨m2-1,by omega,.done ⟨i+1,ue,yv,by omega,rfl,by rw[Gm,←KK]<;>rfl,by rw[Gm,←KK];exact j7,.r rfl⟩⟩
   ·refine S.bin ?_;obtain rfl:i=n:=by omega
    refine⟨m0-1,by omega,.done ⟨j+1,v,s,by omega,rfl,?_,?_,.r rfl⟩⟩
    ·rw[Gv hc,Gn,←KK]
    ·rw[Gv hc,Gn,←KK];exact ho
  ·obtain rfl:j=l.length:=by omega
   rw[ap2]at ho⊢;exact⟨_,.t rfl .nil,.only 0 ⟨s,rfl,ho⟩⟩
theorem GW [Fx F] {bC:V} {b:Bs} {n:Nat} (cj:aa aQ O bC b) (hn:n≤1000) (hb:b.length≤1000000):bk F 181 [bC,.j (n:Int)] O (.aM [.j (cF b n).1,.bool (cF b n).2]):=by
 refine ai.ak (au ?_);refine S.bin ?_;refine G.mv ?_;refine G.bin ?_;refine G.or ?_;refine G.mv ?_;refine G.len ?_ (hl:=aa.len cj);refine G.mv ?_;refine G.bin ?_;refine G.or ?_;refine C.B (fun gs=>?_) fun gs=>?_
 ·have e:cF b n=(0,false):=by unfold cF;simp only[amt,G6]at gs;exact B4 (by omega)
  rw[e];exact⟨_,.t rfl (.t rfl .nil),.done rfl⟩
 ·simp only[W0,NI]at gs;have e:cF b n=(ej (b.take n),true):=by unfold cF;exact pg (by omega)
  obtain⟨Z,nI⟩:∃Z,Z=ej (b.take n):=⟨_,rfl⟩
  rw[e,←nI];have ap:(b.take n).length=n:=by rw[ab7];omega
  obtain⟨w,hw,fw⟩:=aa.hi cj (j:=n) (by omega);refine S.slice hw ?_;refine S.len ?_ (hl:=aa.len fw);refine SW.bG (fun m E ψ R=>∃k a:Nat,k+m=n∧ej ((b.take n).take k)=(a:Int)∧O=ψ∧R=[]∧Sub [(6,.j (a:Int)),(23,w),(24,.j ((b.take n).length:Int)),(25,.j (k:Int))] E) (m:=n) (.done ⟨0,0,by omega,rfl,rfl,rfl,.r rfl⟩) ?_;intro m0 E ψ R ac hI;obtain⟨k,a,hk,ha,rfl,rfl,hE⟩:=hI;refine C.sub hE ?_;refine S.bin ?_;refine C.D (fun mg=>?_) fun mg=>?_
  ·have hj:k<(b.take n).length:=by omega
   have ha1:=Me ((b.take n).take k);have xS:((b.take n).take k).length=k:=by rw[ab7];omega
   rw[xS,ha]at ha1
   have Kk:a<256^k:=by
                      have h3:(256:Int)^k=((256^k:Nat):Int):=by rw[arR];(try rfl)
                      omega
   have eZ:ej ((b.take n).take (k+1))=(a:Int)+(((b.take n)[k]).toNat:Int)*256^k:=by rw[aqd hj,aim,xS,ha]
   refine S.aF fw hj fun AO vR=>?_;refine S.aX ?_;refine S.lK ?_;refine S.bin ?_;refine S.bin ?_ (hv:=akP (k:=k) (by omega) (by have:=arc (b.take n)[k];omega) (by omega));refine S.bin ?_ (hv:=akQ Kk (arc _) (by omega));refine S.bin ?_;refine⟨m0-1,by omega,.done ⟨k+1,a+((b.take n)[k]).toNat*256^k,by omega,by rw[eZ];simp,rfl,rfl,.r rfl⟩⟩
  ·have hkn:k=n:=by omega
   have hZa:Z=(a:Int):=by rw[nI,←ha,hkn,List.take_take,Nat.min_self]
   subst hZa;refine⟨_,.t rfl (.t rfl .nil),.done ?_⟩;rfl
theorem VY [Fx F] {bC:V} {b tx:Bs} (cj:aa aQ O bC b) (hb:b.length≤500000) (hs:tx.length≤500000):ai F 222 [bC,.str tx] O [] (fun r ψ R=>ψ=O∧∃s,R=[aQ.ob s (iD b tx)]∧ae aQ r (iD b tx) s) never:=by
 refine ai.same (au ?_);refine S.call (VX cj (by omega)) fun v6 BC O6 uy h6=>?_;obtain⟨h6,s6,rfl,o6⟩:=h6;have h6:=h6.symm;subst h6;refine S.cD ?_;refine S.bin ?_;refine C.D (fun eN=>?_) fun eN=>?_
 ·have e:iD b tx=b:=by unfold iD;exact B4 (by omega)
  rw[e];exact⟨_,.t rfl .nil,.only 0 ⟨s6,rfl,o6⟩⟩
 ·refine S.cD ?_;refine S.tb ?_;refine S.a8 fun r6=>?_;refine S.bu (m:=[bS (tx.length:Int)]) 1 o6 (.lit 0) (by simp;omega) fun oP OB AD=>?_;refine S.drop 0 ?_;refine S.mv ?_;refine S.bu 0 AD (.s tx) (by simp;omega) fun r7 s18 Av=>?_;have e:iD b tx=b++[bS (tx.length:Int)]++tx:=by unfold iD;rw[pg (by omega)];(try rfl)
  rw[e];exact⟨_,.t rfl .nil,.only 0 ⟨s18,rfl,Av⟩⟩
end Go.Ev
set_option maxHeartbeats 1000000
namespace Go.Ev
variable{F:Nat→Option aN} {O:Fz}
def rm (b:Bs):Bs×Nat×Bool:=match b with
 |[]=>([],0,false)
 |c::r=>if r.length<c.toNat then([],0,false)else(r.take c.toNat,1+c.toNat,true)
theorem VZ:∀(l:List aT) (p:Option Bs) (s:Bs),120<s.length→fy p s l=none
 |[],p,s,h=>by simp only[fy];rw[B4 h]
 |e::l,p,s,h=>by
  simp only[fy];rw[B4];unfold sZ;simp[h]
def xI (p:Option Bs) (e:aT):Bool:=!fx e.name||decide (e.ino<1)||decide (9<e.ino)||(match p with|some p=>!kG p e.name|none=>false)
theorem V0 (p:Option Bs) (e:aT) (s:Bs):sZ p e s=(xI p e||decide (120<s.length)):=by unfold sZ xI;cases p<;>rfl
theorem akR {p:Option Bs} {e:aT} {r:List aT} {s:Bs} (h:xI p e=false):fy p s (e::r)=fy (some e.name) (s++xp e) r:=by
 by_cases hs:120<s.length
 ·rw[VZ _ _ _ hs,VZ _ _ _ (by rw[amv];omega)]
 ·simp only[fy];rw[pg];rw[V0,h];simp[hs]
theorem akS {p:Option Bs} {e:aT} {r:List aT} {s:Bs} (h:xI p e=true):fy p s (e::r)=none:=by
 simp only[fy];rw[B4];rw[V0,h];(try rfl)
def gq:Nat→Bs→List aT→Option (List aT)
 |_,[],am=>some am
 |0,_::_,_=>none
 |f+1,c::r,am=>if r.length<c.toNat+1 then none else gq f (r.drop (c.toNat+1)) (am++[⟨r.take c.toNat,((r[c.toNat]?).getD 0).toNat⟩])
theorem V1:∀(f:Nat) (b:Bs) (am l:List aT),gq f b am=some l→∀e∈am,e∈l
 |0,b,am,l,h=>by cases b with
  |nil=>simp only[gq,E8]at h;subst h;exact fun e he=>he
  |cons c r=>simp[gq]at h
 |f+1,b,am,l,h=>by cases b with
  |nil=>simp only[gq,E8]at h;subst h;exact fun e he=>he
  |cons c r=>
   simp only[gq]at h;split at h
   ·cases h
   ·exact fun e he=>V1 f _ _ l h e (List.mem_append_left _ he)
theorem V2:∀(f:Nat) (b:Bs) (am:List aT),iF f b am=gq f b am∨(iF f b am=none∧∀l,gq f b am=some l→∃e∈l,6<e.name.length)
 |0,b,am=>by cases b<;>exact .inl rfl
 |f+1,b,am=>by
  cases b with
  |nil=>exact .inl rfl
  |cons c r=>
   simp only[iF,gq];by_cases I:r.length<c.toNat+1
   ·rw[B4 (.inr I),B4 I];exact .inl rfl
   ·rw[pg I];by_cases J:6<c.toNat
    ·rw[B4 (.inl J)];refine .inr ⟨rfl,fun l hl=>⟨⟨r.take c.toNat,((r[c.toNat]?).getD 0).toNat⟩,V1 f _ _ l hl _ (List.mem_append_right _ (aqj.2 rfl)),?_⟩⟩;show 6<(r.take c.toNat).length;rw[ab7];omega
    ·rw[pg (by omega)];exact V2 f _ _
theorem V3:∀(l:List aT) (p:Option Bs) (s b:Bs),fy p s l=some b→∀e∈l,e.name.length≤6
 |[],_,_,_,_,e,he=>by cases he
 |a::l,p,s,b,h,e,he=>by
  simp only[fy]at h;split at h
  ·cases h
  ·rename_i hb;rcases Ro.1 he with rfl|he
   ·simp only[sZ,amt,not_or,apH,Bool.not_eq_false]at hb;have:=hb.1.1.1.1;unfold fx at this;simp only[G7,G6]at this;omega
   ·exact V3 l _ _ b h e he
theorem V4 (b:Bs):cY b=match gq b.length b []with
 |none=>none
 |some l=>if fN l=some b then some l else none:=by
 unfold cY;rcases V2 b.length b []with h|⟨I,J⟩
 ·rw[h];cases gq b.length b []<;>rfl
 ·rw[I];cases hx:gq b.length b []with
  |none=>rfl
  |some l=>
   obtain⟨e,he,hl⟩:=J l hx;simp only;rw[pg];intro hp;have:=V3 l none [] b hp e he;omega
theorem V5 [Fx F] {bC:V} {b:Bs} (cj:aa aQ O bC b) (hb:b.length≤1000000):bk F 190 [bC] O (.aM [.str (rm b).1,.j ((rm b).2.1:Int),.bool (rm b).2.2]):=by
 refine ai.ak (au ?_);refine S.len ?_ (hl:=aa.len cj);refine S.bin ?_;refine G.mv ?_;refine G.len ?_ (hl:=aa.len cj);refine G.mv ?_;refine G.aF cj (j:=0) (z:=(b[0]?).getD 0) (fun p12 e12=>?_) (hj:=fun h=>by
  simp at h;rw[KJ (by cases b with|nil=>exact absurd rfl h|cons a l=>simp)];(try rfl))
 refine G.aX ?_;refine G.qV ?_ (n:=(((b[0]?).getD 0).toNat:Int)) (j:=.u8);rw[Mg];refine G.bin ?_;refine G.or ?_;refine C.B (fun d9=>?_) fun d9=>?_
 ·have e:rm b=([],0,false):=by
   unfold rm;cases b with
   |nil=>rfl
   |cons c r=>
    simp at d9;simp only;rw[B4 (by omega)]
  rw[e];refine⟨_,.t rfl (.t rfl (.t rfl .nil)),.done ?_⟩;rfl
 ·obtain⟨c,r,rfl⟩:∃c r,b=c::r:=by
   cases b with
   |nil=>simp at d9
   |cons c r=>exact⟨c,r,rfl⟩
  simp at d9;have e:rm (c::r)=(r.take c.toNat,1+c.toNat,true):=by unfold rm;simp only;rw[pg (by omega)]
  rw[e];have hc:=arc c;obtain⟨w,hw,fw⟩:=aa.both cj (i:=1) (j:=1+c.toNat) (by omega) (by simp;omega);refine S.aF cj (j:=0) (by simp) fun IU Ej=>?_;refine S.aX ?_;refine S.lK ?_ (b:=c);refine S.bin ?_ (v:=.j ((1+c.toNat:Nat):Int)) (hv:=by rw[ei (by omega) (by omega)];(try rfl));refine S.slice hw ?_;refine S.Gt fw ?_;have e2:(List.drop 1 (c::r)).take (1+c.toNat-1)=r.take c.toNat:=by rw[aqT];(try rfl)
  rw[e2];exact⟨_,.t rfl (.t rfl (.t rfl .nil)),.done rfl⟩
theorem akT [Fx F] {s:Bs} (hs:s.length≤1000000):bk F 266 [.str s] O (.bool (fx s)):=by
 refine ai.ak (au ?_);refine S.mV fun v6 BC uy h6=>?_;refine S.len ?_ (hl:=aa.len h6);refine SW.bG (fun m E ψ R=>∃j:Nat,j+m=s.length∧(s.take j).all (fun c=>!xo c)=true∧BC=ψ∧R=[]∧Sub [(0,.str s),(6,v6),(7,.j (s.length:Int)),(8,.j (j:Int))] E) (m:=s.length) (.done ⟨0,by omega,rfl,rfl,rfl,.r rfl⟩) ?_;intro m0 E ψ R ac hI;obtain⟨j,hj,ha,rfl,rfl,hE⟩:=hI;refine C.sub hE ?_;refine S.bin ?_;refine C.D (fun eN=>?_) fun eN=>?_
 ·have ap:j<s.length:=by omega
  have OS:(s[j])=s[j]:=rfl;refine S.aF h6 ap fun J6 J7=>?_;refine S.aX ?_;refine S.bin ?_;refine G.mv ?_;refine G.bin ?_;refine G.or ?_;refine G.mv ?_;refine G.iS (j:=0) (c:=47) (hj:=fun _=>rfl) ?_;refine G.bin ?_;refine G.or ?_;refine C.B (fun d5=>?_) fun d5=>?_
  ·have I:fx s=false:=by
    unfold fx;rw[aqs];left;rw[List.all_eq_false];exact⟨s[j],W1 ap,by rw[show xo s[j]=true from d5];simp⟩
   rw[I];refine⟨_,.t rfl .nil,.done ?_⟩;rfl
  ·refine S.bin ?_;refine⟨m0-1,by omega,.done ⟨j+1,by omega,?_,rfl,rfl,.r rfl⟩⟩;rw[Gx _ ap,ha,aql,show xo s[j]=false from d5];(try rfl)
 ·have I:j=s.length:=by omega
  rw[I,ap2]at ha;have J:fx s=(decide ((1:Int)≤(s.length:Int))&&decide ((s.length:Int)≤6)):=by unfold fx;rw[ha,aql]
  rw[J];refine S.cD ?_;refine S.bin ?_;refine G.mv ?_;refine G.cD ?_;refine G.bin ?_;refine G.and ?_;refine⟨_,.t rfl .nil,.done ?_⟩;rfl
end Go.Ev
set_option maxHeartbeats 4000000
namespace Go.Ev
variable{F:Nat→Option aN} {O:Fz}
theorem akU {l:List aT} {j:Nat} (hj:j<l.length) (z:aT) (hz:0<j→l[j-1]? =some z):
 (!fx (l[j]).name||(decide ((0:Int)<(j:Int))&&!kG z.name (l[j]).name)||decide ((l[j]).ino<1)||decide (9<(l[j]).ino))=xI (u3 l j) l[j]:=by
 unfold xI u3;by_cases h0:j=0
 ·subst h0;simp
 ·rw[pg h0,hz (by omega),decide_eq_true (show(0:Int)<(j:Int) by omega),aql];simp only[aqD];cases !fx (l[j]).name<;>cases (!kG z.name (l[j]).name)<;>cases decide ((l[j]).ino<1)<;>cases decide (9<(l[j]).ino)<;>rfl
theorem akV [Fx F] {lv:V} {l:List aT} (hl:aa c9 O lv l) (hlen:l.length≤10000) (bx:∀e∈l,e.name.length≤100000):bk F 260 [lv] O (.aM [.str ((fN l).getD []),.bool (fN l).isSome]):=by
 refine ai.ak (au ?_);refine S.len ?_ (hl:=aa.len hl);refine SW.new aQ ?_;refine SW.bG (fun m E ψ R=>∃(j:Nat) (s:Bs) (v:V) (q:Option Pa),j+m=l.length∧fN l=fy (u3 l j) s (l.drop j)∧s.length≤8*j∧aa c9 ψ lv l∧R=[aQ.ob q s]∧ae aQ v s q∧Sub [(4,v),(7,lv),(0,lv),(8,.j (l.length:Int)),(9,.j (j:Int))] E) (m:=l.length) (.done ⟨0,[],.no .sl,none,by omega,rfl,by simp,hl,rfl,ae.nil,.r rfl⟩) ?_;intro m0 E ψ R ac hI;obtain⟨j,s,v,q,hm,ab,gQ,hl,rfl,ho,hE⟩:=hI;refine C.sub hE ?_;refine S.bin ?_;refine C.D (fun bU=>?_) fun bU=>?_
 ·have hj:j<l.length:=by omega
  rw[Rm hj]at ab;have d2:=bx _ (W1 hj);have hz:0<j→l[j-1]? =some ((l[j-1]?).getD ⟨[],0⟩):=fun h=>by rw[KJ (show j-1<l.length by omega)];(try rfl)
  refine S.aF hl hj fun p12 e12=>?_;refine S.bP ?_ (l:=[.str (l[j]).name,.j (l[j]).ino]);refine S.alloc fun cb=>?_;refine S.store 0 ?_;refine S.ld 0 ?_;refine S.ak (akT (s:=(l[j]).name) (by omega)) ?_;refine S.un ?_;refine G.mv ?_;refine G.bin ?_;refine G.mv ?_;refine G.mv ?_;refine G.mv ?_;refine G.bin ?_ (hv:=fun hb=>Mf (by simp at hb;omega) (by omega));refine G.aF hl (fun DJ x0=>?_) (hj:=fun hb=>hz (by simp at hb;omega));refine G.bl x0 fun YZ Y0=>?_;refine G.aX ?_;refine G.aE ?_;refine G.ld 0 ?_;refine G.bin ?_ (hv:=fun _=>TD);refine G.jR ?_;refine G.or ?_;refine G.aE ?_;refine G.ld 0 ?_;refine G.bin ?_;refine G.or ?_;refine G.aE ?_;refine G.ld 0 ?_;refine G.bin ?_;refine G.or ?_;rw[akU hj _ hz];refine C.B (fun iM=>?_) fun iM=>?_
  ·rw[akS iM]at ab;rw[ab];exact⟨_,.t rfl (.t rfl .nil),.none rfl⟩
  ·rw[akR iM]at ab;have hb:=iM;unfold xI at hb;simp only[W0,apR,NI]at hb;have H5:(l[j]).name.length≤6:=by
    have:=hb.1.1.1;unfold fx at this;simp only[G7,G6]at this;omega
   refine S.ld 0 ?_;refine S.ld 0 ?_;refine S.a8 fun Bf=>?_;have Kl:ae bp (.sl Bf 0 1 (.ex 1)) [(l[j]).ino] (some Bf):=ae.new rfl;refine S.na 2 ho (fun ψ QM hf=>VY (tx:=(l[j]).name) hf (by omega) (by omega)) fun v46 O46 h46=>?_;obtain⟨DP,rfl,tU⟩:=h46;have abo:iD s (l[j]).name=s++le 1 ((l[j]).name.length:Int)++(l[j]).name:=by unfold iD;rw[pg (by omega)]
   rw[abo]at tU⊢;refine S.gi 1 ?_;refine S.bF 2 ?_;refine S.ct 1 Kl fun aa5 Qq Bg=>?_;refine S.na 0 tU (fun ψ QM hf=>Dj (n:=1) hf (Bg.mono QM) (by omega) (by omega) (by simp[hD];omega) (by simp)) fun v50 It oV=>?_;obtain⟨BP,rfl,mG⟩:=oV;refine S.bin ?_;refine⟨m0-1,by omega,.drop 1 (.done ⟨j+1,s++xp l[j],v50,BP,by omega,?_,?_,hl.mono Qq,?_,?_,.r rfl⟩)⟩
   ·rw[ab,TR hj]
   ·unfold xp;simp[hD];omega
   ·unfold xp;simp[bo]
   ·unfold xp;simpa[bo]using mG
 ·have hj:j=l.length:=by omega
  subst hj;rw[WV]at ab;simp only[fy]at ab;refine S.len ?_ (hl:=ae.len ho);refine S.bin ?_;refine C.D (fun k9=>?_) fun k9=>?_
  ·rw[B4 (by omega)]at ab;rw[ab];exact⟨_,.t rfl (.t rfl .nil),.none rfl⟩
  ·rw[pg (by omega)]at ab;rw[ab];refine S.jS 0 ho ?_;exact⟨_,.t rfl (.t rfl .nil),.none rfl⟩
theorem V6:∀(f g:Nat) (b:Bs) (am:List aT),b.length≤f→b.length≤g→gq f b am=gq g b am
 |0,g,b,am,h,_=>by
  have:b=[]:=ap8 (by omega);subst this;cases g<;>rfl
 |f+1,g,b,am,I,J=>by
  cases b with
  |nil=>cases g<;>rfl
  |cons c r=>
   cases g with
   |zero=>simp at J
   |succ g=>
    simp only[gq];split
    ·rfl
    ·simp only[WW]at I J;exact V6 f g _ _ (by rw[Rn];omega) (by rw[Rn];omega)
theorem V7 [Fx F] {b:Bs} (hb:b.length≤10000):
 ai F 254 [.str b] O [] (fun r ψ R=>R=[]∧∃v,r=.aM [v,.bool (cY b).isSome]∧aa c9 ψ v ((cY b).getD [])) never:=by
 refine au ?_;refine S.mV fun nw tQ qc b4=>?_;refine SW.new c9 ?_;refine SW.bG (fun m E ψ R=>∃(qt:Bs) (bC:V) (am:List aT) (v:V) (q:Option Pa),m=qt.length∧gq b.length b []=gq qt.length qt am∧am.length+qt.length≤b.length∧(∀e∈am,e.name.length≤1000)∧aa aQ ψ bC qt∧R=[c9.ob q am]∧ae c9 v am q∧Sub [(0,.str b),(4,v),(5,bC)] E) (m:=b.length) (.done ⟨b,nw,[],.no .sl,none,rfl,rfl,by simp,(fun e he=>by cases he),b4,rfl,ae.nil,.r rfl⟩) ?_;intro m0 E ψ R ac hI;obtain⟨qt,bC,am,v,q,hm,ab,oB,tB,cj,rfl,ho,hE⟩:=hI;refine C.sub hE ?_;refine S.len ?_ (hl:=aa.len cj);refine S.bin ?_;refine C.D (fun d4=>?_) fun d4=>?_
 ·obtain⟨c,r,rfl⟩:∃c r,qt=c::r:=by
   cases qt with
   |nil=>simp at d4
   |cons c r=>exact⟨c,r,rfl⟩
  simp only[WW]at oB hm;have hc:=arc c;refine S.ak (V5 cj (by simp;omega)) ?_;obtain⟨T,kW⟩:∃T,T=rm (c::r):=⟨_,rfl⟩
  have ES:T=if r.length<c.toNat then([],0,false)else(r.take c.toNat,1+c.toNat,true):=kW;have hTn:T.2.1≤(c::r).length:=by rw[ES];split<;>simp;omega
  rw[←kW];obtain⟨w,hw,fw⟩:=aa.lo cj (j:=T.2.1) hTn;refine S.slice hw ?_;refine S.ak (GW (n:=1) fw (by omega) (by simp;omega)) ?_;refine S.un ?_;refine G.mv ?_;refine G.bin ?_;refine G.or ?_;refine C.B (fun ck=>?_) fun ck=>?_
  ·have e:gq (c::r).length (c::r) am=none:=by
    simp only[WW,gq];rw[B4];rw[ES]at ck;by_cases I:r.length<c.toNat
    ·omega
    ·rw[pg I]at ck;have e1:(c::r).drop (1+c.toNat)=r.drop c.toNat:=by rw[arA];(try rfl)
     simp only[e1]at ck;unfold cF at ck;by_cases J:(r.drop c.toNat).length<1
     ·rw[Rn]at J;omega
     ·rw[pg (by omega)]at ck;simp at ck;omega
   have e2:cY b=none:=by rw[V4,ab,e]
   rw[e2];exact⟨_,.t rfl (.t rfl .nil),.none ⟨rfl,_,rfl,aa.nil _⟩⟩
  ·have hT3:¬r.length<c.toNat:=by
    intro I;rw[ES,B4 I]at ck;simp at ck
   have hT4:T=(r.take c.toNat,1+c.toNat,true):=by rw[ES,pg hT3]
   obtain rfl:=hT4;have e1:(c::r).drop (1+c.toNat)=r.drop c.toNat:=by rw[arA];(try rfl)
   simp only[e1]at ck fw⊢;have hT5:¬r.length<c.toNat+1:=by
    intro J;unfold cF at ck;rw[B4 (by rw[Rn];omega)]at ck;simp at ck
   have abp:(cF (r.drop c.toNat) 1).1=(((r[c.toNat]?).getD 0).toNat:Int):=by
    unfold cF;rw[pg (by rw[Rn];omega)];rw[Rm (show c.toNat<r.length by omega)];simp only[List.take_succ_cons,aq5,ej];rw[KJ (show c.toNat<r.length by omega)];simp
   rw[abp];have est:gq (c::r).length (c::r) am=gq (r.drop (c.toNat+1)).length (r.drop (c.toNat+1)) (am++[⟨r.take c.toNat,((r[c.toNat]?).getD 0).toNat⟩]):=by
    simp only[WW,gq];rw[pg hT5];exact V6 _ _ _ _ (by rw[Rn];omega) (B5 _)
   obtain⟨w2,cw,si⟩:=aa.lo cj (j:=1+c.toNat+1) (by simp;omega);have e3:(c::r).drop (1+c.toNat+1)=r.drop (c.toNat+1):=by rw[show 1+c.toNat+1=(c.toNat+1)+1 by omega];(try rfl)
   rw[e3]at si;refine S.build ?_;refine S.a8 fun OA=>?_;refine S.bu (m:=[⟨r.take c.toNat,((r[c.toNat]?).getD 0).toNat⟩]) 1 ho (.lit 0) (by simp;omega) fun x5 HY HZ=>?_;refine S.drop 0 ?_;refine S.mv ?_;refine S.bin ?_ (v:=.j ((1+c.toNat+1:Nat):Int)) (hv:=by rw[ei (by omega) (by omega)];(try rfl));refine S.slice cw ?_;refine⟨_,?_,.done ⟨_,w2,_,x5,HY,rfl,ab.trans est,by simp;omega,?_,si,rfl,HZ,.r rfl⟩⟩
   ·simp;omega
   ·intro e he;rw[aqh,aqj]at he;rcases he with he|rfl
    ·exact tB e he
    ·show(r.take c.toNat).length≤1000;rw[ab7];omega
 ·obtain rfl:qt=[]:=by
   cases qt with
   |nil=>rfl
   |cons c r=>simp at d4
  have cZ:gq b.length b []=some am:=ab;refine S.ct 0 ho fun Pn Po lb=>?_;have abq:am.length≤10000:=by simp at oB;omega
  refine S.ak (akV lb abq (fun e he=>by have:=tB e he;omega)) ?_;have QN:cY b=if fN am=some b then some am else none:=by rw[V4,cZ]
  refine S.un ?_;refine G.mv ?_;refine G.mv ?_;refine G.bin ?_;refine G.or ?_;refine C.B (fun e4=>?_) fun e4=>?_
  ·have e:cY b=none:=by
    rw[QN,pg];intro h;rw[h]at e4;simp at e4
   rw[e];exact⟨_,.t rfl (.t rfl .nil),.none ⟨rfl,_,rfl,aa.nil _⟩⟩
  ·have e:cY b=some am:=by
    rw[QN,B4];cases hp:fN am with
    |none=>rw[hp]at e4;simp at e4
    |some x=>rw[hp]at e4;simp at e4;rw[e4]
   rw[e];exact⟨_,.t rfl (.t rfl .nil),.none ⟨rfl,_,rfl,lb⟩⟩
end Go.Ev
namespace Go.Ev
namespace S
variable{F:Nat→Option aN} {K:KX} {E:Env} {O:Fz} {R:List Ob} {Q:bB} {rs:List Op} {d:Nat} {g:Option (Pa×Bool)}
theorem akW {x:Od} {v:V} {n:Nat} {s:List UInt8} (hs:∀W h,SH O h (R++W)→Sl h v 1 n (s.map c5)) (hn:SA F K rs E O R Q) (hd:lk d E=some (.str s):=by rfl) (hx:ax E x v:=by first|exact .t rfl|exact .c) (hw:az E g .yes:=by first|exact .none|exact .yes rfl):
 SR F K (.cf ⟨some (pa d),dT x,g⟩::Op.aI rs) E O R Q:=
 Mw (fun W h sh e he=>by
  have I:=hs W h sh;rcases I.2 with⟨rfl,rfl⟩|⟨a,o,c,rfl,hc⟩
  ·have:s=[]:=by simpa using I.1
   subst this;simp only[hx e he]
  ·have J:=hc.all (n:=n) (by rw[I.1,Nat.mul_one]);simp only[hx e he,J,Td]) hn hd (Gq _) hw
theorem akX {x:Od} {v:V} {l:Bs} {s:Option Pa} (i:Nat) (ho:ae aQ v l s) (hn:SA F K rs E O R Q) (hi:R[i]? =some (aQ.ob s l):=by rfl) (hd:lk d E=some (.str l):=by rfl) (hx:ax E x v:=by exact .t rfl) (hw:az E g .yes:=by first|exact .none|exact .yes rfl):SR F K (.cf ⟨some (pa d),dT x,g⟩::Op.aI rs) E O R Q:=
 akW (fun _ _ sh=>ho.bytes hi sh) hn hd hx hw
end S
theorem ai.kept {F:Nat→Option aN} {O:Fz} {n:Nat} {vs:List V} {U:Type} {e:bI U} {l:List U} (hc:ai F n vs O [] (fun r ψ R=>ψ=O∧∃s,R=[e.ob s l]∧ae e r l s) never):ai F n vs O [] (fun r ψ R=>R=[]∧aa e ψ r l) never:=fun ad h sh=>by
 rcases hc ad h sh with⟨r,h',I,ψ,O',J,h3,rfl,s,rfl,ho⟩|⟨_,_,_,_,_,_,_,h⟩
 ·obtain⟨χ,O2,k1,k2,k3,k4⟩:=Fin.bR (P:=fun ψ R=>R=[]∧aa e ψ r l) (R:=[e.ob s l]) 0 rfl ho (fun ψ I J=>.done ⟨rfl,J⟩) ad h' h3;subst k3;exact .inl ⟨r,h',I,χ,[],J.trans k1,k2,rfl,k4⟩
 ·exact h.elim
theorem aa.gI {O:Fz} {U:Type} {e:bI U} {a:Pa} {l:List U} {n:Nat} (h:O a=some (.cells (e.fl l) false)) (hn:l.length=n):aa e O (.sl a 0 n (.ex n)) l:=
 OV.fs (ae.new (e:=e) (a:=a) hn) rfl (fun b hb=>by cases hb;exact h)|>fun h=>by unfold aa;rw[hn];subst hn;exact h
theorem Nq {z xs:List V} (h:xs.length=z.length):dk 0 z xs=some xs:=by
 have:=Gh z [] xs h;rw[ap9,ap9]at this;exact this
namespace G
variable{F:Nat→Option aN} {K:KX} {E:Env} {O:Fz} {R:List Ob} {Q:bB} {rs:List Op} {d:Nat} {g:Option (Pa×Bool)} {b:Bool}
theorem akY {U:Type} {e:bI U} {x:Od} {u:V} {z:List V} {k:Nat} (z0:U) (hn:∀a ψ,O.Le ψ→(b=true→ψ a=some (.cells (e.f z0) false))→SA F K rs ((d,gv b (.sl a 0 1 (.ex 1)))::E) ψ R Q) (hu:u.cells=e.f z0:=by rfl) (hz:z.length=e.k:=by rfl) (hk:k=e.k:=by rfl)
 (hg:Gd E g b:=by first|exact .y rfl|exact .n rfl|exact .yg rfl|exact .ng rfl) (hx:dM E x b u:=by first|exact .g rfl|exact .gl rfl|exact .u (.t rfl)|exact .u .c):SR F K (.op ⟨some (pa d),aG z 1 [(0,k,x)],g⟩::Op.aI rs) E O R Q:=by
 subst hk;cases b with
 |false=>exact S.no hg (hn .z O (.refl O) (fun h=>by cases h))
 |true=>
  intro W h sh;have I:pA E [(0,e.k,x)] z (e.f z0):=.cons (hx rfl) (by rw[hu,e.len];exact eQ _) (by rw[hu];exact e.sc z0) (by rw[hu];exact Nq (by rw[e.len,hz])) .nil;have s1:SH O (h.alloc (.cells (e.f z0) false)) ([(some h.next,.cells (e.f z0) false)]++(R++W)):=sh.alloc _;obtain⟨s2,ac⟩:=s1.freeze (i:=0) rfl;exact WR.up ac (ad.a8 hg I (e.sc z0) (S.r (hn h.next _ ac (fun _=>by simp[Fz.put])) W _ s2))
theorem akZ {U:Type} {e:bI U} {x:Od} {u:V} {z:List V} {k:Nat} {a:Pa} (z0:U) (hf:b=true→O a=some (.cells (e.f z0) false)) (hn:SA F K rs E O R Q) (hm:cm (e.f z0) (e.f z0)=true) (hd:lk d E=some (gv b (.sl a 0 1 (.ex 1))):=by rfl) (hu:u.cells=e.f z0:=by rfl) (hz:z.length=e.k:=by rfl) (hk:k=e.k:=by rfl)
 (hg:Gd E g b:=by first|exact .y rfl|exact .n rfl|exact .yg rfl|exact .ng rfl) (hx:dM E x b u:=by first|exact .g rfl|exact .gl rfl|exact .u (.t rfl)|exact .u .c):SR F K (.cf ⟨some (pa d),aG z 1 [(0,k,x)],g⟩::Op.aI rs) E O R Q:=by
 subst hk;cases b with
 |false=>exact S.F7 hg hd hn
 |true=>
  intro W h sh;have I:pA E [(0,e.k,x)] z (e.f z0):=.cons (hx rfl) (by rw[hu,e.len];exact eQ _) (by rw[hu];exact e.sc z0) (by rw[hu];exact Nq (by rw[e.len,hz])) .nil;exact ad.To hg hd I (e.sc z0) (sh.mQ _ _ (hf rfl)) hm (S.r hn W h sh)
end G
end Go.Ev
set_option maxHeartbeats 2000000
namespace Go.Ev
variable{F:Nat→Option aN} {O:Fz}
theorem V8 (c:UInt8):∀n,uI [c] n=List.replicate n c
 |0=>rfl
 |n+1=>by show[c]++uI [c] n=_;rw[V8 c n,arK];(try rfl)
theorem ak0 (hr:F 223=some (.c7 ji)) {s:Bs} {n:Nat} (hn:n≤1000000) (hs:s.length≤1000000):bk F 223 [.str s,.j (n:Int)] O (.str (uI s n)):=fun ad h sh=>by
 refine .inl ⟨_,h,LZ hr ?_,O,[],.refl O,sh,rfl,rfl,rfl⟩;have I:Nat.ble n 9223372036854775807=true:=aqm (by omega);have J:s.length*n≤1000000*1000000:=aq4 hs hn;have h3:Nat.ble (Nat.mul s.length n) 140737488355328=true:=aqm (show s.length*n≤_ by omega);show(bif Nat.ble n 9223372036854775807 then bif Nat.ble (Nat.mul s.length n) 140737488355328 then some (V.str (uI s n),h)else none else none)=_;rw[I,h3];(try rfl)
def pP (s:Bs):aV:=⟨((s[0]?).getD 0).toNat,ej ((s.drop 1).take 4),(rm (s.drop 5)).1⟩
theorem ak1 {x:aV} (h:mS x=true):(eR x)[5]? =some (bS (x.load.length:Int)):=by
 have hl:x.load.length≤55:=by unfold mS at h;simp only[G7,G6]at h;omega
 unfold eR;rw[B4 h];unfold iE iD;rw[pg (by omega)];(try rfl)
theorem ak2 (s:Bs):hJ s=if s.length=64 then(if eR (pP s)=s then some (pP s)else none)else none:=by
 unfold hJ;by_cases h0:s.length=64
 ·rw[B4 h0,B4 h0];have h5:s[5]? =some s[5]:=KJ (by omega);have hd:s.drop 5=s[5]::s.drop 6:=Rm (by omega);have bx:∀x:aV,eR x=s→s[5].toNat=x.load.length∧x.load.length≤55:=by
   intro x hx;have hm:mS x=true:=by
    cases hm:mS x with
    |true=>rfl
    |false=>unfold eR at hx;rw[hm]at hx;simp at hx;rw[hx]at h0;cases h0
   have h6:=ak1 hm;rw[hx,h5]at h6;have hl:x.load.length≤55:=by unfold mS at hm;simp only[G7,G6]at hm;omega
   simp only[E8]at h6;rw[h6];refine⟨?_,hl⟩;unfold bS;rw[UInt8.toNat_ofNat'];omega
  by_cases hs:s[5].toNat≤55
  ·have e:pP s=sX s:=by
    unfold pP sX;rw[hd,h5];unfold rm;simp only[aqD];rw[pg (by rw[Rn];omega),aqn hs]
   rw[e]
  ·rw[pg (fun h=>hs (by have:=bx _ h;omega)),pg (fun h=>hs (by have:=bx _ h;omega))]
 ·rw[pg h0,pg h0]
theorem ak3 [Fx F] {x:aV}:bk F 221 [.agg [.j x.kind,.j x.gen,.str x.load]] O (.bool (mS x)):=by
 refine ai.ak (au ?_);refine S.box fun bs=>?_;refine S.ld 0 ?_;refine S.bin ?_;refine G.aE ?_;refine G.ld 0 ?_;refine G.bin ?_;refine G.and ?_;refine G.aE ?_;refine G.ld 0 ?_;refine G.bin ?_;refine G.and ?_;refine G.aE ?_;refine G.ld 0 ?_;refine G.bin ?_;refine G.and ?_;refine G.aE ?_;refine G.ld 0 ?_;refine G.cD ?_;refine G.bin ?_;refine G.and ?_;refine⟨_,.t rfl .nil,.done ?_⟩;show V.bool _=V.bool _;unfold mS;rfl
theorem ak4 [Fx F] (hr:F 223=some (.c7 ji)) {x:aV}:bk F 191 [.agg [.j x.kind,.j x.gen,.str x.load]] O (.str (eR x)):=by
 refine ai.ak (au ?_);refine S.box fun bs=>?_;refine S.af 0 ?_ (l:=[.j x.kind,.j x.gen,.str x.load]);refine S.ak (ak3) ?_;refine S.un ?_;refine C.B (fun ja=>?_) fun ja=>?_
 ·have e:eR x=[]:=by unfold eR;rw[pg (by simpa using ja)]
  rw[e];refine⟨_,.t rfl .nil,.done ?_⟩;rfl
 ·have hm:mS x=true:=by simpa using ja
  have hlo:x.load.length≤55:=by unfold mS at hm;simp only[G7,G6]at hm;omega
  have e:eR x=iE x++List.replicate (64-(iE x).length) 0:=by unfold eR;rw[B4 hm]
  rw[e];refine S.ld 0 ?_;refine S.a8 fun a9=>?_;have rL:ae bp (.sl a9 0 1 (.ex 1)) [x.kind] (some a9):=ae.new rfl;refine S.ct 0 rL fun x6 vM h9=>?_;refine S.aE ?_;refine S.ld 0 ?_;refine S.a8 fun gS=>?_;have vJ:ae bp (.sl gS 0 1 (.ex 1)) [x.gen] (some gS):=ae.new rfl;refine S.ld 1 ?_;refine S.call (Dj (n:=1) (aa.nil _) h9 (by omega) (by omega) (by simp) (by simp)) fun eL rK Jy nu dA=>?_;obtain⟨dA,qb,rfl,mi⟩:=dA;have dA:=dA.symm;subst dA;refine S.bF 2 ?_;refine S.gi 1 ?_;refine S.bF 2 ?_;refine S.ct 1 vJ fun nr p8 c0=>?_;refine S.na 0 mi (fun ψ l hf=>Dj (n:=4) hf (c0.mono l) (by omega) (by omega) (by simp[ij]) (by simp)) fun nw tR b4=>?_;obtain⟨H0,rfl,H3⟩:=b4;refine S.bF 1 ?_;refine S.na 0 H3 (fun ψ l hf=>VY (tx:=x.load) hf (by simp[ij]) (by omega)) fun k0 rP bX=>?_;obtain⟨Yk,rfl,tS⟩:=bX;have abr:iD ([]++bo 1 [x.kind]++bo 4 [x.gen]) x.load=iE x:=by unfold iE;simp[bo]
  rw[abr]at tS⊢;have dD:(iE x).length≤61:=by unfold iE iD;split<;>simp[hD];omega
  refine S.jS 0 tS ?_;refine S.len ?_ (hl:=ae.len tS);refine S.bin ?_ (v:=.j ((64-(iE x).length:Nat):Int)) (hv:=by rw[ig (by omega) (by omega)];congr 2;omega);refine S.ak (ak0 hr (s:=[0]) (n:=64-(iE x).length) (by omega) (by simp)) ?_;rw[V8];refine S.akX 0 tS ?_;refine S.bin ?_ (hv:=sS (by simp;omega));refine⟨_,.t rfl .nil,.done ?_⟩;rfl
theorem ak5 [Fx F] (hr:F 223=some (.c7 ji)) {s:Bs}:bk F 145 [.str s] O (.aM [.agg (bw.f ((hJ s).getD hG)),.bool (hJ s).isSome]):=by
 have ht:=ak2 s;refine ai.ak (au ?_);refine S.alloc fun a2=>?_;refine S.cD ?_;refine S.bin ?_;refine C.B (fun g7=>?_) fun g7=>?_
 ·have bx:¬s.length=64:=by simp at g7;omega
  rw[pg bx]at ht;rw[ht];refine S.build ?_;refine S.store 0 ?_;exact⟨_,.cN 0 rfl rfl rfl rfl (.t rfl .nil),.none rfl⟩
 ·have hlen:s.length=64:=by simp at g7;omega
  have hs:s.length≤1000000:=by omega
  rw[B4 hlen]at ht;refine S.alloc fun a4=>?_;refine S.mV fun p9 AA qa dB=>?_;obtain⟨w1,dP,Bi⟩:=aa.lo dB (j:=1) (by omega);obtain⟨Ja,Jw,fw5⟩:=aa.lo dB (j:=5) (by omega);refine S.ak (GW (n:=1) dB (by omega) hs) ?_;have e1:(cF s 1).1=(((s[0]?).getD 0).toNat:Int):=by
   unfold cF;rw[pg (by omega)];cases s with
   |nil=>cases hlen
   |cons c r=>simp[ej]
  rw[e1];refine S.store 0 ?_;refine S.slice dP ?_;refine S.ak (GW (n:=4) Bi (by omega) (by rw[Rn];omega)) ?_;have AF:(cF (s.drop 1) 4).1=ej ((s.drop 1).take 4):=by unfold cF;rw[pg (by rw[Rn];omega)]
  rw[AF];refine S.store 0 ?_;refine S.slice Jw ?_;refine S.ak (V5 fw5 (by rw[Rn];omega)) ?_;refine S.store 0 ?_;refine S.af 0 ?_ (l:=[.j (pP s).kind,.j (pP s).gen,.str (pP s).load]);refine S.ak (ak4 hr (x:=pP s)) ?_;refine S.bin ?_;refine C.B (fun ck=>?_) fun ck=>?_
  ·rw[pg (by simpa using ck)]at ht;rw[ht];refine S.build ?_;refine S.store 1 ?_;exact⟨_,.cN 1 rfl rfl rfl rfl (.t rfl .nil),.none rfl⟩
  ·rw[B4 (by simpa using ck)]at ht;rw[ht];refine S.af 0 ?_ (l:=[.j (pP s).kind,.j (pP s).gen,.str (pP s).load]);refine S.store 1 ?_;exact⟨_,.cN 1 rfl rfl rfl rfl (.t rfl .nil),.none rfl⟩
end Go.Ev
set_option maxHeartbeats 4000000
namespace Go.Ev
variable{F:Nat→Option aN} {O:Fz}
theorem ak6 [Fx F] {lv wv:V} {d:ay} {a:Pa} {i:Int} (hl:aa ec O lv d.last):ai F 188 [.ptr a 0,.j i] O [(some a,.cells [lv,wv,.j d.arm,.bool d.down] false)] (fun r ψ R=>ψ=O∧r=.bool (d.has i)∧R=[(some a,.cells [lv,wv,.j d.arm,.bool d.down] false)]) never:=by
 refine au ?_;refine S.ld 0 ?_;refine S.un ?_;refine G.mv ?_;refine G.bin ?_;refine G.and ?_;refine G.mv ?_;refine G.mv ?_;refine G.nil? ?_;refine G.aE ?_;refine G.aE ?_;refine G.ld 0 ?_;refine G.len ?_ (hl:=aa.len hl);refine G.bin ?_;refine G.and ?_;exact⟨_,.t rfl .nil,.done ⟨rfl,rfl,rfl⟩⟩
theorem ak7 [Fx F] {wv:V} (hs:isScalar wv=true):ai F 189 [wv] O [] (fun r ψ R=>ψ=O∧∃a,r=.fn 220 [.ptr a 0]∧R=[(some a,.cells [wv] false)]) never:=by
 have BQ:wv.cells=[wv]:=jm hs;refine au ?_;refine S.box (v:=wv) (fun bs=>?_) (hs:=by rw[BQ];simp[aY,hs]);rw[BQ];refine S.FX ?_;exact⟨_,.t rfl .nil,.done ⟨rfl,bs,rfl,rfl⟩⟩
theorem ak8 {wl:List uZ} {wv:V} {jJ l:Pa} {a b:IC al} {nt:Nat} {R:List Ob} {P:bB} (d0:Nat→Fz→List Ob→Prop) (D:Fz→List Ob→Prop) (hw:aa nW O wv wl) (hb:wl.length≤1000000) (h0:d0 wl.length O R) (hI:∀j ψ R,d0 j ψ R→R[1]? =some (some jJ,.cells [wv] false))
 (hy:∀(j:Nat) (hj:j<wl.length) (ψ:Fz) (R:List Ob),O.Le ψ→d0 (j+1) ψ R→xm F (zs 220 nt l a b) l [.j (j:Int),.agg (nW.f wl[j])] ψ R (fun q χ O'=>(q=true→d0 j χ O')∧(q=false→D χ O')))
 (hn:∀E ψ R,O.Le ψ→d0 0 ψ R→P.n E ψ R) (hd:∀E ψ R,O.Le ψ→D ψ R→P.r E ψ R):SW F (zs 220 nt l a b) B.Ts.den [(0,.gV l),(1,.ptr jJ 0)] O R P:=by
 refine SC.w ?_;refine S.ld 1 ?_ (hi:=hI _ _ _ h0);refine S.len ?_ (hl:=aa.len hw);refine S.bin ?_;refine SW.loop (fun m E ψ R=>O.Le ψ∧m≤wl.length∧d0 m ψ R∧Sub [(0,.gV l),(1,.ptr jJ 0),(3,.j ((m:Int)-1))] E) (m:=wl.length) ⟨.refl O,B5 _,h0,.r rfl⟩ ?_;intro m E ψ R ac ⟨gU,yR,hi,hE⟩;refine C.sub hE ?_;refine S.bin ?_;refine C.D (fun g7=>?_) fun g7=>?_
 ·obtain⟨j,rfl⟩:∃j,m=j+1:=⟨m-1,by omega⟩
  have hj:j<wl.length:=by omega
  have e3:(((j+1:Nat):Int)-1)=(j:Int):=by omega
  rw[e3];refine S.ld 1 ?_ (hi:=hI _ _ _ hi);refine S.aF (hw.mono gU) hj fun DO tT=>?_;refine S.bP ?_ (l:=nW.f wl[j]);refine S.yield (hy j hj ψ R gU hi) fun q χ O' eJ hq=>?_;refine S.un ?_;refine C.B (fun cy=>?_) fun cy=>?_
  ·have hqf:q=false:=by simpa using cy
   exact hd _ _ _ (gU.trans eJ) (hq.2 hqf)
  ·have hqt:q=true:=by simpa using cy
   refine S.bin ?_;exact⟨j,by omega,gU.trans eJ,by omega,hq.1 hqt,.r rfl⟩
 ·have vE:m=0:=by omega
  subst vE;show P.n _ _ _;exact hn _ _ _ gU hi
def V9 (e:T V) (fn nt:Nat) (l jJ a5 a4 a3 a2 gR:Pa) (st:LoopState) (Au:Option qv) (s:Bs) (ok:Bool) (i:Int) (wv:V) (D:List V):List Ob:=
 [(some l,.loop {state:=st,pending:=Au,fn:=fn,nt:=nt,env:=e,params:=[pa 19,pa 20]}),(some jJ,.cells [wv] false),(some gR,.cells D false),(some a5,.cells [.bool ok] false),(some a4,.cells [.str s] false),(some a3,.cells [.j i] false),(some a2,.cells D false)]
theorem ak9 [Fx F] {cs:List V} {d:ay} {i:Int} (hd:cP O cs d) (hb:d.wait.length≤1000000):bk F 144 [.agg cs,.j i] O (.aM [.str (d.read i).1,.bool (d.read i).2]):=by
 obtain⟨lv,wv,rfl,hl,hw,sl,sw⟩:=hd.open;refine ai.ak (au ?_);refine S.box fun a2=>?_;refine S.box fun a3=>?_;refine S.alloc fun a4=>?_;refine S.alloc fun a5=>?_;refine S.af 3 ?_ (l:=[lv,wv,.j d.arm,.bool d.down]);refine S.build ?_ (l:=[lv,wv,.j d.arm,.bool d.down]);refine S.box fun gR=>?_;refine S.ld 3 ?_;refine S.bb 0 rfl (ak6 (wv:=wv) (i:=i) hl) fun nw tQ tR qc b4=>?_;obtain⟨b4,rfl,rfl⟩:=b4;have b4:=b4.symm;subst b4;refine S.un ?_;refine C.B (fun cp=>?_) fun cp=>?_
 ·have e:d.read i=([],false):=by unfold ay.read;rw[pg (by intro h;rw[h]at cp;cases cp)]
  rw[e];refine S.store 2 ?_;refine S.store 1 ?_;exact⟨_,.fK 2 rfl rfl rfl (.fK 1 rfl rfl rfl .nil),.none rfl⟩
 ·have hh:d.has i=true:=by simpa using cp
  refine S.ld 4 ?_;refine S.call (ak7 sw) fun r7 j5 AT mq cK=>?_;obtain⟨cK,p6,rfl,rfl⟩:=cK;have cK:=cK.symm;subst cK;have hw:=hw;refine SW.Tx (Fx.h (f:=220) rfl) rfl fun l e he=>?_;refine ak8 (wl:=d.wait) (fun j ψ R=>O.Le ψ∧(d.wait.drop j).all (fun p=>!decide (p.at_=i))=true∧R=V9 e 144 32 l p6 a5 a4 a3 a2 gR .ready none [] false i wv [lv,wv,.j d.arm,.bool d.down]) (fun ψ R=>O.Le ψ∧∃s,d.read i=(s,true)∧R=V9 e 144 32 l p6 a5 a4 a3 a2 gR .done (some .ret) s true i wv [lv,wv,.j d.arm,.bool d.down]) hw hb ⟨.refl O,by rw[WV];(try rfl),rfl⟩ (fun j ψ R h=>by obtain⟨_,_,rfl⟩:=h;rfl) ?hy ?hn ?hd
  case hd=>
   intro E2 ψ O2 ac abs;obtain⟨gU,s,Km,sx⟩:=abs;subst sx;refine⟨_,_,rfl,(by intro h;cases h),.inr ⟨rfl,?_⟩⟩;exact⟨_,.fK 3 rfl rfl rfl (.fK 2 rfl rfl rfl .nil),.none (by rw[Km];(try rfl))⟩
  case hy=>
   intro j hj ψ O2 ac hI;obtain⟨gU,eK,sx⟩:=hI;subst sx;refine xm.round (r:={state:=.ready,pending:=none,fn:=144,nt:=32,env:=e,params:=[pa 19,pa 20]}) rfl rfl ((he.set 19 _).set 20 _) ?_;refine SC.w ?_;refine S.alloc fun ew=>?_;refine S.store 0 ?_;refine SC.w ?_;refine S.ld 0 ?_;refine S.ld 5 ?_;refine S.bin ?_;refine SW.F6 (.t rfl) (fun ey=>SC.w ?_) fun ey=>SW.fin (.drop 0 (.done (SW.skip ?_)))
   ·refine S.ld 0 ?_;refine S.drop 0 ?_;refine S.store 3 ?_;refine S.store 2 ?_;have Km:d.read i=((d.wait[j]).b,true):=by unfold ay.read;rw[B4 hh,TI hj eK ey];(try rfl)
    exact⟨fun h=>(by cases h),fun _=>⟨gU,(d.wait[j]).b,Km,rfl⟩⟩
   ·exact⟨fun _=>⟨gU,TK hj eK (by simpa using ey),rfl⟩,fun h=>by cases h⟩
  intro E2 ψ2 O2 ac hI;obtain⟨gU,eK,sx⟩:=hI;subst sx;refine⟨_,_,rfl,(by intro h;cases h),.inl ⟨rfl,?_⟩⟩;have hl:=hl.mono gU;rw[aqY]at eK;have QO:=hh;unfold ay.has at QO;simp only[G7,G6]at QO;obtain⟨k,rfl⟩:∃k:Nat,i=(k:Int):=⟨i.toNat,by omega⟩
  have hk:k<d.last.length:=by omega
  refine S.ld 5 ?_;refine S.ld 4 ?_;refine S.aF hl hk fun Ou HT=>?_;refine S.aX ?_;refine S.store 3 ?_;refine S.store 2 ?_;have e:d.read k=(d.last[k],true):=by
   unfold ay.read;rw[B4 hh,TJ eK,aqo,KJ hk];(try rfl)
  rw[e];exact⟨_,.fK 3 rfl rfl rfl (.fK 2 rfl rfl rfl .nil),.none rfl⟩
end Go.Ev
set_option maxHeartbeats 1000000
namespace Go.Ev
variable{F:Nat→Option aN} {O:Fz}
theorem l3 [Fx F] {a:Pa} {bC:V} {s:df} {n:Nat} (cj:aa aQ O bC s.1) (hn:n≤4) (hb:s.1.length≤1000000):ai F 141 [.ptr a 0,.j (n:Int)] O [(some a,.cells [bC,.bool s.2] false)] (fun r ψ R=>ψ=O∧r=.j (rdNum n s).1∧∃oQ,R=[(some a,.cells [oQ,.bool (rdNum n s).2.2] false)]∧aa aQ O oQ (rdNum n s).2.1) never:=by
 have sbv:=cj.av;refine ai.same (au ?_);refine S.ld 0 ?_;refine S.ak (GW (n:=n) cj (by omega) hb) ?_;refine S.ld 0 ?_;refine G.mv ?_;refine G.un ?_;refine G.or ?_;refine S.store 0 ?_;refine S.ld 0 ?_;refine C.B (fun qf=>?_) fun qf=>?_
 ·have e:rdNum n s=(0,(s.1,true)):=by unfold rdNum;rw[B4 qf]
  rw[e,qf];exact⟨_,.t rfl .nil,.done ⟨rfl,bC,rfl,cj⟩⟩
 ·have e:rdNum n s=((cF s.1 n).1,(s.1.drop n,false)):=by unfold rdNum;rw[pg (by rw[qf];simp)]
  have hk:n≤s.1.length:=by
   have J:(cF s.1 n).2=true:=by cases h:(cF s.1 n).2<;>simp[h]at qf⊢
   unfold cF at J;split at J
   ·cases J
   ·omega
  obtain⟨w,w1,w2⟩:=aa.lo cj hk;have Yh:=w2.av;rw[e,qf];refine S.ld 0 ?_;refine S.slice w1 ?_;refine S.hK 0 ?_;exact⟨_,.t rfl .nil,.done ⟨rfl,w,rfl,w2⟩⟩
theorem Wa [Fx F] {a:Pa} {bC:V} {s:df} (cj:aa aQ O bC s.1) (hb:s.1.length≤1000000):ai F 182 [.ptr a 0] O [(some a,.cells [bC,.bool s.2] false)] (fun r ψ R=>ψ=O∧r=.agg (aq.f (gF s).1)∧∃oQ,R=[(some a,.cells [oQ,.bool (gF s).2.2] false)]∧aa aQ O oQ (gF s).2.1) never:=by
 have g1:=dY 2 s;refine ai.same (au ?_);refine S.alloc fun a2=>?_;refine S.bb 1 rfl (l3 (s:=s) (n:=2) cj (by omega) (by omega)) fun v5 Qz QA QB h5=>?_;obtain⟨h5,rfl,Ja,rfl,k5⟩:=h5;have h5:=h5.symm;subst h5;have h5:=k5;refine S.bb 0 rfl (l3 (s:=(rdNum 2 s).2) (n:=4) h5 (by omega) (by omega)) fun v8 Zo Zp Zq h8=>?_;obtain⟨h8,rfl,ET,rfl,Kn⟩:=h8;have h8:=h8.symm;subst h8;have h8:=Kn;refine S.build ?_;refine S.store 1 ?_;exact⟨_,.cN 1 rfl rfl rfl rfl .nil,.only 0 ⟨rfl,_,rfl,h8⟩⟩
theorem Nr (s:df):0≤(rdNum 1 s).1∧(rdNum 1 s).1≤255:=by
 have kW:0≤(cF s.1 1).1∧(cF s.1 1).1≤255:=by
  unfold cF;split
  ·exact⟨by decide,by decide⟩
  ·refine⟨Md _,?_⟩;have I:=Me (s.1.take 1);have h3:(256:Int)^(s.1.take 1).length≤256:=by
    have:(s.1.take 1).length=0∨(s.1.take 1).length=1:=by rw[ab7];omega
    rcases this with h|h<;>rw[h]<;>decide
   show ej (s.1.take 1)≤255;omega
 unfold rdNum;split
 ·exact⟨aqc 0,(by decide:(0:Int)≤255)⟩
 ·exact kW
theorem Wb [Fx F] {a:Pa} {bC:V} {s:df} (cj:aa aQ O bC s.1) (hb:s.1.length≤1000000):ai F 142 [.ptr a 0] O [(some a,.cells [bC,.bool s.2] false)] (fun r ψ R=>ψ=O∧∃oQ q,R=[(some a,.cells [oQ,.bool (jo s).2.2] false),aq.ob q (jo s).1]∧aa aQ O oQ (jo s).2.1∧ae aq r (jo s).1 q) never:=by
 have g1:=dY 1 s;have m5:=Nr s;refine ai.same (au ?_);refine S.bb 0 rfl (l3 (s:=s) (n:=1) cj (by omega) (by omega)) fun v6 BC O6 uy h6=>?_;obtain⟨h6,rfl,Jb,rfl,k6⟩:=h6;have h6:=h6.symm;subst h6;have h6:=k6;obtain⟨BS,tN⟩:∃k:Nat,(rdNum 1 s).1=(k:Int):=⟨(rdNum 1 s).1.toNat,by omega⟩
 have IZ:jo s=mY BS (rdNum 1 s).2 []:=by unfold jo;rw[tN,aqo]
 rw[IZ,tN];refine SW.new aq ?_;refine SW.bG (fun m E ψ R=>∃(s2:df) (am:List ag) (w v:V) (q:Option Pa),mY m s2 am=mY BS (rdNum 1 s).2 []∧s2.1.length≤1000000∧am.length+m≤255∧O=ψ∧aa aQ O w s2.1∧R=[(some a,.cells [w,.bool s2.2] false),aq.ob q am]∧ae aq v am q∧Sub [(0,.ptr a 0),(3,v),(4,.j (m:Int))] E) (m:=BS) (.front 1 rfl (.done ⟨(rdNum 1 s).2,[],Jb,.no .sl,none,rfl,by omega,by simp;omega,rfl,h6,rfl,ae.nil,.r rfl⟩)) ?_;intro m0 E ψ R ac hI;obtain⟨s2,am,w,v,q,ab,gQ,oB,rfl,hw,rfl,ho,hE⟩:=hI;refine C.sub hE ?_;refine S.bin ?_;refine G.mv ?_;refine G.nil? ?_;refine G.aE ?_;refine G.ld 0 ?_;refine G.un ?_;refine G.and ?_;refine C.B (fun cp=>?_) fun cp=>?_
 ·simp only[G7,apH,G6]at cp;obtain⟨m1,rfl⟩:∃m1,m0=m1+1:=⟨m0-1,by omega⟩
  rw[Uh cp.2]at ab;have gp1:=dY 2 s2;have gp2:=dY 4 (rdNum 2 s2).2;have aps:(gF s2).2.1.length≤s2.1.length:=by unfold gF;simp only;omega
  refine S.bb 0 rfl (Wa (s:=s2) hw gQ) fun v20 sb yr se cU=>?_;obtain⟨cU,rfl,Ba,rfl,k20⟩:=cU;have cU:=cU.symm;subst cU;refine S.a8 fun a21=>?_;refine S.bu (m:=[(gF s2).1]) 2 ho (.lit 0) (by simp;omega) fun v22 s22 o22=>?_;refine S.drop 0 ?_;refine S.mv ?_;refine S.bin ?_ (v:=.j (m1:Int)) (hv:=by rw[ig (by omega) (by omega)];congr 2;omega);exact⟨m1,by omega,.done ⟨(gF s2).2,am++[(gF s2).1],Ba,v22,s22,ab,by omega,by simp;omega,rfl,k20,rfl,o22,.r rfl⟩⟩
 ·have aj:m0=0∨s2.2=true:=by
   simp only[aqs,NI,apR]at cp;rcases cp with h|h
   ·exact .inl (by omega)
   ·exact .inr h
  rw[Ug aj]at ab;rw[←ab];exact⟨_,.t rfl .nil,.done ⟨_,q,rfl,hw,ho⟩⟩
def okB (m n:Int):Bool:=decide (0≤n)&&decide (n≤m)
def en (b:Bool) (n m:Int):Bool:=b||decide (n<0)||decide (m<n)
theorem tj (b:Bool) (n m:Int):en b n m=(b||!okB m n):=by
 unfold en okB;by_cases I:n<0
 ·simp[I]
 ·have J:0≤n:=by omega
  by_cases h3:m<n
  ·simp[h3]
  ·have h4:n≤m:=by omega
   simp[I,J,h3,h4]
theorem vl (m:Int):∀(l:List Int) (b:Bool),l.foldl (fun b n=>en b n m) b=(b||!l.all (okB m))
 |[],b=>by simp
 |n::l,b=>by rw[aqk,vl m l,tj,aqJ];cases b<;>cases okB m n<;>simp
def oq (b:Bool) (p:List ag):Bool:=p.foldl (fun b q=>en (en b q.addr 65535) q.gen 1073741824) b
theorem GX:∀(p:List ag) (b:Bool),oq b p=(b||!p.all ep)
 |[],b=>by simp[oq]
 |q::p,b=>by
  show oq (en (en b q.addr 65535) q.gen 1073741824) p=_;rw[GX p,tj,tj,aqJ];have:ep q=(okB 65535 q.addr&&okB 1073741824 q.gen):=rfl;rw[this];cases b<;>cases okB 65535 q.addr<;>cases okB 1073741824 q.gen<;>simp
def wB (a:Pa) (k g:Int) (ld:Bs) (bad:Bool):Ob:=(some a,.cells [.j k,.j g,.str ld,.bool bad] false)
theorem GY [Fx F] {a:Pa} {k g n eP:Int} {ld:Bs} {bad:Bool}:ai F 184 [.ptr a 0,.j n,.j eP] O [wB a k g ld bad] (fun r ψ R=>ψ=O∧r=.ptr a 0∧R=[wB a k g ld (en bad n eP)]) never:=by
 refine au ?_;refine S.ld 0 ?_;refine G.mv ?_;refine G.bin ?_;refine G.or ?_;refine G.mv ?_;refine G.mv ?_;refine G.bin ?_;refine G.or ?_;refine S.store 0 ?_;exact⟨_,.t rfl .nil,.done ⟨rfl,rfl,rfl⟩⟩
theorem GZ [Fx F] {k g:Int}:ai F 183 [.j k,.j g] O [] (fun r ψ R=>ψ=O∧∃a,r=.ptr a 0∧R=[wB a k g [] (en false g 1073741824)]) never:=by
 refine au ?_;refine S.build ?_ (l:=[.j k,.j g,.str []]);refine S.build ?_ (l:=[.j k,.j g,.str [],.bool false]);refine S.box fun mh=>?_;refine S.bb 0 rfl (GY (a:=mh) (k:=k) (g:=g) (ld:=[]) (bad:=false)) fun oO nr DT p8 c0=>?_;obtain⟨c0,rfl,rfl⟩:=c0;have c0:=c0.symm;subst c0;exact⟨_,.t rfl .nil,.done ⟨rfl,mh,rfl,rfl⟩⟩
theorem tk [Fx F] {a:Pa} {k g eP:Int} {ld:Bs} {bad:Bool} {n:Nat} {lv:V} {l:List Int} (hl:aa bp O lv l) (hn:1≤n) (Az:n≤4) (hb:ld.length+l.length*n≤1000000) (dl:l.length≤1000000):ai F 185 [.ptr a 0,.j (n:Int),.j eP,lv] O [wB a k g ld bad] (fun r ψ R=>ψ=O∧R=[wB a k g (ld++bo n l) (l.foldl (fun b n=>en b n eP) bad)]) never:=by
 refine ai.same (au ?_);refine S.len ?_ (hl:=aa.len hl);refine SW.bG (fun m E ψ R=>∃j:Nat,j+m=l.length∧O=ψ∧R=[wB a k g ld ((l.take j).foldl (fun b n=>en b n eP) bad)]∧Sub [(0,.ptr a 0),(1,.j (n:Int)),(2,.j eP),(3,lv),(10,lv),(11,.j (l.length:Int)),(12,.j (j:Int))] E) (m:=l.length) (.done ⟨0,by omega,rfl,rfl,.r rfl⟩) ?_;intro m0 E ψ R ac hI;obtain⟨j,hj,rfl,rfl,hE⟩:=hI;refine C.sub hE ?_;refine S.bin ?_;refine C.D (fun eM=>?_) fun eM=>?_
 ·have tG:j<l.length:=by omega
  refine S.aF hl tG fun QP Ko=>?_;refine S.aX ?_;refine S.bb 0 rfl (GY) fun mr wa wb r8 cu=>?_;obtain⟨cu,rfl,rfl⟩:=cu;have cu:=cu.symm;subst cu;refine S.bin ?_;exact⟨m0-1,by omega,.done ⟨j+1,by omega,rfl,by rw[vb _ _ _ _ tG];(try rfl),.r rfl⟩⟩
 ·obtain rfl:j=l.length:=by omega
  rw[ap2];refine S.ld 0 ?_;refine S.mV fun um sq o9 c3=>?_;have hl:=hl.mono o9;refine S.call (Dj (n:=n) c3 hl hn Az hb dl) fun Qd Qe Qf wM i4=>?_;obtain⟨i4,s30,rfl,o30⟩:=i4;have i4:=i4.symm;subst i4;refine S.jS 0 o30 ?_;refine S.store 1 ?_;exact⟨_,.nil,.only 1 rfl⟩
end Go.Ev
