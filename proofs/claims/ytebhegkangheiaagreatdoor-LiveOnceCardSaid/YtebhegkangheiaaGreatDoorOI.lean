/- A part of the proof of glacislaw13.LiveOnce. -/
import Derived.Test.YtebhegkangheiaaGreatDoorOH
namespace Go.Ev
variable{F:Nat->Option aP} {O:Fz}
theorem Kq (s:cL):0<=(rdNum 1 s).1/\(rdNum 1 s).1<=255:=by
 unfold rdNum;split
 ·simp
 ·unfold cf;split
  ·simp
  ·rename_i aj;have hl:(s.1.take 1).length=1:=by rw[cE];omega
   obtain⟨b,d⟩:=List.length_eq_one_iff.1 hl;rw[d];have:=b.toNat_lt;simp[dB];omega
theorem tn {n:Nat} {s:cL} (h:(rdNum n s).2.2=false):s.2=false/\n<=s.1.length/\(rdNum n s).2.1=s.1.drop n:=by
 unfold rdNum at h⊢;split at h
 ·cases h
 ·rename_i o;rw[ab o];simp only[cx,not_or,Bool.not_eq_true,du]at o;refine⟨o.1,?_,rfl⟩;have aj:=o.2;unfold cf at aj;split at aj
  ·simp at aj
  ·omega
theorem kc [Fx F] {n:Int}:bm F 63 [.j n] O (.bool (e1 n)):=by
 refine ai.al (ar ?_);refine S.bin ?_;refine G.mv ?_;refine G.bin ?_;refine G.and ?_;refine⟨_,.t rfl .nil,.done ?_⟩;rfl
theorem wc [Fx F] {p:ah}:bm F 113 [.agg [.j p.addr,.j p.gen]] O (.bool (dI p)):=by
 refine ai.al (ar ?_);refine S.box fun d=>?_;refine S.ld 0 ?_;refine S.bin ?_;refine G.aD ?_;refine G.ld 0 ?_;refine G.bin ?_;refine G.and ?_;refine G.aD ?_;refine G.ld 0 ?_;refine G.al (fun _=>kc) ?_;refine G.and ?_;refine⟨_,.t rfl .nil,.done ?_⟩;rfl
theorem we [Fx F] {d:V} {b:Bs} {p:ah} (B:aa aU O d b) (Q:b.length<=900000):
 ai F 114 [d,.agg [.j p.addr,.j p.gen]] O [] (fun r ψ R=>ψ=O/\∃s,R=[aU.ob s (b++lP p)]/\af aU r (b++lP p) s) never:=by
 refine ai.same (ar ?_);refine S.box fun a3=>?_;refine S.ld 0 ?_;refine S.ld 0 ?_;refine S.call (lN (n:=2) (x:=p.addr) B (by omega) (by omega) (by omega)) fun Z ab M U A=>?_;obtain⟨rfl,W,rfl,G⟩:=A;refine S.bE 1 ?_;refine S.jL 0 G (fun ψ _ D=>lN (n:=4) (x:=p.gen) D (by omega) (by omega) (by simp[fz];omega)) fun Y L o=>?_;obtain⟨I,rfl,h⟩:=o;rw[bp]at h⊢;exact⟨_,.t rfl .nil,.only 0 ⟨I,rfl,h⟩⟩
theorem zR [Fx F] {r:bA} {gen:Int}:bm F 48 [.j gen,.agg [.j r.ino,.j r.idx,.str r.load]] O (.agg (bu.f (fZ gen r))):=by
 refine ai.al (ar ?_);refine S.box fun a3=>?_;refine S.alloc fun a4=>?_;refine S.al (kc) ?_;refine S.un ?_;refine G.aD ?_;refine G.ld 1 ?_;refine G.bin ?_;refine G.or ?_;refine G.aD ?_;refine G.ld 1 ?_;refine G.bin ?_;refine G.or ?_;refine G.aD ?_;refine G.ld 1 ?_;refine G.bin ?_;refine G.or ?_;refine G.aD ?_;refine G.ld 1 ?_;refine G.bin ?_;refine G.or ?_;refine G.aD ?_;refine G.ld 1 ?_;refine G.cb ?_;refine G.bin ?_;refine G.or ?_;refine C.B (fun d=>?_) fun d=>?_
 ·have e:fZ gen r=fA:=by
   unfold fZ;rw[ab];intro h;unfold q5 kO at h;simp only[be,aR]at h;rw[h.1.1.1]at d;simp only[l5,jw,cx,aR]at d;omega
  rw[e];refine S.build ?_;refine S.store 0 ?_;exact⟨_,.cN 0 rfl rfl rfl rfl .nil,.none rfl⟩
 ·simp only[cg,du,bD]at d;have e:fZ gen r=⟨1,gen,[bM r.ino,bM r.idx]++r.load⟩:=by
   unfold fZ;rw[ae];unfold q5 kO;simp only[be,aR];exact⟨⟨⟨d.1.1.1.1.1,by omega⟩,by omega⟩,by omega⟩
  rw[e];refine S.ld 1 ?_;refine S.mH ?_;refine S.ld 1 ?_;refine S.mH ?_;refine S.pO (e:=aU) [bM r.ino,bM r.idx] fun D I A o=>?_;refine S.tg o ?_;refine S.ld 1 ?_;refine S.bin ?_ (hv:=my (by simp;omega));refine S.build ?_;refine S.store 0 ?_;exact⟨_,.cN 0 rfl rfl rfl rfl .nil,.none rfl⟩
def wg:Option bA->bA×Bool
 |some r=>(r,true)
 |none=>(⟨0,0,[]⟩,false)
theorem Kr [Fx F] {x:aT} (hx:x.load.length<=1000000):bm F 17 [.agg [.j x.kind,.j x.gen,.str x.load]] O (.aN [.agg (bq.f (wg (eh x)).1),.bool (wg (eh x)).2]):=by
 refine ai.al (ar ?_);refine S.box fun A=>?_;refine S.alloc fun D=>?_;refine S.ld 1 ?_;refine S.bin ?_;refine G.aD ?_;refine G.ld 1 ?_;refine G.cb ?_;refine G.bin ?_;refine G.or ?_;refine C.B (fun O6=>?_) fun O6=>?_
 ·have e:eh x=none:=by
   unfold eh;simp only[cx,c3,aR,bD]at O6;exact ab (by omega)
  rw[e];refine S.build ?_;refine S.store 0 ?_;exact⟨_,.cN 0 rfl rfl rfl rfl (.t rfl .nil),.none rfl⟩
 ·simp only[cg,du,aR,bD]at O6;have h0:x.load[0]? =some x.load[0]:=bj (by omega);have o:x.load[1]? =some x.load[1]:=bj (by omega);have h:lQ x=⟨(x.load[0]).toNat,(x.load[1]).toNat,x.load.drop 2⟩:=by unfold lQ;rw[h0,o];(try rfl)
  refine S.ld 1 ?_;refine S.gy h0 ?_;refine S.iY ?_;refine S.ld 1 ?_;refine S.gy o ?_;refine S.iY ?_;refine S.ld 1 ?_;refine S.gO (Ju (s:=x.load) (i:=2) (by omega)) ?_;refine S.build ?_;refine S.alloc fun a4=>?_;refine S.store 0 ?_;refine S.ld 2 ?_;refine S.ag 0 ?_;refine S.ag 2 ?_;refine S.al (zR (r:=lQ x)) ?_ (hx:=by rw[h];(try rfl));refine S.dg 2 ?_;refine S.bin ?_ (hv:=nJ (fZ x.gen (lQ x)) x);refine C.B (fun d=>?_) fun d=>?_
  ·have e:eh x=none:=by
    unfold eh;rw[ae ⟨by omega,by omega⟩,ab (by simpa using d)]
   rw[e];refine S.build ?_;refine S.store 1 ?_;exact⟨_,.cN 1 rfl rfl rfl rfl (.t rfl .nil),.none rfl⟩
  ·have e:eh x=some (lQ x):=by
    unfold eh;rw[ae ⟨by omega,by omega⟩,ae (by simpa using d)]
   rw[e,h];refine S.ag 0 ?_;refine S.store 1 ?_;exact⟨_,.cN 1 rfl rfl rfl rfl (.t rfl .nil),.none rfl⟩
theorem tp {gen:Int} {f:Nat} {l:List bO} (h:l≠[]):gC gen (f+1) l=gW gen (l.take 6)::gC gen f (l.drop 6):=by
 cases l with
 |nil=>exact absurd rfl h
 |cons a l=>rfl
theorem tq {gen:Int} {f:Nat}:gC gen f []=[]:=by cases f<;>rfl
theorem zS [Fx F] {gen:Int} {D A:V} {rl:List bA} {pl:List ah} (hr:aa bq O D rl) (hp:aa aq O A pl) (hlen:rl.length<=1000000):
 ai F 66 [.j gen,D,A] O [] (fun r ψ R=>ψ=O/\∃s,R=[bu.ob s (gD gen (rl.zip pl))]/\af bu r (gD gen (rl.zip pl)) s) never:=by
 obtain⟨an,M⟩:∃an,an=rl.zip pl:=⟨_,rfl⟩
 rw[<-M];have bB:an.length<=rl.length/\an.length<=pl.length:=by rw[M,rV];omega
 have bC:an.length=min rl.length pl.length:=by rw[M,rV]
 have aV:∀i (h:i<an.length),rl[i]? =some (an[i]).1/\pl[i]? =some (an[i]).2:=fun i h=>by subst M;rw[List.getElem_zip];exact⟨bj _,bj _⟩
 refine ai.same (ar ?_);refine SW.new bu ?_;refine SW.bF (fun m E ψ R=>∃(j:Nat) (out:List aT) (v:V) (s:Option Pa),out++gC gen m (an.drop j)=gD gen an/\(an.drop j).length<=m/\j<=an.length+6/\out.length+m<=an.length/\O=ψ/\R=[bu.ob s out]/\af bu v out s/\Sub [(0,.j gen),(1,D),(2,A),(7,v),(8,.j (j:Int))] E) (m:=an.length) (.done ⟨0,[],.no .sl,none,rfl,by simp,by omega,by simp,rfl,rfl,af.nil,.r rfl⟩) ?_;intro az E ψ R ay Y;obtain⟨j,out,v,s,L,av,bw,bz,rfl,rfl,ho,d⟩:=Y;refine C.sub d ?_;refine S.len ?_;refine S.bin ?_;refine G.mv ?_;refine G.mv ?_;refine G.len ?_;refine G.bin ?_;refine G.and ?_;refine C.B (fun O2=>?_) fun O2=>?_
 ·simp only[be,aR]at O2;have hj:j<an.length:=by omega
  obtain⟨Z,rfl⟩:∃Z,az=Z+1:=⟨az-1,by rw[bW]at av;omega⟩
  rw[tp (by intro h;rw[List.drop_eq_nil_iff]at h;omega),nY]at L;refine S.al (kc) ?_;refine SW.new aU ?_;refine SW.bF (fun m E ψ R=>∃(q:Nat) (w:V) (U:Option Pa),q+m=6/\j+q<=an.length/\O=ψ/\R=[aU.ob U (fC ((an.drop j).take q)),bu.ob s out]/\af aU w (fC ((an.drop j).take q)) U/\Sub [(0,.j gen),(1,D),(2,A),(7,v),(8,.j (j:Int)),(9,w),(10,.bool (e1 gen&&((an.drop j).take q).all kP)),(11,.j ((j+q:Nat):Int))] E) (m:=6) (.done ⟨0,.no .sl,none,rfl,by omega,rfl,rfl,af.nil,.cons rfl (.cons rfl (.cons rfl (.cons rfl (.cons rfl (.cons rfl (.cons (by rw[nX,qo,k5];(try rfl)) (.r rfl)))))))⟩) ?_;intro aW E ψ R ay Y;obtain⟨q,w,U,hq,bx,rfl,rfl,hw,d⟩:=Y;refine C.sub d ?_;refine S.len ?_;refine S.bin ?_;refine G.mv ?_;refine G.mv ?_;refine G.len ?_;refine G.bin ?_;refine G.and ?_;refine G.mv ?_;refine G.mv ?_;refine G.bin ?_;refine G.bin ?_;refine G.and ?_;refine C.B (fun W=>?_) fun W=>?_
  ·simp only[be,aR]at W;have aS:j+q<an.length:=by omega
   obtain⟨am,ao⟩:=aV (j+q) aS;obtain⟨it,aw⟩:∃it,it=an[j+q]:=⟨_,rfl⟩
   rw[<-aw]at am ao;obtain⟨ap,au⟩:=dS.1 am;obtain⟨aI,aJ⟩:=dS.1 ao;have Q:(an.drop j).take (q+1)=(an.drop j).take q++[it]:=by
    rw[fm (by rw[bW];omega),aw];simp
   refine G.mv ?_;refine G.mv ?_;refine G.aF hr (z:=it.1) fun bG aC=>?_;refine G.bl aC fun bH bi=>?_;refine G.a1 ?_;refine G.bin ?_;refine G.and ?_;refine G.mv ?_;refine G.mv ?_;refine G.aF hr (z:=it.1) fun bI aD=>?_;refine G.bl aD fun bK bk=>?_;refine G.a1 ?_;refine G.bin ?_;refine G.and ?_;refine G.mv ?_;refine G.mv ?_;refine G.aF hr (z:=it.1) fun bL aE=>?_;refine G.bl aE fun bM bm=>?_;refine G.a1 ?_;refine G.bin ?_;refine G.and ?_;refine G.mv ?_;refine G.mv ?_;refine G.aF hr (z:=it.1) fun bN aH=>?_;refine G.bl aH fun bO bn=>?_;refine G.a1 ?_;refine G.bin ?_;refine G.and ?_;refine G.mv ?_;refine G.mv ?_;refine G.aF hp (z:=it.2) fun bP bo=>?_;refine G.bJ ?_;refine G.al (fun _=>wc (p:=it.2)) ?_;refine G.and ?_;refine S.aF hr ap fun bQ aj=>?_;rw[au]at aj;refine S.bl aj fun bR bs=>?_;refine S.a1 ?_;refine S.aF hr ap fun bS ak=>?_;rw[au]at ak;refine S.bl ak fun bT bt=>?_;refine S.a1 ?_;refine S.aF hp aI fun bE aB=>?_;rw[aJ]at aB;refine S.bJ ?_;have bv:(fC ((an.drop j).take q)).length<=48:=by rw[wb,cE];omega
   refine S.jL 0 hw (fun ψ _ o=>lN (n:=1) (x:=it.1.ino) o (by omega) (by omega) (by omega)) fun bY bd aM=>?_;obtain⟨bU,rfl,aZ⟩:=aM;refine S.zM ?_;refine S.th ?_;refine S.jL 0 aZ (fun ψ _ o=>lN (n:=1) (x:=it.1.idx) o (by omega) (by omega) (by simp[fz];omega)) fun bZ bg aO=>?_;obtain⟨bV,rfl,a2⟩:=aO;refine S.zM ?_;refine S.jL 0 a2 (fun ψ _ o=>we (p:=it.2) o (by simp[fz];omega)) fun ba bc aK=>?_;obtain⟨a6,rfl,aA⟩:=aK;have aQ:fC ((an.drop j).take q)++le 1 it.1.ino++le 1 it.1.idx++lP it.2=fC ((an.drop j).take (q+1)):=by rw[Q,fC,fC,List.flatMap_append];simp[pV]
   rw[aQ]at aA⊢;refine S.bin ?_;refine⟨aW-1,by omega,.done ⟨q+1,ba,a6,by omega,by omega,rfl,rfl,aA,.cons rfl (.cons rfl (.cons rfl (.cons rfl (.cons rfl (.cons rfl (.cons ?_ (.r rfl)))))))⟩⟩;rw[Q,rW];show some _=some _;simp[kP,kO,Bool.and_assoc]
  ·simp only[iF,bD]at W;have Q:(an.drop j).take q=(an.drop j).take 6:=by
    by_cases aL:q=6
    ·rw[aL]
    ·rw[kk (by rw[bW];omega),kk (by rw[bW];omega)]
   rw[Q]at hw d⊢;refine S.hM 0 hw ?_;refine S.build ?_;refine S.alloc fun ac=>?_;refine S.store 0 ?_;refine S.un ?_;refine SW.then (fun E ψ R=>O=ψ/\R=[(some ac,.cells (bu.f (gW gen ((an.drop j).take 6))) false),aU.ob U (fC ((an.drop j).take 6)),bu.ob s out]/\Sub [(0,.j gen),(1,D),(2,A),(7,v),(8,.j (j:Int)),(12,.ptr ac 0)] E) ?_ ?_
   ·refine C.B (fun I=>?_) fun I=>?_
    ·refine S.build ?_;refine S.store 0 ?_;have e:gW gen ((an.drop j).take 6)=fA:=by unfold gW;exact ab (by intro h;rw[h]at I;cases I)
     rw[e];exact⟨rfl,rfl,.r rfl⟩
    ·have e:gW gen ((an.drop j).take 6)=⟨2,gen,fC ((an.drop j).take 6)⟩:=by unfold gW;exact ae (by simpa using I)
     rw[e];exact⟨rfl,rfl,.r rfl⟩
   intro E ψ R ay aP;obtain⟨rfl,rfl,d⟩:=aP;refine C.sub d ?_;refine S.ag 0 ?_;refine S.a8 fun bh=>?_;refine S.br (m:=[gW gen ((an.drop j).take 6)]) 3 ho (.lit 0) (by simp;omega) fun bb a7 aX=>?_;refine S.drop 0 ?_;refine S.drop 0 ?_;refine S.drop 0 ?_;refine S.mv ?_;refine S.bin ?_;refine⟨Z,by omega,.done ⟨j+6,out++[gW gen ((an.drop j).take 6)],bb,a7,by rw[<-L,bp];(try rfl),by rw[bW]at av⊢;omega,by omega,by simp;omega,rfl,rfl,aX,.r rfl⟩⟩
 ·simp only[iF,bD]at O2;rw[p8 (by omega),tq,e9]at L;rw[L]at ho⊢;exact⟨_,.t rfl .nil,.only 0 ⟨s,rfl,ho⟩⟩
theorem Ks {U h:Type} (l:List (U×h)):(l.map (·.1)).zip (l.map (·.2))=l:=by
 induction l with
 |nil=>rfl
 |cons a l d=>show(a.1,a.2)::(l.map (·.1)).zip (l.map (·.2))=_;rw[d]
theorem zT {f:Nat} {s:cL} {d:List bO} (h:(decide (0<s.1.length)&&!s.2)=false):ka f s d=(d,s):=by
 cases f with
 |zero=>rfl
 |succ f=>unfold ka;rw[h];(try rfl)
theorem zU {s:cL} (h:(fD s).2.2=false):(fD s).2.1.length<s.1.length:=by
 unfold fD fi at h⊢;simp only at h⊢;obtain⟨o,aj,j⟩:=tn h;obtain⟨A,L,B⟩:=tn o;obtain⟨D,M,F⟩:=tn A;obtain⟨G,I,d⟩:=tn D;rw[j,B,F,d]at*;simp only[bW]at*;omega
theorem zV (s:cL):(fD s).2.1.length<=s.1.length:=by
 unfold fD fi;have o:=dh 1 s;have aj:=dh 1 (rdNum 1 s).2;have d:=dh 2 (rdNum 1 (rdNum 1 s).2).2;have h:=dh 4 (rdNum 2 (rdNum 1 (rdNum 1 s).2).2).2;simp only;omega
theorem Kt [Fx F] {x:aT} (hx:x.load.length<=1000000):
 ai F 150 [.agg [.j x.kind,.j x.gen,.str x.load]] O [] (fun r ψ R=>R=[]/\∃aJ aI,r=.aN [aJ,aI,.bool (dp x).isSome]/\aa bq ψ aJ (((dp x).getD []).map (·.1))/\aa aq ψ aI (((dp x).getD []).map (·.2))) never:=by
 refine ar ?_;refine S.box fun ao=>?_;refine S.ld 0 ?_;refine S.bin ?_;refine G.aD ?_;refine G.ld 0 ?_;refine G.cb ?_;refine G.bin ?_;refine G.or ?_;refine C.B (fun OZ=>?_) fun OZ=>?_
 ·have e:dp x=none:=by
   unfold dp;rw[ab];intro h;have aj:=rQ.2 h.2;simp only[cx,c3,aR,bD]at OZ;omega
  rw[e];exact⟨_,.t rfl (.t rfl (.t rfl .nil)),.none ⟨rfl,_,_,rfl,aa.nil _,aa.nil _⟩⟩
 ·simp only[cg,du,aR,bD]at OZ;have az:x.kind=2/\x.load≠[]:=⟨OZ.1,by intro h;rw[h]at OZ;exact OZ.2 rfl⟩
  refine S.ld 0 ?_;refine S.jH fun v22 aK bw au=>?_;have bM:=au.ax;refine S.build ?_;refine S.new aq ?_;refine S.new bq ?_;refine S.box fun ap=>?_;refine SW.bF (fun m E ψ R=>∃(s:cL) (d:List bO) (w an am:V) (al ak:Option Pa),ka m s d=idxOf x.load/\(s.2=false->s.1.length<=m)/\s.1.length<=1000000/\d.length+m<=x.load.length/\aK=ψ/\aa aU aK w s.1/\R=[(some ap,.cells [w,.bool s.2] false),bq.ob al (d.map (·.1)),aq.ob ak (d.map (·.2)),(some ao,.cells [.j x.kind,.j x.gen,.str x.load] false)]/\af bq an (d.map (·.1)) al/\af aq am (d.map (·.2)) ak/\Sub [(1,.ptr ao 0),(5,.ptr ap 0),(6,an),(7,am)] E) (m:=x.load.length) (.done ⟨(x.load,false),[],v22,.no .sl,.no .sl,none,none,rfl,fun _=>aB _,hx,by simp,rfl,au,rfl,af.nil,af.nil,.r rfl⟩) ?_;intro aH E ψ R bp aO;obtain⟨s,d,w,an,am,al,ak,I,aP,bs,bo,rfl,hw,rfl,aC,aA,aM⟩:=aO;refine C.sub aM ?_;refine S.ld 0 ?_;refine S.len ?_ (hl:=aa.len hw);refine S.bin ?_;refine G.mv ?_;refine G.nil? ?_;refine G.aD ?_;refine G.ld 0 ?_;refine G.un ?_;refine G.and ?_;refine C.B (fun A=>?_) fun A=>?_
  ·simp only[be,c3,aR]at A;have bt:=aP A.2;obtain⟨L,rfl⟩:∃L,aH=L+1:=⟨aH-1,by omega⟩
   have aQ:ka (L+1) s d=ka L (fD s).2 (d++[(fD s).1]):=by
    show(if decide (0<s.1.length)&&!s.2 then _ else _)=_;rw[ae];rw[A.2];simp;omega
   rw[aQ]at I;have wl:=zV s;have bl:=dh 1 s;have bm:=dh 1 (rdNum 1 s).2;have bn:=dh 2 (rdNum 1 (rdNum 1 s).2).2;have bv:=hw.ax;refine S.ba 0 rfl (jf (s:=s) (n:=1) hw (by omega) (by omega)) fun v39 bR a7 bx Q=>?_;obtain⟨rfl,rfl,bN,rfl,Q⟩:=Q;refine S.build ?_;refine S.alloc fun dL=>?_;refine S.store 0 ?_;refine S.ba 1 rfl (jf (s:=(rdNum 1 s).2) (n:=1) Q (by omega) (by omega)) fun bI bS bb bz U=>?_;obtain⟨rfl,rfl,bP,rfl,U⟩:=U;refine S.store 1 ?_;refine S.ba 0 rfl (jf (s:=(rdNum 1 (rdNum 1 s).2).2) (n:=2) U (by omega) (by omega)) fun v45 bT bc bA W=>?_;obtain⟨rfl,rfl,bQ,rfl,W⟩:=W;refine S.build ?_;refine S.alloc fun a9=>?_;refine S.store 0 ?_;refine S.ba 1 rfl (jf (s:=(rdNum 2 (rdNum 1 (rdNum 1 s).2).2).2) (n:=4) W (by omega) (by omega)) fun bK bU bd bB Y=>?_;obtain⟨rfl,rfl,a6,rfl,Y⟩:=Y;refine S.store 1 ?_;refine S.ag 2 ?_;refine S.a8 fun bh=>?_;refine S.ag 2 ?_;refine S.a8 fun bi=>?_;refine S.br (m:=[(fD s).1.1]) 5 aC (.lit 1) (by simp;omega) fun v53 aZ aW=>?_;refine S.e2 0 ?_;refine S.dg 3 ?_;refine S.br (m:=[(fD s).1.2]) 6 aA (.lit 0) (by simp;omega) fun a2 a1 aX=>?_;refine S.drop 0 ?_;refine S.drop 0 ?_;refine S.drop 1 ?_;refine S.drop 1 ?_;refine S.mv ?_;refine⟨L,by omega,.done ⟨(fD s).2,d++[(fD s).1],a6,v53,a2,aZ,a1,I,fun h=>by have:=zU h;omega,by omega,by simp;omega,rfl,Y,?_,by rw[cX];exact aW,by rw[cX];exact aX,.r rfl⟩⟩;rw[cX,cX];(try rfl)
  ·have aL:(decide (0<s.1.length)&&!s.2)=false:=by
    rw[show decide (0<s.1.length)=decide ((0:Int)<(s.1.length:Int))from decide_eq_decide.2 (by omega)];exact A
   rw[zT aL]at I;have Z:d=(idxOf x.load).1:=by rw[<-I]
   have ay:s.2=(idxOf x.load).2.2:=by rw[<-I]
   refine S.ld 3 ?_;refine S.cd 1 aC fun bZ bE hr=>?_;refine S.cd 1 aA fun bY aV hp=>?_;have hr:=hr.mono aV;refine S.call (zS (gen:=x.gen) hr hp (by simp;omega)) fun bL bV bg bC M=>?_;obtain⟨rfl,bH,rfl,ah⟩:=M;rw[Ks]at ah⊢;obtain⟨pi,ac⟩:∃pi,pi=gD x.gen d:=⟨_,rfl⟩
   rw[<-ac]at ah⊢;refine S.cd 0 ah fun bW aE M=>?_;have hr:=hr.mono aE;have hp:=hp.mono aE;refine S.mv ?_;refine S.ld 0 ?_;refine G.mv ?_;refine G.len ?_ (hl:=aa.len M);refine G.bin ?_;refine G.or ?_;refine G.mv ?_;refine G.aF (j:=0) M (z:=(pi[0]?).getD fA) (fun bG bk=>?_) (hj:=fun aw=>?_)
   rotate_left
   ·simp only[c3,cg,du]at aw;rw[bj (by simp at aw;omega)];(try rfl)
   refine G.bJ ?_;refine G.ag 1 ?_;refine G.bin ?_ (hv:=fun _=>nJ ((pi[0]?).getD fA) x);refine G.or ?_;refine C.B (fun D=>?_) fun D=>?_
   ·have e:dp x=none:=by
     unfold dp;rw[ae az,ab];rintro⟨o,aj⟩;rw[<-ay]at o;rw[<-Z,<-ac]at aj;rw[o,aj]at D;simp at D
    rw[e];exact⟨_,.t rfl (.t rfl (.t rfl .nil)),.none ⟨rfl,_,_,rfl,aa.nil _,aa.nil _⟩⟩
   ·have e:dp x=some d:=by
     unfold dp;rw[ae az,ae,<-Z];rw[<-ay,<-Z,<-ac];simp only[cg,du,aR]at D;obtain⟨⟨o,aj⟩,av⟩:=D;obtain⟨y,aS⟩:=List.length_eq_one_iff.1 (show pi.length=1 by omega);rw[aS]at av⊢;exact⟨o,by rw[<-av];(try rfl)⟩
    rw[e];exact⟨_,.t rfl (.t rfl (.t rfl .nil)),.none ⟨rfl,_,_,rfl,hr,hp⟩⟩
theorem zW {m:Nat} {s:cL} {d:List ah} (h:m=0\/s.2=true):jK m s d=(d,s):=by
 cases m with
 |zero=>rfl
 |succ m=>
         rcases h with h|h
         ·omega
         ·show(if s.2=true then _ else _)=_;rw[ae h]
theorem zX {m:Nat} {s:cL} {d:List ah} (h:s.2=false):jK (m+1) s d=jK m (fi s).2 (d++[(fi s).1]):=by
 show(if s.2=true then _ else _)=_;rw[ab (by rw[h];simp)]
theorem zY [Fx F] {a:Pa} {W:V} {s:cL} (ac:aa aU O W s.1) (aB:s.1.length<=1000000):
 ai F 149 [.ptr a 0] O [(some a,.cells [W,.bool s.2] false)] (fun r ψ R=>ψ=O/\∃w o,R=[(some a,.cells [w,.bool (gX s).2.2] false),aq.ob o (gX s).1]/\aa aU O w (gX s).2.1/\af aq r (gX s).1 o) never:=by
 refine ai.same (ar ?_);refine S.new aq ?_;refine S.ba 1 rfl (jf (s:=s) (n:=1) ac (by omega) (by omega)) fun aL Y av aJ Q=>?_;obtain⟨rfl,rfl,ao,rfl,Q⟩:=Q;have ae:=Kq s;have aE:=dh 1 s;refine SW.bF (fun m E ψ R=>∃(d:cL) (A:List ah) (w v:V) (o:Option Pa),jK m d A=gX s/\A.length+m<=255/\d.1.length<=1000000/\aa aU Y w d.1/\Y=ψ/\R=[(some a,.cells [w,.bool d.2] false),aq.ob o A]/\af aq v A o/\Sub [(0,.ptr a 0),(3,v),(4,.j (m:Int))] E) (m:=(rdNum 1 s).1.toNat) (.done ⟨(rdNum 1 s).2,[],ao,.no .sl,none,rfl,by simp;omega,by omega,Q,rfl,rfl,af.nil,.cons rfl (.cons rfl (.cons (by rw[Int.toNat_of_nonneg ae.1];(try rfl)) (.nil _)))⟩) ?_;intro U E ψ R aC ab;obtain⟨d,A,w,v,o,D,aA,aF,hw,rfl,rfl,ho,Z⟩:=ab;refine C.sub Z ?_;refine S.bin ?_;refine G.mv ?_;refine G.nil? ?_;refine G.aD ?_;refine G.ld 0 ?_;refine G.un ?_;refine G.and ?_;refine C.B (fun O3=>?_) fun O3=>?_
 ·simp only[be,c3,aR]at O3;obtain⟨I,rfl⟩:∃I,U=I+1:=⟨U-1,by omega⟩
  rw[zX O3.2]at D;have ay:=dh 2 d;have az:=dh 4 (rdNum 2 d).2;refine S.ba 0 rfl (jf (s:=d) (n:=2) hw (by omega) (by omega)) fun v20 aO ap aH L=>?_;obtain⟨rfl,rfl,aM,rfl,L⟩:=L;refine S.build ?_;refine S.alloc fun a5=>?_;refine S.store 0 ?_;refine S.ba 1 rfl (jf (s:=(rdNum 2 d).2) (n:=4) L (by omega) (by omega)) fun aK aP au aI M=>?_;obtain⟨rfl,rfl,an,rfl,M⟩:=M;refine S.store 1 ?_;refine S.ag 1 ?_;refine S.a8 fun aw=>?_;refine S.br (m:=[(fi d).1]) 3 ho (.lit 0) (by simp;omega) fun am al ak=>?_;refine S.drop 0 ?_;refine S.drop 1 ?_;refine S.mv ?_;refine S.bin ?_ (hv:=vI (j:=I+1) (by omega) (by omega));refine⟨I,by omega,.done ⟨(fi d).2,A++[(fi d).1],an,am,al,D,by simp;omega,(by show(rdNum 4 (rdNum 2 d).2).2.1.length<=_;omega),M,rfl,rfl,ak,.r rfl⟩⟩
 ·have aj:U=0\/d.2=true:=by
   cases h:d.2 with
   |true=>exact .inr rfl
   |false=>rw[h]at O3;simp at O3;exact .inl (by omega)
  rw[zW aj]at D;rw[<-D];exact⟨_,.t rfl .nil,.done ⟨w,o,rfl,hw,ho⟩⟩
theorem zZ [Fx F] {r:cK} {gen:Int} {ac:V} {p:List ah} (hp:aa aq O ac p):bm F 67 [.j gen,.agg [.j r.kind,.j r.id,.j r.cZ,.j r.base,.j r.done],ac] O (.agg (bu.f (ey gen r p))):=by
 refine ai.al (ar ?_);refine S.box fun a4=>?_;refine S.alloc fun ak=>?_;refine S.al (kc) ?_;refine S.un ?_;refine G.mv ?_;refine G.len ?_ (hl:=aa.len hp);refine G.bin ?_;refine G.or ?_;refine G.aD ?_;refine G.ld 1 ?_;refine G.bin ?_;refine G.or ?_;refine G.aD ?_;refine G.ld 1 ?_;refine G.bin ?_;refine G.or ?_;refine G.aD ?_;refine G.ld 1 ?_;refine G.al (fun _=>kc) ?_;refine G.un ?_;refine G.or ?_;refine G.aD ?_;refine G.ld 1 ?_;refine G.al (fun _=>kc) ?_;refine G.un ?_;refine G.or ?_;refine G.aD ?_;refine G.ld 1 ?_;refine G.al (fun _=>kc) ?_;refine G.un ?_;refine G.or ?_;refine G.aD ?_;refine G.ld 1 ?_;refine G.al (fun _=>kc) ?_;refine G.un ?_;refine G.or ?_;refine C.B (fun A=>?_) fun A=>?_
 ·have e:ey gen r p=fA:=by
   unfold ey;rw[ab];intro h;unfold kQ kO at h;simp only[be,aR]at h;obtain⟨⟨⟨⟨⟨⟨⟨o,aj⟩,aw⟩,an⟩,M⟩,Q⟩,U⟩,ao⟩:=h;rw[o,an,M,Q,U]at A;simp only[l5,jw,Bool.or_false,cx,aR]at A;omega
  rw[e];refine S.build ?_;refine S.store 0 ?_;exact⟨_,.cN 0 rfl rfl rfl rfl .nil,.none rfl⟩
 ·simp only[cg,du,bD]at A;obtain⟨⟨⟨⟨⟨⟨⟨o,aj⟩,aw⟩,an⟩,M⟩,Q⟩,U⟩,ao⟩:=A;have ap:kQ gen r p=p.all dI:=by
   unfold kQ kO;rw[o,M,Q,U,ao,decide_eq_true (show p.length<=6 by omega),decide_eq_true (show 0<=r.kind by omega),decide_eq_true (show r.kind<=255 by omega)];simp
  refine S.ld 1 ?_;refine S.ld 1 ?_;refine S.ld 1 ?_;refine S.ld 1 ?_;refine S.ld 1 ?_;refine S.a8 fun am=>?_;refine S.call (lN (n:=1) (x:=r.kind) (aa.nil _) (by omega) (by omega) (by simp)) fun bj bl aV bc ay=>?_;obtain⟨rfl,bh,rfl,aK⟩:=ay;refine S.e2 1 ?_;refine S.bE 3 ?_;refine S.bE 3 ?_;refine S.bE 3 ?_;refine S.bE 3 ?_;have aL:af bt (.sl am 0 4 (.ex 4)) [r.id,r.cZ,r.base,r.done] (some am):=af.new rfl;refine S.cd 1 aL fun aT aI az=>?_;have hp:=hp.mono aI;refine S.jL 0 aK (fun ψ l I=>tk (n:=4) I (az.mono l) (by omega) (by omega) (by simp[fz]) (by simp)) fun bk aW aA=>?_;obtain⟨bi,rfl,aM⟩:=aA;refine S.len ?_ (hl:=aa.len hp);refine S.jL 0 aM (fun ψ l I=>lN (n:=1) (x:=(p.length:Int)) I (by omega) (by omega) (by simp[fz,fW])) fun aQ aX aB=>?_;obtain⟨aO,rfl,Z⟩:=aB;rw[fo]at Z⊢;obtain⟨d,W⟩:∃d,d=le 1 r.kind++bo 4 [r.id,r.cZ,r.base,r.done]++le 1 (p.length:Int):=⟨_,rfl⟩
  rw[<-W]at Z⊢;have a6:d.length<=20:=by rw[W];simp[fz,fW]
  refine SW.loop (fun m E ψ R=>∃(j:Nat) (v:V) (ag:Option Pa),j+m=p.length/\(p.take j).all dI=true/\aT=ψ/\R=[aU.ob ag (d++cM (p.take j)),(some ak,.cells [.j 0,.j 0,.str []] false),(some a4,.cells [.j r.kind,.j r.id,.j r.cZ,.j r.base,.j r.done] false)]/\af aU v (d++cM (p.take j)) ag/\Sub [(0,.j gen),(2,ac),(6,.ptr ak 0),(7,v),(8,.j (j:Int))] E) (m:=p.length) ⟨0,aQ,aO,by omega,rfl,rfl,by rw[show cM (p.take 0)=[]from rfl,e9];(try rfl),by rw[show cM (p.take 0)=[]from rfl,e9];exact Z,.r rfl⟩ ?_;intro aJ E ψ R ba aH;obtain⟨j,v,ag,a7,Y,rfl,rfl,ho,aE⟩:=aH;refine C.sub aE ?_;refine S.len ?_ (hl:=aa.len hp);refine S.bin ?_;refine C.D (fun av=>?_) fun av=>?_
  ·have hj:j<p.length:=by omega
   have bb:(cM (p.take j)).length<=36:=by rw[re,cE];omega
   refine S.aF hp hj fun bd a1=>?_;refine S.bJ ?_;refine S.al (wc (p:=p[j])) ?_;refine S.un ?_;refine C.B (fun L=>?_) fun L=>?_
   ·have e:ey gen r p=fA:=by
     unfold ey;rw[ab];rw[ap];intro h;rw[eU]at h;rw[h _ (cw hj)]at L;cases L
    rw[e];refine S.build ?_;refine S.store 1 ?_;exact⟨_,.cN 1 rfl rfl rfl rfl .nil,.none rfl⟩
   ·refine S.aF hp hj fun bg a2=>?_;refine S.bJ ?_;refine S.jL 0 ho (fun ψ l I=>we (p:=p[j]) I (by simp;omega)) fun aS aZ aC=>?_;obtain⟨aP,rfl,au⟩:=aC;rw[bp,<-wa hj]at au⊢;refine S.bin ?_;refine⟨aJ-1,by omega,j+1,aS,aP,by omega,by rw[tl _ hj,Y];simpa using L,rfl,rfl,au,.r rfl⟩
  ·obtain rfl:j=p.length:=by omega
   rw[dT]at Y ho⊢;have e:ey gen r p=⟨3,gen,d++cM p⟩:=by unfold ey;rw[ae (by rw[ap,Y]),W]
   rw[e];refine S.hM 0 ho ?_;refine S.build ?_;refine S.store 1 ?_;exact⟨_,.cN 1 rfl rfl rfl rfl .nil,.none rfl⟩
theorem Ku [Fx F] {x:aT} (hx:x.load.length<=1000000):
 ai F 87 [.agg [.j x.kind,.j x.gen,.str x.load]] O [] (fun r ψ R=>R=[]/\∃U,r=.aN [.agg (df.f ((dJ x).getD (⟨0,0,0,0,0⟩,[])).1),U,.bool (dJ x).isSome]/\aa aq ψ U ((dJ x).getD (⟨0,0,0,0,0⟩,[])).2) never:=by
 have Y:=dh 1 (x.load,false);simp only at Y;have az:=dh 4 (rdNum 1 (x.load,false)).2;have aA:=dh 4 (rdNum 4 (rdNum 1 (x.load,false)).2).2;have aB:=dh 4 (rdNum 4 (rdNum 4 (rdNum 1 (x.load,false)).2).2).2;have aC:=dh 4 (rdNum 4 (rdNum 4 (rdNum 4 (rdNum 1 (x.load,false)).2).2).2).2;refine ar ?_;refine S.box fun au=>?_;refine S.alloc fun aw=>?_;refine S.ld 1 ?_;refine S.jH fun aQ bc aF M=>?_;have aZ:=M.ax;refine S.build ?_;refine S.box fun av=>?_;refine S.ba 0 rfl (jf (s:=(x.load,false)) (n:=1) M (by omega) (by exact hx)) fun aS bd ah aH h=>?_;obtain⟨rfl,rfl,a1,rfl,h⟩:=h;refine S.build ?_;refine S.alloc fun ay=>?_;refine S.store 0 ?_;refine S.ba 1 rfl (jf (s:=(rdNum 1 (x.load,false)).2) (n:=4) h (by omega) (by omega)) fun aU be ak aI A=>?_;obtain⟨rfl,rfl,a2,rfl,A⟩:=A;refine S.store 1 ?_;refine S.ba 0 rfl (jf (s:=(rdNum 4 (rdNum 1 (x.load,false)).2).2) (n:=4) A (by omega) (by omega)) fun v20 bg am aJ D=>?_;obtain⟨rfl,rfl,a6,rfl,D⟩:=D;refine S.store 1 ?_;refine S.ba 0 rfl (jf (s:=(rdNum 4 (rdNum 4 (rdNum 1 (x.load,false)).2).2).2) (n:=4) D (by omega) (by omega)) fun aV bh an aK I=>?_;obtain⟨rfl,rfl,a7,rfl,I⟩:=I;refine S.store 1 ?_;refine S.ba 0 rfl (jf (s:=(rdNum 4 (rdNum 4 (rdNum 4 (rdNum 1 (x.load,false)).2).2).2).2) (n:=4) I (by omega) (by omega)) fun aW bi ao aL L=>?_;obtain⟨rfl,rfl,a8,rfl,L⟩:=L;refine S.store 1 ?_;refine S.ba 0 rfl (zY (s:=(rdNum 4 (rdNum 4 (rdNum 4 (rdNum 4 (rdNum 1 (x.load,false)).2).2).2).2).2) L (by omega)) fun aX bj ap aM Q=>?_;obtain⟨rfl,bb,aP,rfl,Q,ac⟩:=Q;refine S.cd 1 ac fun bk aO hp=>?_;obtain⟨W,aE⟩:∃W,W=fj x.load:=⟨_,rfl⟩
 refine S.mv ?_;refine S.ld 3 ?_;refine S.bin ?_;refine G.mv ?_;refine G.nil? ?_;refine G.aD ?_;refine G.ld 0 ?_;refine G.or ?_;refine G.aD ?_;refine G.ld 3 ?_;refine G.ag 1 ?_;refine G.mv ?_;refine G.ag 3 ?_;refine G.al (fun _=>zZ (gen:=x.gen) (r:=(fj x.load).1) hp) ?_;refine G.dg 3 ?_;refine G.bin ?_ (hv:=fun _=>nJ (ey x.gen (fj x.load).1 (fj x.load).2.1) x);refine G.or ?_;refine C.B (fun d=>?_) fun d=>?_
 ·have e:dJ x=none:=by
   unfold dJ;rw[ab];rintro⟨o,aj,Z⟩;rw[o,Z]at d;change (!decide ((3:Int)=3)||(fj x.load).2.2.2||!decide (x=x))=true at d;rw[aj]at d;simp at d
  rw[e];refine S.build ?_;refine S.store 2 ?_;exact⟨_,.cN 2 rfl rfl rfl rfl (.t rfl (.t rfl .nil)),.none ⟨rfl,_,rfl,aa.nil _⟩⟩
 ·have e:dJ x=some ((fj x.load).1,(fj x.load).2.1):=by
   change (!decide (x.kind=3)||(fj x.load).2.2.2||!decide (ey x.gen (fj x.load).1 (fj x.load).2.1=x))=false at d;simp only[cg,du,aR]at d;unfold dJ;rw[ae ⟨d.1.1,d.1.2,d.2⟩]
  rw[e];refine S.ag 1 ?_;refine S.store 2 ?_;exact⟨_,.cN 2 rfl rfl rfl rfl (.t rfl (.t rfl .nil)),.none ⟨rfl,_,rfl,hp⟩⟩
theorem z1 [Fx F] {gen next id:Int} {W:V} {p:List ah} (hp:aa aq O W p):bm F 119 [.j gen,.j next,.j id,W] O (.agg (bu.f (eM gen next id p))):=by
 refine ai.al (ar ?_);refine S.alloc fun dL=>?_;refine S.al (kc) ?_;refine S.un ?_;refine G.mv ?_;refine G.al (fun _=>kc) ?_;refine G.un ?_;refine G.or ?_;refine G.mv ?_;refine G.al (fun _=>kc) ?_;refine G.un ?_;refine G.or ?_;refine G.mv ?_;refine G.len ?_ (hl:=aa.len hp);refine G.bin ?_;refine G.or ?_;refine C.B (fun OT=>?_) fun OT=>?_
 ·have e:eM gen next id p=fA:=by
   unfold eM;rw[ab];intro h;unfold kR at h;simp only[be,aR]at h;obtain⟨⟨⟨⟨o,aj⟩,I⟩,ao⟩,aL⟩:=h;rw[o,aj,I]at OT;simp only[l5,jw,aR]at OT;omega
  rw[e];refine S.build ?_;refine S.store 0 ?_;exact⟨_,.cN 0 rfl rfl rfl rfl .nil,.none rfl⟩
 ·simp only[cg,du,bD]at OT;obtain⟨⟨⟨o,aj⟩,I⟩,ao⟩:=OT;have Z:kR gen next id p=p.all dI:=by
   unfold kR;rw[o,aj,I,decide_eq_true (show p.length<=7 by omega)];simp
  refine S.pO (e:=bt) [next,id] fun aX a1 aw ak=>?_;have hp:=hp.mono aw;refine S.call (tk (n:=4) (aa.nil _) ak (by omega) (by omega) (by simp) (by simp)) fun aZ aD aE aS am=>?_;obtain⟨rfl,aW,rfl,az⟩:=am;refine S.len ?_ (hl:=aa.len hp);refine S.jL 0 az (fun ψ l Q=>lN (n:=1) (x:=(p.length:Int)) Q (by omega) (by omega) (by simp[fW])) fun aC aH an=>?_;obtain⟨aA,rfl,U⟩:=an;rw[fo]at U⊢;obtain⟨d,L⟩:∃d,d=bo 4 [next,id]++le 1 (p.length:Int):=⟨_,rfl⟩
  rw[<-L]at U⊢;have aM:d.length<=20:=by rw[L];simp[fz,fW]
  refine SW.loop (fun m E ψ R=>∃(j:Nat) (v:V) (Y:Option Pa),j+m=p.length/\(p.take j).all dI=true/\aD=ψ/\R=[aU.ob Y (d++cM (p.take j)),(some dL,.cells [.j 0,.j 0,.str []] false)]/\af aU v (d++cM (p.take j)) Y/\Sub [(0,.j gen),(3,W),(8,.ptr dL 0),(9,v),(10,.j (j:Int))] E) (m:=p.length) ⟨0,aC,aA,by omega,rfl,rfl,by rw[show cM (p.take 0)=[]from rfl,e9];(try rfl),by rw[show cM (p.take 0)=[]from rfl,e9];exact U,.r rfl⟩ ?_;intro ay E ψ R aP av;obtain⟨j,v,Y,aO,M,rfl,rfl,ho,au⟩:=av;refine C.sub au ?_;refine S.len ?_ (hl:=aa.len hp);refine S.bin ?_;refine C.D (fun ag=>?_) fun ag=>?_
  ·have hj:j<p.length:=by omega
   have aQ:(cM (p.take j)).length<=42:=by rw[re,cE];omega
   refine S.aF hp hj fun aT aJ=>?_;refine S.bJ ?_;refine S.al (wc (p:=p[j])) ?_;refine S.un ?_;refine C.B (fun A=>?_) fun A=>?_
   ·have e:eM gen next id p=fA:=by
     unfold eM;rw[ab];rw[Z];intro h;rw[eU]at h;rw[h _ (cw hj)]at A;cases A
    rw[e];refine S.build ?_;refine S.store 1 ?_;exact⟨_,.cN 1 rfl rfl rfl rfl .nil,.none rfl⟩
   ·refine S.aF hp hj fun aV aK=>?_;refine S.bJ ?_;refine S.jL 0 ho (fun ψ l Q=>we (p:=p[j]) Q (by simp;omega)) fun v55 aI ap=>?_;obtain⟨aB,rfl,ac⟩:=ap;rw[bp,<-wa hj]at ac⊢;refine S.bin ?_;refine⟨ay-1,by omega,j+1,v55,aB,by omega,by rw[tl _ hj,M];simpa using A,rfl,rfl,ac,.r rfl⟩
  ·obtain rfl:j=p.length:=by omega
   rw[dT]at M ho⊢;have e:eM gen next id p=⟨4,gen,d++cM p⟩:=by unfold eM;rw[ae (by rw[Z,M]),L]
   rw[e];refine S.hM 0 ho ?_;refine S.build ?_;refine S.store 1 ?_;exact⟨_,.cN 1 rfl rfl rfl rfl .nil,.none rfl⟩
theorem z6 [Fx F] {x:aT} (hx:x.load.length<=1000000):
 ai F 86 [.agg [.j x.kind,.j x.gen,.str x.load]] O [] (fun r ψ R=>R=[]/\∃L,r=.aN [.j ((c0 x).getD (0,0,[])).1,.j ((c0 x).getD (0,0,[])).2.1,L,.bool (c0 x).isSome]/\aa aq ψ L ((c0 x).getD (0,0,[])).2.2) never:=by
 have M:=dh 4 (x.load,false);simp only at M;have ak:=dh 4 (rdNum 4 (x.load,false)).2;refine ar ?_;refine S.box fun ac=>?_;refine S.ld 0 ?_;refine S.jH fun aw aF am D=>?_;have aA:=D.ax;refine S.build ?_;refine S.box fun ah=>?_;refine S.ba 0 rfl (jf (s:=(x.load,false)) (n:=4) D (by omega) (by exact hx)) fun ay aH W an h=>?_;obtain⟨rfl,rfl,aB,rfl,h⟩:=h;refine S.ba 0 rfl (jf (s:=(rdNum 4 (x.load,false)).2) (n:=4) h (by omega) (by omega)) fun az aI Y ao A=>?_;obtain⟨rfl,rfl,aC,rfl,A⟩:=A;refine S.ba 0 rfl (zY (s:=(rdNum 4 (rdNum 4 (x.load,false)).2).2) A (by omega)) fun v20 aJ Z ap I=>?_;obtain⟨rfl,aE,av,rfl,I,U⟩:=I;refine S.cd 1 U fun aK au hp=>?_;refine S.mv ?_;refine S.ld 1 ?_;refine S.bin ?_;refine G.mv ?_;refine G.nil? ?_;refine G.aD ?_;refine G.ld 0 ?_;refine G.or ?_;refine G.aD ?_;refine G.ld 1 ?_;refine G.mv ?_;refine G.mv ?_;refine G.mv ?_;refine G.ag 1 ?_;refine G.al (fun _=>z1 (gen:=x.gen) (next:=(dC x.load).1) (id:=(dC x.load).2.1) hp) ?_;refine G.dg 1 ?_;refine G.bin ?_ (hv:=fun _=>nJ (eM x.gen (dC x.load).1 (dC x.load).2.1 (dC x.load).2.2.1) x);refine G.or ?_;refine C.B (fun d=>?_) fun d=>?_
 ·have e:c0 x=none:=by
   unfold c0;rw[ab];rintro⟨o,aj,Q⟩;rw[o,Q]at d;change (!decide ((4:Int)=4)||(dC x.load).2.2.2.2||!decide (x=x))=true at d;rw[aj]at d;simp at d
  rw[e];exact⟨_,.t rfl (.t rfl (.t rfl (.t rfl .nil))),.none ⟨rfl,_,rfl,aa.nil _⟩⟩
 ·have e:c0 x=some ((dC x.load).1,(dC x.load).2.1,(dC x.load).2.2.1):=by
   change (!decide (x.kind=4)||(dC x.load).2.2.2.2||!decide (eM x.gen (dC x.load).1 (dC x.load).2.1 (dC x.load).2.2.1=x))=false at d;simp only[cg,du,aR]at d;unfold c0;rw[ae ⟨d.1.1,d.1.2,d.2⟩]
  rw[e];exact⟨_,.t rfl (.t rfl (.t rfl (.t rfl .nil))),.none ⟨rfl,_,rfl,hp⟩⟩
end Go.Ev
namespace Go.Ev
theorem Kv {s:Bs} {x:aT} (h:er s=some x):x.load.length<=55:=by
 unfold er at h;split at h
 ·split at h
  ·rename_i o aj;cases h;unfold lM;simp only[cE];omega
  ·cases h
 ·cases h
theorem kd {d:au} {a g:Int} {x:aT} (h:bP d a g=some x):x.load.length<=55:=by
 unfold bP at h;split at h
 ·split at h
  ·cases h
  ·rename_i o y aj;split at h
   ·cases h
   ·cases h;exact Kv aj
 ·cases h
theorem z7:∀(f:Nat) (s:cL) (d:List bO),(ka f s d).1.length<=d.length+f
 |0,_,_=>aB _
 |f+1,s,d=>by
  simp only[ka];split
  ·have:=z7 f (fD s).2 (d++[(fD s).1]);simp at this;omega
  ·show d.length<=_;omega
theorem z8 {x:aT} {l:List bO} (h:dp x=some l):l.length<=x.load.length:=by
 unfold dp at h;split at h
 ·split at h
  ·cases h;have:=z7 x.load.length (x.load,false) [];simpa[idxOf]using this
  ·cases h
 ·cases h
theorem Aa {x:aT} {r:bA} (h:eh x=some r):r.load.length<=x.load.length:=by
 unfold eh at h;split at h
 ·split at h
  ·cases h;show(x.load.drop 2).length<=_;rw[bW];omega
  ·cases h
 ·cases h
theorem wh {x:aT} {r:cK} {p:List ah} (h:dJ x=some (r,p)):p.length<=6:=by
 unfold dJ at h;split at h
 ·rename_i o;cases h;by_cases hr:kQ x.gen (fj x.load).1 (fj x.load).2.1=true
  ·unfold kQ at hr;simp only[be,aR]at hr;exact hr.1.1.1.1.1.1.2
  ·have d:=o.2.2;unfold ey at d;rw[ab hr]at d;have:=o.1;rw[<-d]at this;cases this
 ·cases h
theorem rh {x:aT} {n i:Int} {p:List ah} (h:c0 x=some (n,i,p)):p.length<=7:=by
 unfold c0 at h;split at h
 ·rename_i o;cases h;by_cases hr:kR x.gen (dC x.load).1 (dC x.load).2.1 (dC x.load).2.2.1=true
  ·unfold kR at hr;simp only[be,aR]at hr;exact hr.1.2
  ·have d:=o.2.2;unfold eM at d;rw[ab hr]at d;have:=o.1;rw[<-d]at this;cases this
 ·cases h
theorem Ab {d:au}:∀{l:List bO} {A r:List bA},kb d l A=some r->r.length=A.length+l.length/\((∀x∈A,x.load.length<=55)->∀x∈r,x.load.length<=55)
 |[],A,r,h=>by cases h;exact⟨rfl,id⟩
 |i::l,A,r,h=>by
  simp only[kb]at h;split at h
  ·cases h
  ·rename_i x hx;split at h
   ·cases h
   ·obtain⟨o,aj⟩:=Ab h;refine⟨by rw[o];simp;omega,fun ha=>aj fun y j=>?_⟩;rw[fK]at j;rcases j with j|j
    ·exact ha y j
    ·obtain rfl:=hB.1 j;obtain⟨b,B,D⟩:=gf.1 hx;have:=Aa D;have:=kd B;omega
theorem wi {d:au}:∀{q:List ah} {an j:List bO} {rs d0:List bA},eN d q an rs=some (j,d0)->j.length<=an.length+55*q.length/\d0.length<=rs.length+55*q.length/\((∀x∈rs,x.load.length<=55)->∀x∈d0,x.load.length<=55)
 |[],an,j,rs,d0,h=>by cases h;exact⟨aB _,aB _,id⟩
 |p::q,an,j,rs,d0,h=>by
  simp only[eN]at h;split at h
  ·cases h
  ·rename_i l hl;split at h
   ·cases h
   ·rename_i I F;obtain⟨o,aj,A⟩:=wi h;obtain⟨G,k2⟩:=Ab F;obtain⟨b,B,D⟩:=gf.1 hl;have:=z8 D;have:=kd B;rw[c2]at o;rw[b7];exact⟨by omega,by omega,fun ha=>A (k2 ha)⟩
theorem Ac {d:au} {p:ah} {x:gY} {l:List ah} (h:lR d p=some (x,l)):l.length<=336:=by
 unfold lR at h;split at h
 ·cases h
 ·rename_i r q hq;split at h
  ·cases h
  ·rename_i an cP hr;split at h
   ·cases h
   ·cases h;obtain⟨b,A,j⟩:=gf.1 hq;have o:=wh j;have aj:=(wi hr).1;simp only[c2,hS,na]at*;omega
theorem Ad {d:au}:∀{l:List ah} {s s':jh},iy d l s=some s'->s'.all.length<=s.all.length+336*l.length/\s'.trees.length=s.trees.length+l.length
 |[],s,s',h=>by cases h;exact⟨aB _,rfl⟩
 |p::r,s,s',h=>by
  simp only[iy]at h;split at h
  ·cases h
  ·rename_i x l hx;obtain⟨o,aj⟩:=Ad h;have j:=Ac hx;simp only[c2,b7,na]at*;exact⟨by omega,by omega⟩
theorem Ae {d:au} {sum:Int} {s:jh} (h:look d sum=some s):s.all.length<=2360/\s.trees.length<=7:=by
 unfold look at h;split at h
 ·cases h
 ·split at h
  ·cases h
  ·rename_i x hx n i p hp;have o:=rh hp;obtain⟨aj,j⟩:=Ad h;simp only[b7,na]at aj j;omega
theorem Af (p:ah) (l:List ah):(cW p l).length<=l.length+1:=by
 induction l with
 |nil=>simp[cW]
 |cons a l d=>
              simp only[cW];split
              ·simp
              ·split<;>simp;omega
def Ag:jh:=⟨0,0,[],[]⟩
abbrev SV:={v:V//isScalar v=true}
def bN:bG SV:=⟨1,fun v=>[v.1],fun _=>rfl,fun v=>by simp[aY,v.2]⟩
def NR {U:Type} (e:bG U) (O:Fz) (vs:List SV) (ls:List (List U)):Prop:=vs.length=ls.length/\∀(i:Nat) (v:SV) (l:List U),vs[i]? =some v->ls[i]? =some l->aa e O v.1 l
section
variable{U:Type} {e:bG U} {O ψ:Fz} {vs:List SV} {ls:List (List U)}
theorem NR.mono (h:NR e O vs ls) (d:O.Le ψ):NR e ψ vs ls:=⟨h.1,fun i v l o aj=>(h.2 i v l o aj).mono d⟩
theorem NR.nil (O:Fz):NR e O [] ([]:List (List U)):=⟨rfl,fun i v l o _=>by simp at o⟩
theorem NR.snoc (h:NR e O vs ls) {v:V} {l:List U} (hv:aa e O v l):NR e O (vs++[⟨v,hv.ax⟩]) (ls++[l]):=by
 refine⟨by simp[h.1],fun i w m o aj=>?_⟩;by_cases hi:i<vs.length
 ·rw[dt hi]at o;rw[dt (by rw[<-h.1];exact hi)]at aj;exact h.2 i w m o aj
 ·rw[db (by omega)]at o;rw[db (by rw[<-h.1];omega)]at aj;have hz:i-vs.length=0:=by
   cases hk:i-vs.length with
   |zero=>rfl
   |succ k=>rw[hk]at o;simp at o
  rw[hz]at o;rw[<-h.1,hz]at aj;simp at o aj;subst o;subst aj;exact hv
theorem NR.at (h:NR e O vs ls) {i:Nat} (hi:i<vs.length) (hj:i<ls.length):aa e O (vs[i]).1 ls[i]:=h.2 i _ _ (bj hi) (bj hj)
end
theorem OV.same {v:V} {k n:Nat} {cs:List V} {s:Option Pa} (h:OV v k n cs s):Go.Ev.same v v=true:=by
 rcases h.2.2 with⟨rfl,_⟩|⟨a,rfl,_⟩|⟨a,rfl,_⟩
 ·rfl
 ·show((a.beq a&&Nat.beq 0 0)&&(Nat.beq n n&&Nat.beq k k))=true;rw[dU n,dU k,(Pa.beq_iff a a).2 rfl];(try rfl)
 ·show((a.beq a&&Nat.beq 0 0)&&(Nat.beq n n&&Nat.beq n n))=true;rw[dU n,(Pa.beq_iff a a).2 rfl];(try rfl)
theorem af.same {U:Type} {e:bG U} {v:V} {l:List U} {s:Option Pa} (h:af e v l s):Go.Ev.same v v=true:=OV.same h
theorem aa.same {U:Type} {e:bG U} {O:Fz} {v:V} {l:List U} (h:aa e O v l):Go.Ev.same v v=true:=FS.same h
theorem aa.b9 {U:Type} {e:bG U} {O:Fz} {v:V} {l:List U} (h:aa e O v l):Go.Ev.b9 [v] [v]=true:=by
 have o:c7 v v=true:=by
  have:=FS.same h;have hs:=h.ax;cases v<;>first|exact this|(simp[isScalar]at hs)
 show(bif c7 v v then true else false)=true;rw[o];(try rfl)
def mI (O:Fz) (cs:List V) (s:jh):Prop:=∃v2 v3 v4 v5 o d h j,cs=[.int .i64 s.next,.int .i64 s.id,v2,v3,v4,v5,o]/\aa df O v2 (s.trees.map (·.root))/\aa bN O v3 d/\NR bq O d (s.trees.map (fun t=>t.an.map (·.1)))/\aa bN O v4 h/\NR aq O h (s.trees.map (fun t=>t.an.map (·.2)))/\aa bN O v5 j/\NR aG O j (s.trees.map (·.tree))/\aa aq O o s.all
theorem mI.no (O:Fz):mI O [.int .i64 0,.int .i64 0,.no .sl,.no .sl,.no .sl,.no .sl,.no .sl] Ag:=⟨_,_,_,_,_,[],[],[],rfl,aa.nil _,aa.nil _,NR.nil _,aa.nil _,NR.nil _,aa.nil _,NR.nil _,aa.nil _⟩
end Go.Ev
namespace Go.Ev
variable{F:Nat->Option aP} {O:Fz}
theorem Kw [Fx F] {G v2:V} {a b:List bA} (o:aa bq O G a) (aj:aa bq O v2 b) (hlen:a.length<=1000000000):bm F 85 [G,v2] O (.bool (decide (a=b))):=by
 refine ai.al (ar ?_);refine S.len ?_ (hl:=aa.len o);refine S.len ?_ (hl:=aa.len aj);refine S.bin ?_;refine C.B (fun OU=>?_) fun OU=>?_
 ·have A:decide (a=b)=false:=by
   rw[bD];intro e;subst e;simp at OU
  rw[A];refine⟨_,.t rfl .nil,.done ?_⟩;rfl
 ·have hl:a.length=b.length:=by simp at OU;omega
  refine SW.loop (fun m E ψ R=>∃j:Nat,j+m=a.length/\((a=b)↔(a.drop j=b.drop j))/\O=ψ/\R=[]/\Sub [(0,G),(1,v2),(5,.j (j:Int))] E) (m:=a.length) ⟨0,by omega,Iff.rfl,rfl,rfl,.r rfl⟩ ?_;intro Q E ψ R Y M;obtain⟨j,hm,d,rfl,rfl,L⟩:=M;refine C.sub L ?_;refine S.len ?_ (hl:=aa.len o);refine S.bin ?_;refine C.D (fun O0=>?_) fun O0=>?_
  ·have hj:j<a.length:=by omega
   have I:j<b.length:=by omega
   rw[pS hj I]at d;refine S.aF o hj fun Z U=>?_;refine S.bJ ?_;refine S.aF aj I fun ab W=>?_;refine S.bJ ?_;refine S.bin ?_ (hv:=zP a[j] b[j]);refine C.B (fun OW=>?_) fun OW=>?_
   ·have A:decide (a=b)=false:=by
     rw[bD,d];simp at OW;exact fun h=>OW h.1
    rw[A];refine⟨_,.t rfl .nil,.done ?_⟩;rfl
   ·have he:a[j]=b[j]:=by simpa using OW
    refine S.bin ?_;exact⟨Q-1,by omega,j+1,by omega,by rw[d];exact and_iff_right he,rfl,rfl,.r rfl⟩
  ·obtain rfl:j=a.length:=by omega
   have he:decide (a=b)=true:=by
    rw[aR,d,b6,hl,b6]
   rw[he];refine⟨_,.t rfl .nil,.done ?_⟩;rfl
theorem Kx [Fx F] {G v2:V} {a b:List ah} (o:aa aq O G a) (aj:aa aq O v2 b) (hlen:a.length<=1000000000):bm F 18 [G,v2] O (.bool (decide (a=b))):=by
 refine ai.al (ar ?_);refine S.len ?_ (hl:=aa.len o);refine S.len ?_ (hl:=aa.len aj);refine S.bin ?_;refine C.B (fun OU=>?_) fun OU=>?_
 ·have A:decide (a=b)=false:=by
   rw[bD];intro e;subst e;simp at OU
  rw[A];refine⟨_,.t rfl .nil,.done ?_⟩;rfl
 ·have hl:a.length=b.length:=by simp at OU;omega
  refine SW.loop (fun m E ψ R=>∃j:Nat,j+m=a.length/\((a=b)↔(a.drop j=b.drop j))/\O=ψ/\R=[]/\Sub [(0,G),(1,v2),(5,.j (j:Int))] E) (m:=a.length) ⟨0,by omega,Iff.rfl,rfl,rfl,.r rfl⟩ ?_;intro Q E ψ R Y M;obtain⟨j,hm,d,rfl,rfl,L⟩:=M;refine C.sub L ?_;refine S.len ?_ (hl:=aa.len o);refine S.bin ?_;refine C.D (fun O0=>?_) fun O0=>?_
  ·have hj:j<a.length:=by omega
   have I:j<b.length:=by omega
   rw[pS hj I]at d;refine S.aF o hj fun Z U=>?_;refine S.bJ ?_;refine S.aF aj I fun ab W=>?_;refine S.bJ ?_;refine S.bin ?_ (hv:=v8 a[j] b[j]);refine C.B (fun OW=>?_) fun OW=>?_
   ·have A:decide (a=b)=false:=by
     rw[bD,d];simp at OW;exact fun h=>OW h.1
    rw[A];refine⟨_,.t rfl .nil,.done ?_⟩;rfl
   ·have he:a[j]=b[j]:=by simpa using OW
    refine S.bin ?_;exact⟨Q-1,by omega,j+1,by omega,by rw[d];exact and_iff_right he,rfl,rfl,.r rfl⟩
  ·obtain rfl:j=a.length:=by omega
   have he:decide (a=b)=true:=by
    rw[aR,d,b6,hl,b6]
   rw[he];refine⟨_,.t rfl .nil,.done ?_⟩;rfl
theorem Ah {ino:Int} {f:Nat} {idx:Int} {b:Bs} (h:b≠[]):ix ino (f+1) idx b=⟨ino,idx,b.take 40⟩::ix ino f (idx+1) (b.drop 40):=by
 show(if b=[]then _ else _)=_;rw[ab h]
theorem Ai {ino:Int} {f:Nat} {idx:Int}:ix ino f idx []=[]:=by cases f<;>rfl
theorem Aj [Fx F] {G:V} {t:ao} (ht:aa aG O G t) (Q:bI t):
 ai F 13 [G] O [] (fun r ψ R=>R=[]/\aa bq ψ r (b3 t)) never:=by
 have aC:=Q.1;refine ar ?_;refine S.al (tm ht Q) ?_;refine S.un ?_;refine C.B (fun O7=>?_) fun O7=>?_
 ·have e:b3 t=[]:=by unfold b3;rw[ab];intro h;rw[h]at O7;cases O7
  rw[e];exact⟨_,.t rfl .nil,.none ⟨rfl,aa.nil _⟩⟩
 ·have e:b3 t=fE 1 t:=by unfold b3;rw[ae];simpa using O7
  rw[e];refine SW.new bq ?_;refine SW.bF (fun m E ψ R=>∃(j:Nat) (out:List bA) (v:V) (s:Option Pa),j+m=t.length/\out++fE ((j:Int)+1) (t.drop j)=fE 1 t/\out.length<=200000*j/\O=ψ/\R=[bq.ob s out]/\af bq v out s/\Sub [(0,G),(3,v),(4,.j (j:Int))] E) (m:=t.length) (.done ⟨0,[],.no .sl,none,by omega,rfl,by simp,rfl,rfl,af.nil,.r rfl⟩) ?_;intro ac E ψ R am M;obtain⟨j,out,v,s,aD,d,aI,rfl,rfl,ho,L⟩:=M;refine C.sub L ?_;refine S.len ?_ (hl:=aa.len ht);refine S.bin ?_;refine C.D (fun O6=>?_) fun O6=>?_
  ·have hj:j<t.length:=by omega
   obtain⟨n,hn⟩:∃n,n=t[j]:=⟨_,rfl⟩
   have aE:n.body.length<=100000:=by rw[hn];exact Q.2 _ (cw hj)
   rw[bQ hj,<-hn]at d;simp only[fE]at d;refine S.aF ht hj fun aK aj=>?_;rw[<-hn]at aj;refine S.bJ ?_;refine S.alloc fun a5=>?_;refine S.store 0 ?_;refine S.ld 0 ?_;refine S.bin ?_;refine C.D (fun O2=>?_) fun O2=>?_
   ·refine S.bin ?_;have I:jg ((j:Int)+1) n=[]:=by unfold jg;exact ae O2
    rw[I,fo]at d;exact⟨ac-1,by omega,.drop 0 (.done ⟨j+1,out,v,s,by omega,d,by omega,rfl,rfl,ho,.r rfl⟩)⟩
   ·have I:jg ((j:Int)+1) n=⟨(j:Int)+1,0,[bM n.kind,bM n.mode,bM n.body.length]⟩::ix ((j:Int)+1) n.body.length 1 n.body:=by unfold jg;exact ab O2
    rw[I]at d;refine S.bin ?_;refine S.ld 0 ?_;refine S.mH ?_;refine S.ld 0 ?_;refine S.mH ?_;refine S.ld 0 ?_;refine S.cb ?_;refine S.mH ?_;refine S.a8 fun W=>?_;have ap:af aU (.sl W 0 3 (.ex 3)) [bM n.kind,bM n.mode,bM n.body.length] (some W):=af.new rfl;refine S.hM 0 ap ?_;refine S.drop 0 ?_;refine S.build ?_;refine S.a8 fun a39=>?_;refine S.br (m:=[⟨(j:Int)+1,0,[bM n.kind,bM n.mode,bM n.body.length]⟩]) 2 ho (.lit 0) (by simp;omega) fun aA ay au=>?_;refine S.drop 0 ?_;refine S.mv ?_;refine SW.bF (fun m E ψ R=>∃(q:Nat) (o:List bA) (v:V) (s:Option Pa),o++(ix ((j:Int)+1) m ((q:Int)+1) (n.body.drop (40*q))++fE ((j:Int)+1+1) (t.drop (j+1)))=fE 1 t/\(n.body.drop (40*q)).length<=m/\40*q<=n.body.length+40/\o.length+m<=200000*j+1+n.body.length/\O=ψ/\R=[(some a5,.cells [.j n.kind,.j n.mode,.str n.body] false),bq.ob s o]/\af bq v o s/\Sub [(0,G),(3,v),(4,.j (j:Int)),(5,.ptr a5 0),(6,.j ((40*q:Nat):Int))] E) (m:=n.body.length) (.done ⟨0,_,aA,ay,by rw[<-d,bp];(try rfl),by simp,by omega,by simp;omega,rfl,rfl,au,.r rfl⟩) ?_;intro ag E ψ R am M;obtain⟨q,o,v2,aw,A,Y,aJ,aH,rfl,rfl,Z,L⟩:=M;refine C.sub L ?_;refine S.ld 0 ?_;refine S.cb ?_;refine S.bin ?_;refine C.D (fun ah=>?_) fun ah=>?_
    ·have hq:40*q<n.body.length:=by omega
     obtain⟨U,rfl⟩:∃U,ag=U+1:=⟨ag-1,by rw[bW]at Y;omega⟩
     rw[Ah (by intro h;rw[List.drop_eq_nil_iff]at h;omega),nY]at A;refine S.bin ?_;refine S.bin ?_ (hv:=ra (a:=40*q) (m:=40) (by omega) (by omega));rw[Nat.mul_div_cancel_left q (by omega)];refine S.bin ?_;refine S.ld 0 ?_;refine S.bin ?_ (v:=.j ((40*q+40:Nat):Int)) (hv:=by rw[dz (by omega) (by omega)];(try rfl));refine S.ld 0 ?_;refine S.cb ?_;refine S.kH (qU (40*q+40) n.body.length) ?_;refine S.gO (tf (s:=n.body) (i:=40*q) (j:=min (40*q+40) n.body.length) (by omega) (by omega)) ?_;have an:(n.body.drop (40*q)).take (min (40*q+40) n.body.length-40*q)=(n.body.drop (40*q)).take 40:=by
      rw[List.take_eq_take_iff,bW];omega
     rw[an];refine S.build ?_;refine S.a8 fun aB=>?_;refine S.br (m:=[⟨(j:Int)+1,(q:Int)+1,(n.body.drop (40*q)).take 40⟩]) 2 Z (.lit 0) (by simp;omega) fun v66 az av=>?_;refine S.drop 0 ?_;refine S.mv ?_;refine S.bin ?_ (v:=.j ((40*(q+1):Nat):Int)) (hv:=by rw[dz (by omega) (by omega)];(try rfl));refine⟨U,by omega,.done ⟨q+1,_,v66,az,by rw[<-A,bp];(try rfl),by rw[bW]at Y⊢;omega,by omega,by simp;omega,rfl,rfl,av,.r rfl⟩⟩
    ·rw[p8 (by omega),Ai,fo]at A;refine S.bin ?_;exact⟨ac-1,by omega,.drop 0 (.done ⟨j+1,o,v2,aw,by omega,A,by omega,rfl,rfl,Z,.r rfl⟩)⟩
  ·obtain rfl:j=t.length:=by omega
   rw[b6]at d;simp only[fE,e9]at d;rw[d]at ho⊢;exact⟨_,.t rfl .nil,.bL 0 rfl ho fun ψ l ak=>.done ⟨rfl,ak⟩⟩
theorem pW {t:ao} {x:Int} {i:Nat} (h:x-1=(i:Int)) (n:cj):eL t x n=t.set i n:=by
 unfold eL;rw[h];(try rfl)
theorem ri {t:ao} {x:Int} {i:Nat} (h:x-1=(i:Int)) (hi:i<t.length):nodeAt t x=t[i]:=by
 obtain⟨j,o,aj,d⟩:=qZ (t:=t) (x:=x) (by omega) (by omega);obtain rfl:j=i:=by omega
 exact d
theorem Ak {t:ao} {i:Nat} {n:cj} {k:Nat} (d:∀x∈t,x.body.length<=k) (hn:n.body.length<=k):∀x∈t.set i n,x.body.length<=k:=fun x hx=>by
 rcases o5 hx with h|h
 ·exact d x h
 ·rw[h];exact hn
theorem Am (ino:Int):∀(f:Nat) (idx:Int) (b:Bs),(ix ino f idx b).length<=f
 |0,_,_=>aB _
 |f+1,idx,b=>by
  simp only[ix];split
  ·simp
  ·have:=Am ino f (idx+1) (b.drop 40);simp;omega
theorem An:∀(i:Int) (l:List cj),(∀n∈l,n.body.length<=100000)->(fE i l).length<=100001*l.length
 |_,[],_=>aB _
 |i,n::r,h=>by
  have o:=An (i+1) r (fun x hx=>h x (cR _ hx));have aj:=h n (dc);have d:(jg i n).length<=1+n.body.length:=by
   unfold jg;split
   ·simp
   ·have:=Am i n.body.length 1 n.body;simp;omega
  simp only[fE,c2,b7];omega
theorem Ky {t:ao} (d:bI t):(b3 t).length<=1000000000:=by
 unfold b3;split
 ·have:=An 1 t d.2;have:=d.1;omega
 ·simp
theorem Kz [Fx F] {ah:V} {l:List bA} (hl:aa bq O ah l) (hlen:l.length<=1000) (ag:∀r∈l,r.load.length<=60):
 ai F 89 [ah] O [] (fun r ψ R=>R=[]/\∃am,r=.aN [am,.bool (ei l).isSome]/\aa aG ψ am ((ei l).getD [])) never:=by
 refine ar ?_;refine S.oE (e:=aG) ef (n:=9) (by omega) (by omega) fun I aO=>?_;refine SW.bF (fun m E ψ R=>∃(j:Nat) (t:ao),j+m=l.length/\hQ (List.replicate 9 ef) l=hQ t (l.drop j)/\t.length=9/\(∀x∈t,x.body.length<=60*j)/\O=ψ/\R=[aG.ob (some I) t]/\Sub [(0,ah),(4,.sl I 0 9 (.ex 9)),(5,.j (j:Int))] E) (m:=l.length) (.done ⟨0,List.replicate 9 ef,by omega,rfl,by simp,fun x hx=>by rw[mZ hx];simp[ef],rfl,rfl,.r rfl⟩) ?_;intro ak E ψ R aK aA;obtain⟨j,t,aJ,d,Y,W,rfl,rfl,az⟩:=aA;refine C.sub az ?_;refine S.len ?_ (hl:=aa.len hl);refine S.bin ?_;refine C.D (fun Pg=>?_) fun Pg=>?_
 ·have hj:j<l.length:=by omega
  obtain⟨r,hr⟩:∃r,r=l[j]:=⟨_,rfl⟩
  have aL:r.load.length<=60:=by rw[hr];exact ag _ (cw hj)
  rw[bQ hj,<-hr]at d;have Q:af aG (.sl I 0 9 (.ex 9)) t (some I):=af.new Y;refine S.aF hl hj fun aP an=>?_;rw[<-hr]at an;refine S.bJ ?_;refine S.alloc fun aE=>?_;refine S.store 0 ?_;refine S.ld 0 ?_;refine S.bin ?_;refine G.aD ?_;refine G.ld 0 ?_;refine G.bin ?_;refine G.or ?_;refine C.B (fun OW=>?_) fun OW=>?_
  ·simp only[cx,aR]at OW;have L:ez t r=none:=by unfold ez;rw[ae (by omega)]
   have e:ei l=none:=by
    unfold ei;rw[d];simp only[hQ];rw[L]
   rw[e];exact⟨_,.t rfl (.t rfl .nil),.none ⟨rfl,_,rfl,aa.nil _⟩⟩
  ·simp only[cg,bD]at OW;obtain⟨i,hi⟩:∃i:Nat,r.ino-1=(i:Int):=⟨(r.ino-1).toNat,by omega⟩
   have A:i<t.length:=by omega
   refine S.ld 0 ?_;refine S.bin ?_;refine C.D (fun OT=>?_) fun OT=>?_
   ·refine S.ld 0 ?_;refine S.cb ?_;refine S.bin ?_;refine C.B (fun Z=>?_) fun Z=>?_
    ·have L:ez t r=none:=by unfold ez;rw[ab (by omega),ae OT,ab (by simp at Z;omega)]
     have e:ei l=none:=by
      unfold ei;rw[d];simp only[hQ];rw[L]
     rw[e];exact⟨_,.t rfl (.t rfl .nil),.none ⟨rfl,_,rfl,aa.nil _⟩⟩
    ·have aB:r.load.length=3:=by simp at Z;omega
     have h0:r.load[0]? =some r.load[0]:=bj (by omega);have o:r.load[1]? =some r.load[1]:=bj (by omega);have L:ez t r=some (t.set i {t[i]with kind:=(r.load[0]).toNat,mode:=(r.load[1]).toNat}):=by
      unfold ez;rw[ab (by omega),ae OT,ae aB,pW hi,ri hi A,h0,o];(try rfl)
     simp only[hQ]at d;rw[L]at d;simp only at d;refine S.ld 0 ?_;refine S.bin ?_ (v:=.j (i:Int)) (hv:=by rw[fU (by omega) (by omega),hi]);refine S.ld 0 ?_;refine S.bin ?_ (v:=.j (i:Int)) (hv:=by rw[fU (by omega) (by omega),hi]);refine S.ld 0 ?_;refine S.gy h0 ?_;refine S.iY ?_;refine S.ld 0 ?_;refine S.gy o ?_;refine S.iY ?_;refine S.ct Q A fun aC ap=>?_;cases ap;refine S.aD ?_;refine S.pM (e:=aG) (l:=t) (j:=i) {t[i]with kind:=(r.load[0]).toNat} 0 1 ?_;refine S.zN (b:=r.load[1]) ?_;refine S.bE 0 ?_;refine S.bE 0 ?_;refine S.ct (Q.set i {t[i]with kind:=(r.load[0]).toNat}) (by simpa using A) fun a51 au=>?_;cases au;refine S.aD ?_;refine S.pM (e:=aG) (l:=t.set i {t[i]with kind:=(r.load[0]).toNat}) (j:=i) {t[i]with kind:=(r.load[0]).toNat,mode:=(r.load[1]).toNat} 1 1 ?_ (hj:=by simpa using A) (hu:=by rw[ua];(try rfl));refine S.bin ?_;exact⟨ak-1,by omega,.drop 0 (.done ⟨j+1,_,by omega,d,by simpa using Y,Ak (fun x hx=>by have:=W x hx;omega) (by have:=W t[i] (cw A);show t[i].body.length<=_;omega),rfl,congrArg (fun x=>[aG.ob (some I) x]) (List.set_set _),.r rfl⟩)⟩
   ·have L:ez t r=some (t.set i {t[i]with body:=t[i].body++r.load}):=by
     unfold ez;rw[ab (by omega),ab OT,pW hi,ri hi A]
    simp only[hQ]at d;rw[L]at d;simp only at d;have aM:=W t[i] (cw A);refine S.ld 0 ?_;refine S.bin ?_ (v:=.j (i:Int)) (hv:=by rw[fU (by omega) (by omega),hi]);refine S.ld 0 ?_;refine S.bin ?_ (v:=.j (i:Int)) (hv:=by rw[fU (by omega) (by omega),hi]);refine S.ct Q A fun aH av=>?_;cases av;refine S.aD ?_;refine S.eJ (e:=aG) (l:=t) (j:=i) 2 1 ?_;refine S.ld 0 ?_;refine S.bin ?_;refine S.ct Q A fun aI aw=>?_;cases aw;refine S.aD ?_;refine S.pM (e:=aG) (l:=t) (j:=i) {t[i]with body:=t[i].body++r.load} 2 1 ?_;refine S.bin ?_;exact⟨ak-1,by omega,.drop 0 (.done ⟨j+1,_,by omega,d,by simpa using Y,Ak (fun x hx=>by have:=W x hx;omega) (by show(t[i].body++r.load).length<=_;simp;omega),rfl,rfl,.r rfl⟩)⟩
 ·obtain rfl:j=l.length:=by omega
  rw[b6]at d;simp only[hQ]at d;have Q:af aG (.sl I 0 9 (.ex 9)) t (some I):=af.new Y;have ac:bI t:=⟨by omega,fun x hx=>by have:=W x hx;omega⟩
  refine S.cd 0 Q fun aT lt U=>?_;have hl:=hl.mono lt;refine S.al (tm U ac) ?_;refine S.un ?_;refine G.mv ?_;refine G.call (fun _=>Aj U ac) fun aQ aS aj ay=>?_;have hl:=hl.mono aj;have U:=U.mono aj;refine G.mv ?_;refine G.al (fun ag=>Kw (ay ag) hl (Ky ac)) ?_;refine G.un ?_;refine G.or ?_;refine C.B (fun M=>?_) fun M=>?_
  ·have e:ei l=none:=by
    unfold ei;rw[d];simp only;rw[ab];intro h;simp only[be,aR]at h;rw[h.1,h.2]at M;simp at M
   rw[e];exact⟨_,.t rfl (.t rfl .nil),.none ⟨rfl,_,rfl,aa.nil _⟩⟩
  ·have e:ei l=some t:=by
    unfold ei;rw[d];simp only;rw[ae];simp only[cg,du,aR]at M;rw[M.1,M.2];simp
   rw[e];exact⟨_,.t rfl (.t rfl .nil),.none ⟨rfl,_,rfl,U⟩⟩
theorem pX [Fx F] {cs:List V} {d:au} {addr gen:Int} (hd:cu O cs d) (I:d.wait.length<=1000000):bm F 64 [.agg cs,.j addr,.j gen] O (.aN [.agg (bu.f ((bP d addr gen).getD fA)),.bool (bP d addr gen).isSome]):=by
 obtain⟨Q,wv,rfl,hl,hw,sl,R⟩:=hd.open;refine ai.al (ar ?_);refine S.box fun a3=>?_;refine S.alloc fun M=>?_;refine S.ag 1 ?_;refine S.al (JC hd I) ?_;refine S.un ?_;refine C.B (fun OY=>?_) fun OY=>?_
 ·have e:bP d addr gen=none:=by unfold bP;rw[ab (by intro h;rw[h]at OY;cases OY)]
  rw[e];refine S.build ?_;refine S.store 0 ?_;exact⟨_,.cN 0 rfl rfl rfl rfl (.t rfl .nil),.none rfl⟩
 ·have D:(d.read addr).2=true:=by simpa using OY
  obtain⟨X,A⟩:∃X,X=er (d.read addr).1:=⟨_,rfl⟩
  refine S.al (JI) ?_;rw[<-A];refine S.alloc fun L=>?_;refine S.store 0 ?_;refine S.un ?_;refine G.mv ?_;refine G.bin ?_;refine G.mv ?_;refine G.aD ?_;refine G.ld 0 ?_;refine G.mv ?_;refine G.bin ?_;refine G.fV ?_;refine G.or ?_;refine C.B (fun o=>?_) fun o=>?_
  ·have e:bP d addr gen=none:=by
    unfold bP;rw[ae D,<-A];cases X with
    |none=>rfl
    |some x=>
     simp only;rw[ae];change (!true||(decide (0<=gen)&&!decide (x.gen=gen)))=true at o;simpa using o
   rw[e];refine S.build ?_;refine S.store 1 ?_;exact⟨_,.cN 1 rfl rfl rfl rfl (.t rfl .nil),.none rfl⟩
  ·obtain⟨x,rfl⟩:∃x,X=some x:=by
    cases X with
    |none=>exact absurd o (by simp[vQ])
    |some x=>exact⟨x,rfl⟩
   have e:bP d addr gen=some x:=by
    unfold bP;rw[ae D,<-A];simp only;rw[ab];change (!true||(decide (0<=gen)&&!decide (x.gen=gen)))=false at o;intro h;simp[h]at o
   rw[e];refine S.ag 0 ?_;refine S.store 1 ?_;exact⟨_,.cN 1 rfl rfl rfl rfl (.t rfl .nil),.none rfl⟩
theorem KA [Fx F] {v:V} {l:List ah} {s:Option Pa} {p:ah} (ho:af aq v l s) (hlen:l.length<=1000000):
 ai F 54 [v,.agg [.j p.addr,.j p.gen]] O [aq.ob s l] (fun r _ R=>∃s',R=[aq.ob s' (cW p l)]/\af aq r (cW p l) s') never:=by
 refine ar ?_;refine S.box fun a3=>?_;refine SW.loop (fun m E ψ R=>∃j:Nat,j+m=l.length/\cW p l=l.take j++cW p (l.drop j)/\O=ψ/\R=[(some a3,.cells [.j p.addr,.j p.gen] false),aq.ob s l]/\Sub [(0,v),(3,.ptr a3 0),(5,.j (j:Int))] E) (m:=l.length) ⟨0,by omega,rfl,rfl,rfl,.r rfl⟩ ?_;intro Y E ψ R au U;obtain⟨j,ap,d,rfl,rfl,Q⟩:=U;refine C.sub Q ?_;refine S.len ?_ (hl:=af.len ho);refine S.bin ?_;refine C.D (fun O7=>?_) fun O7=>?_
 ·have hj:j<l.length:=by omega
  rw[bQ hj]at d;simp only[cW]at d;refine S.ct ho hj fun al L=>?_;subst L;refine S.aD ?_;refine S.eJ (e:=aq) (l:=l) (j:=j) 0 1 ?_;refine S.ld 0 ?_;refine S.bin ?_;refine C.D (fun OZ=>?_) fun OZ=>?_
  ·rw[ae OZ,<-bQ hj,jT]at d;rw[d];exact⟨_,.t rfl .nil,.drop 0 (.done ⟨_,rfl,ho⟩)⟩
  ·rw[ab OZ]at d;refine S.ct ho hj fun am M=>?_;cases M;refine S.aD ?_;refine S.eJ (e:=aq) (l:=l) (j:=j) 0 1 ?_;refine S.ld 0 ?_;refine S.bin ?_;refine C.D (fun OT=>?_) fun OT=>?_
   ·rw[ae (by omega),<-bQ hj]at d;rw[d];refine S.cd 1 ho fun aJ av B=>?_;refine S.a8 fun A=>?_;have Z:af aq (.sl A 0 0 (.ex 0)) [] (some A):=af.new rfl;obtain⟨aH,W,I⟩:=aa.hi B (j:=j) (by omega);obtain⟨aI,o,h⟩:=aa.lo B (j:=j) (by omega);refine S.slice W ?_;refine S.ag 1 ?_;refine S.a8 fun an=>?_;refine S.slice o ?_;refine S.br (m:=l.take j) 1 Z (.f I) (by simp;omega) fun aB aw ac=>?_;refine S.v7 o h.same ?_;refine S.e2 0 ?_;refine S.dg 2 ?_;refine S.br (m:=[p]) 1 ac (.lit 0) (by simp;omega) fun aC ay aj=>?_;refine S.v7 o h.same ?_;refine S.br (m:=l.drop j) 1 aj (.f h) (by simp;omega) fun aE az G=>?_;rw[fo,bp]at G⊢;exact⟨_,.t rfl .nil,.only 1 ⟨_,rfl,G⟩⟩
   ·rw[ab (by omega)]at d;refine S.bin ?_;exact⟨Y-1,by omega,j+1,by omega,by rw[d,fm hj,bp];(try rfl),rfl,rfl,.r rfl⟩
 ·obtain rfl:j=l.length:=by omega
  rw[b6,dT]at d;rw[show cW p []=[p]from rfl]at d;rw[d];refine S.ag 0 ?_;refine S.a8 fun ao=>?_;refine S.br (m:=[p]) 2 ho (.lit 0) (by simp;omega) fun aF aA ak=>?_;exact⟨_,.t rfl .nil,.only 2 ⟨_,rfl,ak⟩⟩
set_option maxHeartbeats 4000000
theorem KB [Fx F] {cs:List V} {d:au} {am:V} {q:List ah} (hd:cu O cs d) (aS:d.wait.length<=1000000) (hq:aa aq O am q) (bS:q.length<=1000):
 ai F 88 [.agg cs,am] O [] (fun r ψ R=>R=[]/\∃aZ v2 v3,r=.aN [aZ,v2,v3,.bool (eN d q [] []).isSome]/\aa bq ψ aZ (((eN d q [] []).getD ([],[])).1.map (·.1))/\aa aq ψ v2 (((eN d q [] []).getD ([],[])).1.map (·.2))/\aa bq ψ v3 ((eN d q [] []).getD ([],[])).2) never:=by
 obtain⟨aV,wv,rfl,hl,hw,sl,cd⟩:=hd.open;refine ar ?_;refine S.box fun aj=>?_;refine SW.new bq ?_;refine SW.new aq ?_;refine SW.new bq ?_;refine SW.bF (fun m E ψ R=>∃(j:Nat) (an:List bO) (rs:List bA) (v4 v5 I:V) (ao ap A:Option Pa),j+m=q.length/\eN d (q.drop j) an rs=eN d q [] []/\an.length<=55*j/\rs.length<=55*j/\R=[bq.ob ao (an.map (·.1)),aq.ob ap (an.map (·.2)),bq.ob A rs,(some aj,.cells [aV,wv,.j d.arm,.bool d.down] false)]/\af bq v4 (an.map (·.1)) ao/\af aq v5 (an.map (·.2)) ap/\af bq I rs A/\Sub [(1,am),(2,.ptr aj 0),(4,v4),(5,v5),(6,I),(8,.j (j:Int))] E) (m:=q.length) (.done ⟨0,[],[],.no .sl,.no .sl,.no .sl,none,none,none,by omega,rfl,by simp,by simp,rfl,af.nil,af.nil,af.nil,.r rfl⟩) ?_;intro bh E ψ R aJ aC;obtain⟨j,an,rs,v4,v5,I,ao,ap,A,bN,h,bK,bU,rfl,aW,aX,ac,aB⟩:=aC;refine C.sub aB ?_;refine S.len ?_ (hl:=aa.len hq);refine S.bin ?_;refine C.D (fun Pb=>?_) fun Pb=>?_
 ·have hj:j<q.length:=by omega
  have hq:=hq.mono aJ;have hd:=hd.mono aJ;obtain⟨p,hp⟩:∃p,p=q[j]:=⟨_,rfl⟩
  rw[bQ hj,<-hp]at h;simp only[eN]at h;obtain⟨X,aH⟩:∃X,X=bP d p.addr p.gen:=⟨_,rfl⟩
  rw[<-aH]at h;refine S.ag 3 ?_;refine S.aF hq hj fun bZ aL=>?_;rw[<-hp]at aL;refine S.bl aL fun b0 bC=>?_;refine S.a1 ?_;refine S.aF hq hj fun b1 aM=>?_;rw[<-hp]at aM;refine S.bl aM fun b2 bD=>?_;refine S.a1 ?_;refine S.alloc fun a9=>?_;refine S.al (pX hd aS) ?_;rw[<-aH];refine S.gZ 0 ?_;refine S.store 0 ?_;refine S.un ?_;refine C.B (fun av=>?_) fun av=>?_
  ·have e:eN d q [] []=none:=by
    rw[<-h];cases X with
    |none=>rfl
    |some x=>simp at av
   rw[e];exact⟨_,.t rfl (.t rfl (.t rfl (.t rfl .nil))),.none ⟨rfl,_,_,_,rfl,aa.nil _,aa.nil _,aa.nil _⟩⟩
  ·obtain⟨x,rfl⟩:∃x,X=some x:=eS.1 (by simpa using av);have bW:=kd aH.symm;simp only[l3]at h;obtain⟨Y,aI⟩:∃Y,Y=dp x:=⟨_,rfl⟩
   rw[<-aI]at h;refine S.ag 0 ?_;refine S.drop 0 ?_;refine S.call (Kt (x:=x) (by omega)) fun ce aK bw aT bc=>?_;obtain⟨rfl,a2,a6,rfl,Q,U⟩:=bc;rw[<-aI]at Q U⊢;have hq:=hq.mono aT;have hd:=hd.mono aT;refine S.un ?_;refine C.B (fun aw=>?_) fun aw=>?_
   ·have e:eN d q [] []=none:=by
     rw[<-h];cases Y with
     |none=>rfl
     |some x=>simp at aw
    rw[e];exact⟨_,.t rfl (.t rfl (.t rfl (.t rfl .nil))),.none ⟨rfl,_,_,_,rfl,aa.nil _,aa.nil _,aa.nil _⟩⟩
   ·obtain⟨l,rfl⟩:∃l,Y=some l:=eS.1 (by simpa using aw);have bR:=z8 aI.symm;change aa bq aK a2 (l.map (·.1))at Q;change aa aq aK a6 (l.map (·.2))at U;simp only at h;obtain⟨Z,aR⟩:∃Z,Z=kb d l rs:=⟨_,rfl⟩
    rw[<-aR]at h;refine SW.bF (fun m E ψ R=>∃(i:Nat) (L:List bA) (I:V) (A:Option Pa),i+m=l.length/\kb d (l.drop i) L=Z/\L.length<=55*j+i/\aK=ψ/\R=[bq.ob ao (an.map (·.1)),aq.ob ap (an.map (·.2)),bq.ob A L,(some aj,.cells [aV,wv,.j d.arm,.bool d.down] false)]/\af bq I L A/\Sub [(1,am),(2,.ptr aj 0),(4,v4),(5,v5),(6,I),(8,.j (j:Int)),(11,a2),(12,a6),(13,.j (i:Int))] E) (m:=l.length) (.done ⟨0,rs,I,A,by omega,aR.symm,by omega,rfl,rfl,ac,.r rfl⟩) ?_;intro bi E ψ R aJ aC;obtain⟨i,L,I,A,bM,o,bT,rfl,rfl,ac,aB⟩:=aC;refine C.sub aB ?_;refine S.len ?_ (hl:=aa.len Q);refine S.bin ?_;refine C.D (fun ay=>?_) fun ay=>?_
    ·rw[hS]at ay;have hi:i<l.length:=by omega
     obtain⟨it,ak⟩:∃it,it=l[i]:=⟨_,rfl⟩
     rw[bQ hi,<-ak]at o;simp only[kb]at o;obtain⟨W,aE⟩:∃W,W=bP d it.2.addr it.2.gen:=⟨_,rfl⟩
     rw[<-aE]at o;have bJ:(l.map (·.1))[i]? =some it.1:=by rw[k1,bj hi,ak];(try rfl)
     refine S.ag 3 ?_;refine S.aF U (j:=i) (by simpa using hi) fun b3 aO=>?_;rw[nU,<-ak]at aO;refine S.bl aO fun b4 bE=>?_;refine S.a1 ?_;refine S.aF U (j:=i) (by simpa using hi) fun b5 aP=>?_;rw[nU,<-ak]at aP;refine S.bl aP fun b7 bG=>?_;refine S.a1 ?_;refine S.alloc fun bz=>?_;refine S.al (pX hd aS) ?_;rw[<-aE];refine S.gZ 0 ?_;refine S.store 0 ?_;refine S.un ?_;refine C.B (fun az=>?_) fun az=>?_
     ·have aA:Z=none:=by
       rw[<-o];cases W with
       |none=>rfl
       |some x=>simp at az
      have e:eN d q [] []=none:=by
       rw[<-h];rw[aA]
      rw[e];exact⟨_,.t rfl (.t rfl (.t rfl (.t rfl .nil))),.none ⟨rfl,_,_,_,rfl,aa.nil _,aa.nil _,aa.nil _⟩⟩
     ·obtain⟨w,rfl⟩:∃w,W=some w:=eS.1 (by simpa using az);have bV:=kd aE.symm;simp only[l3]at o;obtain⟨ad,aQ⟩:∃ad,ad=eh w:=⟨_,rfl⟩
      rw[<-aQ]at o;refine S.ag 0 ?_;refine S.al (Kr (x:=w) (by omega)) ?_;rw[<-aQ];refine S.alloc fun bB=>?_;refine S.store 0 ?_;refine S.un ?_;refine G.aD ?_;refine G.ld 0 ?_;refine G.mv ?_;refine G.mv ?_;refine G.aF Q (j:=i) (z:=it.1) fun b8 a7=>?_;refine G.bl a7 fun ca bH=>?_;refine G.a1 ?_;refine G.bin ?_;refine G.or ?_;refine G.aD ?_;refine G.ld 0 ?_;refine G.mv ?_;refine G.mv ?_;refine G.aF Q (j:=i) (z:=it.1) fun cb ba=>?_;refine G.bl ba fun cc bI=>?_;refine G.a1 ?_;refine G.bin ?_;refine G.or ?_;refine C.B (fun M=>?_) fun M=>?_
      ·have aA:Z=none:=by
        rw[<-o];cases ad with
        |none=>rfl
        |some r=>
         simp only;rw[ae];change (!true||!decide (r.ino=it.1.ino)||!decide (r.idx=it.1.idx))=true at M;simpa using M
       have e:eN d q [] []=none:=by
        rw[<-h];rw[aA]
       rw[e];exact⟨_,.t rfl (.t rfl (.t rfl (.t rfl .nil))),.none ⟨rfl,_,_,_,rfl,aa.nil _,aa.nil _,aa.nil _⟩⟩
      ·obtain⟨r,rfl⟩:∃r,ad=some r:=by
        cases ad with
        |none=>simp[wg]at M
        |some r=>exact⟨r,rfl⟩
       simp only at o;rw[ab (by
        change (!true||!decide (r.ino=it.1.ino)||!decide (r.idx=it.1.idx))=false at M;simpa using M)]at o
       refine S.ag 0 ?_;refine S.a8 fun bx=>?_;refine S.br (m:=[r]) 5 ac (.lit 0) (by simp;omega) fun bt bo bk=>?_;refine S.drop 0 ?_;refine S.drop 0 ?_;refine S.drop 0 ?_;refine S.mv ?_;refine S.bin ?_;exact⟨bi-1,by omega,.done ⟨i+1,L++[r],bt,bo,by omega,o,by simp;omega,rfl,rfl,bk,.r rfl⟩⟩
    ·rw[hS]at ay;obtain rfl:i=l.length:=by omega
     rw[b6]at o;simp only[kb]at o;rw[<-o]at h;simp only at h;refine S.br (m:=l.map (·.1)) 0 aW (.f Q) (by simp;omega) fun bv bp bm=>?_;refine S.br (m:=l.map (·.2)) 1 aX (.f U) (by simp;omega) fun v107 bs bn=>?_;refine S.bin ?_;exact⟨bh-1,by omega,.done ⟨j+1,an++l,L,bv,v107,I,bp,bs,A,by omega,h,by simp;omega,by omega,by rw[cX,cX];(try rfl),by rw[cX];exact bm,by rw[cX];exact bn,ac,.r rfl⟩⟩
 ·obtain rfl:j=q.length:=by omega
  rw[b6]at h;simp only[eN]at h;rw[<-h];exact⟨_,.t rfl (.t rfl (.t rfl (.t rfl .nil))),.bL 0 rfl aW fun cf bY bb=>.bL 0 rfl aX fun cg bg bd=>.bL 0 rfl ac fun ch aU be=>.none ⟨rfl,_,_,_,rfl,(bb.mono bg).mono aU,bd.mono aU,be⟩⟩
set_option maxHeartbeats 8000000
theorem Ao [Fx F] {cs:List V} {d:au} {sum:Int} (hd:cu O cs d) (aI:d.wait.length<=1000000):
 ai F 53 [.agg cs,.j sum] O [] (fun r ψ R=>R=[]/\∃cs',r=.aN [.agg cs',.bool (look d sum).isSome]/\mI ψ cs' ((look d sum).getD Ag)) never:=by
 obtain⟨bG,wv,rfl,hl,hw,sl,cy⟩:=hd.open;have bB:∀X:Option aT,X=bP d sum (-1)->(match X with|none=>none|some x=>match c0 x with|none=>none|some (next,id,p)=>iy d p ⟨next,id,[],⟨sum,x.gen⟩::p⟩)=look d sum:=fun X h=>by subst h;rfl
 obtain⟨X,M⟩:∃X,X=bP d sum (-1):=⟨_,rfl⟩
 have o:=bB X M;refine ar ?_;refine S.box fun a7=>?_;refine S.alloc fun a4=>?_;refine S.ag 1 ?_;refine S.al (pX hd aI) ?_;rw[<-M];refine S.alloc fun ch=>?_;refine S.store 0 ?_;refine S.un ?_;refine C.B (fun OT=>?_) fun OT=>?_
 ·have e:look d sum=none:=by
   rw[<-o];cases X with
   |none=>rfl
   |some x=>simp at OT
  rw[e];refine S.build ?_;refine S.store 1 ?_;exact⟨_,.cN 1 rfl rfl rfl rfl (.t rfl .nil),.none ⟨rfl,_,rfl,mI.no _⟩⟩
 ·obtain⟨x,rfl⟩:∃x,X=some x:=eS.1 (by simpa using OT);have cp:=kd M.symm;simp only at o;obtain⟨Y,Q⟩:∃Y,Y=c0 x:=⟨_,rfl⟩
  rw[<-Q]at o;refine S.ag 0 ?_;refine S.call (z6 (x:=x) (by omega)) fun cB b3 b7 bD bt=>?_;obtain⟨rfl,bm,rfl,hp⟩:=bt;rw[<-Q]at hp⊢;have hd:=hd.mono bD;refine S.un ?_;refine C.B (fun aw=>?_) fun aw=>?_
  ·have e:look d sum=none:=by
    rw[<-o];cases Y with
    |none=>rfl
    |some x=>simp at aw
   rw[e];refine S.build ?_;refine S.store 1 ?_;exact⟨_,.cN 1 rfl rfl rfl rfl (.t rfl .nil),.none ⟨rfl,_,rfl,mI.no _⟩⟩
  ·obtain⟨⟨next,id,p⟩,rfl⟩:∃y,Y=some y:=eS.1 (by simpa using aw);have cm:=rh Q.symm;simp only at o;change aa aq b3 bm p at hp;refine S.ld 0 ?_;refine S.build ?_;refine S.a8 fun a46=>?_;have bJ:af aq (.sl a46 0 1 (.ex 1)) [⟨sum,x.gen⟩] (some a46):=af.new rfl;refine S.br (m:=p) 0 bJ (.f hp) (by simp;omega) fun b2 bV bk=>?_;have cR:=bk.ax;refine S.drop 1 ?_;refine S.build ?_;refine S.alloc fun a6=>?_;refine S.store 0 ?_;refine SW.new bN ?_;refine SW.new bN ?_;refine SW.new bN ?_;refine SW.new df ?_;refine SW.bF (fun m E ψ R=>∃(j:Nat) (s:jh) (v2 v3 v4 v5 ap:V) (ab ac ae:List SV) (aU aV aW aX aZ:Option Pa),j+m=p.length/\iy d (p.drop j) s=look d sum/\s.all.length<=8+336*j/\s.trees.length=j/\R=[df.ob aU (s.trees.map (·.root)),bN.ob aV ab,bN.ob aW ac,bN.ob aX ae,(some a6,.cells [.j s.next,.j s.id,v2,v3,v4,v5,ap] false),aq.ob aZ s.all,(some a4,.cells [.j 0,.j 0,.no .sl,.no .sl,.no .sl,.no .sl,.no .sl] false),(some a7,.cells [bG,wv,.j d.arm,.bool d.down] false)]/\af df v2 (s.trees.map (·.root)) aU/\af bN v3 ab aV/\af bN v4 ac aW/\af bN v5 ae aX/\af aq ap s.all aZ/\NR bq ψ ab (s.trees.map (fun t=>t.an.map (·.1)))/\NR aq ψ ac (s.trees.map (fun t=>t.an.map (·.2)))/\NR aG ψ ae (s.trees.map (·.tree))/\Sub [(1,.j sum),(2,.ptr a7 0),(4,.ptr a4 0),(10,bm),(11,.ptr a6 0),(12,.j (j:Int))] E) (m:=p.length) (.done ⟨0,⟨next,id,[],⟨sum,x.gen⟩::p⟩,.no .sl,.no .sl,.no .sl,.no .sl,b2,[],[],[],none,none,none,none,bV,by omega,o,by simp;omega,rfl,rfl,af.nil,af.nil,af.nil,af.nil,bk,NR.nil _,NR.nil _,NR.nil _,.r rfl⟩) ?_;intro bH E ψ R be bA;obtain⟨j,s,v2,v3,v4,v5,ap,ab,ac,ae,aU,aV,aW,aX,aZ,cl,o,ck,co,rfl,aQ,ao,ah,U,aR,aC,aD,aE,bz⟩:=bA;refine C.sub bz ?_;refine S.len ?_ (hl:=aa.len hp);refine S.bin ?_;refine C.D (fun bs=>?_) fun bs=>?_
   ·have hj:j<p.length:=by omega
    have hp:=hp.mono be;have hd:=hd.mono be;obtain⟨q,hq⟩:∃q,q=p[j]:=⟨_,rfl⟩
    rw[bQ hj,<-hq]at o;simp only[iy,lR]at o;obtain⟨X,M⟩:∃X,X=bP d q.addr q.gen:=⟨_,rfl⟩
    rw[<-M]at o;have aJ:=aC.1;have aK:=aD.1;have aL:=aE.1;rw[hS]at aJ aK aL;refine S.ag 7 ?_;refine S.aF hp hj fun cr ba=>?_;rw[<-hq]at ba;refine S.bl ba fun ct ci=>?_;refine S.a1 ?_;refine S.aF hp hj fun cv bb=>?_;rw[<-hq]at bb;refine S.bl bb fun cw cj=>?_;refine S.a1 ?_;refine S.alloc fun cf=>?_;refine S.al (pX hd aI) ?_;rw[<-M];refine S.gZ 0 ?_;refine S.store 0 ?_;refine S.un ?_;refine C.B (fun ay=>?_) fun ay=>?_
    ·have e:look d sum=none:=by
      rw[<-o];cases X with
      |none=>rfl
      |some x=>simp at ay
     rw[e];refine S.build ?_;refine S.store 7 ?_;exact⟨_,.cN 7 rfl rfl rfl rfl (.t rfl .nil),.none ⟨rfl,_,rfl,mI.no _⟩⟩
    ·obtain⟨y,rfl⟩:∃x,X=some x:=eS.1 (by simpa using ay);have cq:=kd M.symm;simp only[l3]at o;obtain⟨Y,Q⟩:∃Y,Y=dJ y:=⟨_,rfl⟩
     rw[<-Q]at o;refine S.ag 0 ?_;refine S.drop 0 ?_;refine S.call (Ku (x:=y) (by omega)) fun v76 b4 b8 aM bv=>?_;obtain⟨rfl,bK,rfl,L⟩:=bv;rw[<-Q]at L⊢;have hd:=hd.mono aM;have hp:=hp.mono aM;refine S.alloc fun cg=>?_;refine S.store 0 ?_;refine S.un ?_;refine C.B (fun az=>?_) fun az=>?_
     ·have e:look d sum=none:=by
       rw[<-o];cases Y with
       |none=>rfl
       |some x=>simp at az
      rw[e];refine S.build ?_;refine S.store 7 ?_;exact⟨_,.cN 7 rfl rfl rfl rfl (.t rfl .nil),.none ⟨rfl,_,rfl,mI.no _⟩⟩
     ·obtain⟨⟨bM,aS⟩,rfl⟩:∃y,Y=some y:=eS.1 (by simpa using az);have cn:=wh Q.symm;simp only at o;change aa aq b4 bK aS at L;obtain⟨Z,aH⟩:∃Z,Z=eN d aS [] []:=⟨_,rfl⟩
      rw[<-aH]at o;refine S.ag 8 ?_;refine S.call (KB hd aI L (by omega)) fun cC a2 ca aj bw=>?_;obtain⟨rfl,bn,bo,b1,rfl,G,A,aB⟩:=bw;rw[<-aH]at G A aB⊢;have hd:=hd.mono aj;have hp:=hp.mono aj;have L:=L.mono aj;refine S.un ?_;refine C.B (fun aA=>?_) fun aA=>?_
      ·have e:look d sum=none:=by
        rw[<-o];cases Z with
        |none=>rfl
        |some x=>simp at aA
       rw[e];refine S.build ?_;refine S.store 7 ?_;exact⟨_,.cN 7 rfl rfl rfl rfl (.t rfl .nil),.none ⟨rfl,_,rfl,mI.no _⟩⟩
      ·obtain⟨⟨an,rs⟩,rfl⟩:∃y,Z=some y:=eS.1 (by simpa using aA);have bd:=wi aH.symm;simp only[na]at bd;simp only at o;change aa bq a2 bn (an.map (·.1))at G;change aa aq a2 bo (an.map (·.2))at A;change aa bq a2 b1 rs at aB;obtain⟨T,bc⟩:∃T,T=ei rs:=⟨_,rfl⟩
       rw[<-bc]at o;refine S.call (Kz aB (by omega) (fun r hr=>by have:=bd.2.2 (by simp) r hr;omega)) fun cD b5 cb ak bx=>?_;obtain⟨rfl,v20,rfl,I⟩:=bx;rw[<-bc]at I⊢;have L:=L.mono ak;have G:=G.mono ak;have A:=A.mono ak;refine S.un ?_;refine C.B (fun av=>?_) fun av=>?_
       ·have e:look d sum=none:=by
         rw[<-o];cases T with
         |none=>rfl
         |some x=>simp at av
        rw[e];refine S.build ?_;refine S.store 7 ?_;exact⟨_,.cN 7 rfl rfl rfl rfl (.t rfl .nil),.none ⟨rfl,_,rfl,mI.no _⟩⟩
       ·obtain⟨t,rfl⟩:∃y,T=some y:=eS.1 (by simpa using av);simp only at o;change aa aG b5 v20 t at I;have cK:=G.ax;have cL:=A.ax;have cO:=I.ax;have hz:=(aM.trans aj).trans ak;refine S.ld 5 ?_;refine S.ag 0 ?_;refine S.a8 fun a105=>?_;refine S.ld 6 ?_;refine S.a8 fun cc=>?_;refine S.ld 7 ?_;refine S.a8 fun cd=>?_;refine S.ld 8 ?_;refine S.a8 fun ce=>?_;refine S.br (e:=df) (m:=[bM]) 5 aQ (.lit 3) (by simp;omega) fun bW bO bg=>?_;refine S.e2 0 ?_ (hm:=I.b9);refine S.bE 9 ?_ (hs:=U.same);refine S.e2 1 ?_ (hm:=A.b9);refine S.bE 9 ?_ (hs:=ah.same);refine S.e2 2 ?_ (hm:=G.b9);refine S.bE 9 ?_ (hs:=ao.same);refine S.br (e:=bN) (m:=[⟨bn,G.ax⟩]) 6 ao (.lit 2) (by simp;omega) fun bY bR bh=>?_;refine S.e2 0 ?_ (hm:=I.b9);refine S.bE 9 ?_ (hs:=U.same);refine S.e2 1 ?_ (hm:=A.b9);refine S.bE 9 ?_ (hs:=ah.same);refine S.br (e:=bN) (m:=[⟨bo,A.ax⟩]) 7 ah (.lit 1) (by simp;omega) fun bZ bS bi=>?_;refine S.e2 0 ?_ (hm:=I.b9);refine S.bE 9 ?_ (hs:=U.same);refine S.br (e:=bN) (m:=[⟨v20,I.ax⟩]) 8 U (.lit 0) (by simp;omega) fun b0 bT bj=>?_;have cE:=bg.ax;have cF:=bh.ax;have cG:=bi.ax;have cH:=bj.ax;refine S.fB 9 ?_;refine S.fB 9 ?_;refine S.fB 9 ?_;refine S.fB 9 ?_;refine S.drop 0 ?_;refine S.drop 0 ?_;refine S.drop 0 ?_;refine S.drop 0 ?_;refine S.drop 0 ?_;refine S.ld 4 ?_;refine S.br (m:=aS) 5 aR (.f L) (by omega) fun cz cx bI=>?_;refine S.br (m:=an.map (·.2)) 5 bI (.f A) (by simp;omega) fun v131 bU aP=>?_;have cJ:=aP.ax;rw[bp]at aP⊢;refine S.fB 4 ?_;refine S.bin ?_;refine⟨bH-1,by omega,.done ⟨j+1,_,bW,bY,bZ,b0,v131,_,_,_,bO,bR,bS,bT,bU,by omega,o,by simp;omega,by simp;omega,by rw[cX];(try rfl),by rw[cX];exact bg,bh,bi,bj,aP,by rw[cX];exact(aC.mono hz).snoc G,by rw[cX];exact(aD.mono hz).snoc A,by rw[cX];exact(aE.mono hz).snoc I,.r rfl⟩⟩
   ·obtain rfl:j=p.length:=by omega
    rw[b6]at o;simp only[iy]at o;rw[<-o];have cM:=aQ.ax;have cP:=ao.ax;have cQ:=ah.ax;have cS:=U.ax;have cT:=aR.ax;refine S.ag 4 ?_;refine S.store 6 ?_;exact⟨_,.cN 6 rfl rfl rfl rfl (.t rfl .nil),.bL 0 rfl aQ fun cU aO k2=>.bL 0 rfl ao fun cV am aJ=>.bL 0 rfl ah fun cW W aK=>.bL 0 rfl U fun cZ ld aL=>.bL 1 rfl aR fun c1 le bC=>.none ⟨rfl,_,rfl,v2,v3,v4,v5,ap,ab,ac,ae,rfl,(((k2.mono am).mono W).mono ld).mono le,((aJ.mono W).mono ld).mono le,(((((aC.mono aO).mono am).mono W).mono ld).mono le),(aK.mono ld).mono le,(((((aD.mono aO).mono am).mono W).mono ld).mono le),aL.mono le,(((((aE.mono aO).mono am).mono W).mono ld).mono le),bC⟩⟩
theorem tr [Fx F] {cs:List V} {d:au} {sum:Int} (hd:cu O cs d) (ae:d.wait.length<=1000000):
 ai F 21 [.agg cs,.j sum] O [] (fun r ψ R=>R=[]/\∃L,r=.aN [L,.bool (blocks d sum).isSome]/\aa aq ψ L ((blocks d sum).getD [])) never:=by
 obtain⟨am,wv,rfl,hl,hw,sl,aR⟩:=hd.open;obtain⟨X,h⟩:∃X,X=look d sum:=⟨_,rfl⟩
 refine ar ?_;refine S.box fun U=>?_;refine S.ag 0 ?_;refine S.call (Ao hd ae) fun aS Q aw aJ W=>?_;obtain⟨rfl,cs,rfl,hs⟩:=W;rw[<-h]at hs⊢;obtain⟨v2,v3,v4,v5,M,aM,aO,aP,rfl,k2,aj,aE,ak,aH,al,aI,o⟩:=hs;have aT:=k2.ax;have aU:=aj.ax;have aV:=ak.ax;have aW:=al.ax;have aX:=o.ax;refine S.alloc fun I=>?_;refine S.store 0 ?_;refine S.un ?_;refine C.B (fun O1=>?_) fun O1=>?_
 ·have e:blocks d sum=none:=by
   unfold blocks;rw[<-h];cases X with
   |none=>rfl
   |some x=>simp at O1
  rw[e];exact⟨_,.t rfl (.t rfl .nil),.none ⟨rfl,_,rfl,aa.nil _⟩⟩
 ·obtain⟨s,rfl⟩:∃s,X=some s:=eS.1 (by simpa using O1);have aD:=(Ae h.symm).1;change aa aq Q M s.all at o;have e:blocks d sum=some (oQ s.all):=by unfold blocks;rw[<-h];(try rfl)
  rw[e];refine SW.new aq ?_;refine SW.bF (fun m E ψ R=>∃(j:Nat) (out:List ah) (v:V) (G:Option Pa),j+m=s.all.length/\out=(s.all.take j).foldl (fun out p=>cW p out) []/\out.length<=j/\Q=ψ/\R=[aq.ob G out,(some I,.cells [.j s.next,.j s.id,v2,v3,v4,v5,M] false),(some U,.cells [am,wv,.j d.arm,.bool d.down] false)]/\af aq v out G/\Sub [(6,.ptr I 0),(8,v),(9,.j (j:Int))] E) (m:=s.all.length) (.done ⟨0,[],.no .sl,none,by omega,rfl,by simp,rfl,rfl,af.nil,.r rfl⟩) ?_;intro an E ψ R aB ab;obtain⟨j,out,v,G,aA,A,aC,rfl,rfl,ho,Z⟩:=ab;refine C.sub Z ?_;refine S.ld 1 ?_;refine S.len ?_ (hl:=aa.len o);refine S.bin ?_;refine C.D (fun O2=>?_) fun O2=>?_
  ·have hj:j<s.all.length:=by omega
   refine S.ld 1 ?_;refine S.aF o hj fun aQ az=>?_;refine S.bJ ?_;refine S.ba 0 rfl (ai.same (KA (p:=s.all[j]) ho (by omega))) fun av aZ ay aK Y=>?_;obtain⟨rfl,ap,rfl,ao⟩:=Y;refine S.bin ?_;refine⟨an-1,by omega,.done ⟨j+1,cW s.all[j] out,av,ap,by omega,by rw[fm hj,rR,<-A];(try rfl),by have:=Af s.all[j] out;omega,rfl,rfl,ao,.r rfl⟩⟩
  ·obtain rfl:j=s.all.length:=by omega
   rw[dT]at A;subst A;exact⟨_,.t rfl (.t rfl .nil),.bL 0 rfl ho fun a1 aL ac=>.none ⟨rfl,_,rfl,ac⟩⟩
end Go.Ev
namespace Go.Ev
def bK (d:au):Nat:=(d.last.length-2)/64
def bB (s:Int):Int:=if s<0 then-1 else 2+s*64
def dW (a:Int):Int:=if a<2 then-1 else(((a-2).toNat/64:Nat):Int)
def dq (out:List Int) (p:ah):List Int:=if 0<=dW p.addr/\dW p.addr<(out.length:Int)then out.set (dW p.addr).toNat ((out[(dW p.addr).toNat]?).getD 0+1)else out
def ga (d:au) (sum:Int):List Int:=((blocks d sum).getD []).foldl dq (List.replicate (bK d) 0)
def hb (bv:Int):Int->List Int->Option Int
 |_,[]=>none
 |i,n::l=>if n=0/\i≠bv then some i else hb bv (i+1) l
def ke (d:au) (sum bv:Int):Option Int:=hb bv 0 (ga d sum)
def cQ:au->Int->List aT->au×Bool
 |d,_,[]=>d.flush
 |d,i,x::l=>if(d.write i (dn x)).2 then cQ (d.write i (dn x)).1 (i+1) l else((d.write i (dn x)).1,false)
def gu (d:au) (s:mC):au×Bool:=if(d.write (s.n%2) (ir s)).2 then(d.write (s.n%2) (ir s)).1.flush else((d.write (s.n%2) (ir s)).1,false)
def pY (kind id:Int) (h:bC):Bool:=decide (h.r.kind=kind)&&(!decide (kind=3)||decide (h.r.id=id))
def iz (l:List bC) (kind id:Int):Option bC:=l.find? (pY kind id)
def dD (l:List bC):ao:=match iz l 1 0 with
 |none=>nG
 |some h=>h.t
def fF:List bC->Int->Int->Option (List bC)
 |[],_,_=>none
 |h::l,kind,id=>if pY kind id h then some l else(fF l kind id).map (h::·)
def pZ (l:List bC):List cK:=(l.filter (fun h=>decide (h.r.kind=3))).map (·.r)
def wj (a b:cK):Bool:=decide (a.kind<b.kind)||(decide (a.kind=b.kind)&&decide (a.id<b.id))
def ji (h:bC):List bC->List bC
 |[]=>[h]
 |x::l=>if wj h.r x.r then h::x::l else x::ji h l
def dX (l:List bC) (h:bC):List bC:=ji h ((fF l h.r.kind h.r.id).getD l)
def jj (l:List bC) (t:ao):List bC:=if bH t then dX l ⟨((iz l 1 0).map (·.r)).getD ⟨1,0,0,0,0⟩,t⟩else l
theorem ts (d:au) (i:Int) (b:Bs):(d.write i b).1.wait.length<=d.wait.length+1/\(d.write i b).1.last.length=d.last.length/\(d.write i b).1.arm<=max d.arm 0:=by
 unfold au.write;split
 ·exact⟨ks _,rfl,by show d.arm<=_;omega⟩
 ·split
  ·refine⟨by simp,rfl,?_⟩;show d.arm-1<=_;omega
  ·exact⟨by simp,rfl,by show d.arm<=_;omega⟩
theorem KC (d:au):d.lL.length=d.last.length:=by
 unfold au.lL;have:∀(w:List lK) (l:List Bs),(w.foldl gA l).length=l.length:=by
  intro w;induction w with
  |nil=>intro l;rfl
  |cons a w h=>intro l;rw[gK,h,zf]
 exact this _ _
theorem Ap (d:au):d.flush.1.last.length=d.last.length/\d.flush.1.wait.length<=d.wait.length/\d.flush.1.arm=d.arm:=by
 unfold au.flush;split
 ·exact⟨rfl,aB _,rfl⟩
 ·exact⟨KC d,by simp,rfl⟩
theorem Aq {x:aT} {n i:Int} {p:List ah} (h:c0 x=some (n,i,p)):p.all dI=true:=by
 unfold c0 at h;split at h
 ·rename_i o;cases h;by_cases hr:kR x.gen (dC x.load).1 (dC x.load).2.1 (dC x.load).2.2.1=true
  ·unfold kR at hr;simp only[be]at hr;exact hr.2
  ·have d:=o.2.2;unfold eM at d;rw[ab hr]at d;have:=o.1;rw[<-d]at this;cases this
 ·cases h
theorem KD {x:aT} {r:cK} {p:List ah} (h:dJ x=some (r,p)):p.all dI=true:=by
 unfold dJ at h;split at h
 ·rename_i o;cases h;by_cases hr:kQ x.gen (fj x.load).1 (fj x.load).2.1=true
  ·unfold kQ at hr;simp only[be]at hr;exact hr.2
  ·have d:=o.2.2;unfold ey at d;rw[ab hr]at d;have:=o.1;rw[<-d]at this;cases this
 ·cases h
theorem KE {x:aT} {l:List bO} (h:dp x=some l):l.all kP=true/\l.length<=6:=by
 unfold dp at h;split at h
 ·rename_i h0;split at h
  ·rename_i o;cases h;obtain⟨l,hl⟩:∃l,l=(idxOf x.load).1:=⟨_,rfl⟩
   have aj:=o.2;rw[<-hl]at aj⊢;unfold gD at aj;cases l with
   |nil=>cases aj
   |cons a r=>
    simp only[b7,gC]at aj;injection aj with d j
    have hd:(a::r).drop 6=[]:=by
     cases hr:(a::r).drop 6 with
     |nil=>rfl
     |cons b t=>
      have D:6<(a::r).length:=by
       have:=congrArg List.length hr;simp only[bW,b7]at this⊢;omega
      obtain⟨f,B⟩:∃f,r.length=f+1:=⟨r.length-1,by rw[b7]at D;omega⟩
      rw[hr,B]at j;simp only[gC]at j;cases j
    have hlen:(a::r).length<=6:=List.drop_eq_nil_iff.1 hd;rw[kk hlen]at d;refine⟨?_,hlen⟩;unfold gW at d;split at d
    ·rename_i A;simp only[be]at A;exact A.2
    ·have:=h0.1;rw[<-d]at this;cases this
  ·cases h
 ·cases h
theorem Ar {d:au}:∀{q:List ah} {an j:List bO} {rs d0:List bA},eN d q an rs=some (j,d0)->an.all kP=true->j.all kP=true
 |[],an,j,rs,d0,h,ha=>by cases h;exact ha
 |p::q,an,j,rs,d0,h,ha=>by
  simp only[eN]at h;split at h
  ·cases h
  ·rename_i l hl;split at h
   ·cases h
   ·obtain⟨b,A,o⟩:=gf.1 hl;exact Ar h (by rw[rW,ha,(KE o).1];(try rfl))
theorem KF {d:au} {p:ah} {x:gY} {l:List ah} (h:lR d p=some (x,l)):l.all dI=true:=by
 unfold lR at h;split at h
 ·cases h
 ·rename_i r q hq;split at h
  ·cases h
  ·rename_i an cP hr;split at h
   ·cases h
   ·cases h;obtain⟨b,o,j⟩:=gf.1 hq;have aj:=Ar hr rfl;rw[rW,KD j,List.all_map,gL,eU];intro i hi;have:=eU.1 aj i hi;unfold kP at this;simp only[be]at this;exact this.2
theorem wk {d:au} {P:ah->Prop} (j:∀p,dI p=true->P p):∀{l:List ah} {s s':jh},iy d l s=some s'->(∀p∈s.all,P p)->∀p∈s'.all,P p
 |[],s,s',h,ha=>by cases h;exact ha
 |p::r,s,s',h,ha=>by
  simp only[iy]at h;split at h
  ·cases h
  ·rename_i x l hx;refine wk j h fun q hq=>?_;rw[fK]at hq;rcases hq with hq|hq
   ·exact ha q hq
   ·exact j q (eU.1 (KF hx) q hq)
theorem KG {d:au} {sum:Int} {s:jh} (h:look d sum=some s):∀p∈s.all,dI p=true\/p.addr=sum:=by
 unfold look at h;split at h
 ·cases h
 ·split at h
  ·cases h
  ·rename_i x hx n i p hp;refine wk (P:=fun p=>dI p=true\/p.addr=sum) (fun p h=>.inl h) h fun q hq=>?_;rcases bS.1 hq with rfl|hq
   ·exact .inr rfl
   ·exact .inl (eU.1 (Aq hp) q hq)
theorem As {p q:ah}:∀{l:List ah},q∈cW p l->q=p\/q∈l
 |[],h=>by simp only[cW,hB]at h;exact .inl h
 |a::l,h=>by
  simp only[cW]at h;split at h
  ·exact .inr h
  ·split at h
   ·rcases bS.1 h with h|h
    ·exact .inl h
    ·exact .inr h
   ·rcases bS.1 h with h|h
    ·exact .inr (bS.2 (.inl h))
    ·rcases As h with h|h
     ·exact .inl h
     ·exact .inr (cR _ h)
theorem wm {l:List ah} {q:ah} (h:q∈oQ l):q∈l:=by
 have key:∀(l out:List ah),q∈l.foldl (fun out p=>cW p out) out->q∈l\/q∈out:=by
  intro l;induction l with
  |nil=>exact fun out h=>.inr h
  |cons a l d=>
   intro out h;rcases d _ h with h|h
   ·exact .inl (cR _ h)
   ·rcases As h with h|h
    ·exact .inl (by rw[h];exact dc)
    ·exact .inr h
 rcases key l [] h with h|h
 ·exact h
 ·cases h
theorem wo {d:au} {sum:Int} {l:List ah} (h:blocks d sum=some l):∀p∈l,dI p=true\/p.addr=sum:=by
 unfold blocks at h;obtain⟨s,o,aj⟩:=jR.1 h;subst aj;exact fun p hp=>KG o p (wm hp)
theorem KH (l:List ah):(oQ l).length<=l.length:=by
 have key:∀(l out:List ah),(l.foldl (fun out p=>cW p out) out).length<=out.length+l.length:=by
  intro l;induction l with
  |nil=>intro out;exact aB _
  |cons a l d=>
   intro out;have o:=d (cW a out);have aj:=Af a out;rw[gK,b7];omega
 have:=key l [];simpa[oQ]using this
theorem rj {d:au} {sum:Int} {l:List ah} (h:blocks d sum=some l):l.length<=2360:=by
 unfold blocks at h;obtain⟨s,o,aj⟩:=jR.1 h;subst aj;have:=KH s.all;have:=(Ae o).1;omega
theorem aa.c7 {U:Type} {e:bG U} {O:Fz} {v:V} {l:List U} (h:aa e O v l):Go.Ev.c7 v v=true:=by
 have:=FS.same h;have hs:=h.ax;cases v<;>first|exact this|(simp[isScalar]at hs)
def eA:bG (cK×SV):=⟨6,fun h=>[.int .i64 h.1.kind,.int .i64 h.1.id,.int .i64 h.1.cZ,.int .i64 h.1.base,.int .i64 h.1.done,h.2.1],fun _=>rfl,fun h=>by simp[aY,iV,h.2.2]⟩
def HR (O:Fz) (hs:List (cK×SV)) (l:List bC):Prop:=hs.map (·.1)=l.map (·.r)/\NR aG O (hs.map (·.2)) (l.map (·.t))
def hf (O:Fz) (d:V) (l:List bC):Prop:=∃hs,aa eA O d hs/\HR O hs l
theorem HR.mono {O ψ:Fz} {hs:List (cK×SV)} {l:List bC} (h:HR O hs l) (d:O.Le ψ):HR ψ hs l:=⟨h.1,h.2.mono d⟩
theorem HR.len {O:Fz} {hs:List (cK×SV)} {l:List bC} (h:HR O hs l):hs.length=l.length:=by have:=congrArg List.length h.1;simpa using this
theorem HR.at {O:Fz} {hs:List (cK×SV)} {l:List bC} (h:HR O hs l) {i:Nat} (hi:i<hs.length) (hj:i<l.length):(hs[i]).1=(l[i]).r/\aa aG O (hs[i]).2.1 (l[i]).t:=by
 constructor
 ·have o:(hs.map (·.1))[i]? =(l.map (·.r))[i]? :=by rw[h.1]
  rw[k1,k1,bj hi,bj hj]at o;simpa using o
 ·exact h.2.2 i _ _ (by rw[k1,bj hi];(try rfl)) (by rw[k1,bj hj];(try rfl))
theorem hf.mono {O ψ:Fz} {j:V} {l:List bC} (h:hf O j l) (d:O.Le ψ):hf ψ j l:=let⟨hs,o,aj⟩:=h;⟨hs,o.mono d,aj.mono d⟩
theorem hf.nil (O:Fz):hf O (.no .sl) []:=⟨[],aa.nil O,rfl,NR.nil O⟩
theorem HR.nil (O:Fz):HR O [] []:=⟨rfl,NR.nil O⟩
theorem NR.app {U:Type} {e:bG U} {O:Fz} {a b:List SV} {c d:List (List U)} (o:NR e O a c) (aj:NR e O b d):NR e O (a++b) (c++d):=by
 refine⟨by simp[o.1,aj.1],fun i v l h k2=>?_⟩;by_cases hi:i<a.length
 ·rw[dt hi]at h;rw[dt (by rw[<-o.1];exact hi)]at k2;exact o.2 i v l h k2
 ·rw[db (by omega)]at h;rw[db (by rw[<-o.1];omega),<-o.1]at k2;exact aj.2 _ v l h k2
theorem HR.app {O:Fz} {a b:List (cK×SV)} {c d:List bC} (o:HR O a c) (aj:HR O b d):HR O (a++b) (c++d):=⟨by rw[cX,cX,o.1,aj.1],by rw[cX,cX];exact o.2.app aj.2⟩
theorem NR.take {U:Type} {e:bG U} {O:Fz} {a:List SV} {c:List (List U)} (h:NR e O a c) (n:Nat):NR e O (a.take n) (c.take n):=⟨by simp[h.1],fun i v l d k2=>by
 rw[jv]at d k2;split at d
 ·rw[ae (by assumption)]at k2;exact h.2 i v l d k2
 ·cases d⟩
theorem NR.drop {U:Type} {e:bG U} {O:Fz} {a:List SV} {c:List (List U)} (h:NR e O a c) (n:Nat):NR e O (a.drop n) (c.drop n):=⟨by simp[h.1],fun i v l d k2=>by
 rw[gJ]at d k2;exact h.2 _ v l d k2⟩
theorem HR.take {O:Fz} {a:List (cK×SV)} {c:List bC} (h:HR O a c) (n:Nat):HR O (a.take n) (c.take n):=⟨by rw[List.map_take,List.map_take,h.1],by rw[List.map_take,List.map_take];exact h.2.take n⟩
theorem HR.drop {O:Fz} {a:List (cK×SV)} {c:List bC} (h:HR O a c) (n:Nat):HR O (a.drop n) (c.drop n):=⟨by rw[List.map_drop,List.map_drop,h.1],by rw[List.map_drop,List.map_drop];exact h.2.drop n⟩
theorem HR.one {O:Fz} {r:cK} {w:SV} {t:ao} (h:aa aG O w.1 t):HR O [(r,w)] [⟨r,t⟩]:=⟨rfl,rfl,fun i v l d k2=>by
 cases i with
 |zero=>simp at d k2;subst d;subst k2;exact h
 |succ i=>simp at d⟩
abbrev bf (h wv j:V) (v:aV):List V:=[h,wv,.int .i64 v.d.arm,.bool v.d.down,.int .i64 v.seq,.int .i64 v.sum,.int .i64 v.aJ,.int .i64 v.pos,.int .i64 v.n,.int .i64 v.next,.int .i64 v.id,j]
def bR (O:Fz) (cs:List V) (v:aV):Prop:=∃h wv j,cs=bf h wv j v/\aa dA O h v.d.last/\aa j5 O wv v.d.wait/\hf O j v.trees
theorem bR.mono {O ψ:Fz} {cs:List V} {v:aV} (h:bR O cs v) (d:O.Le ψ):bR ψ cs v:=let⟨a,b,c,o,aj,j,A⟩:=h;⟨a,b,c,o,aj.mono d,j.mono d,A.mono d⟩
theorem hf.ax {O:Fz} {d:V} {l:List bC} (h:hf O d l):isScalar d=true:=let⟨_,o,_⟩:=h;o.ax
theorem hf.c7 {O:Fz} {d:V} {l:List bC} (h:hf O d l):Go.Ev.c7 d d=true:=let⟨_,o,_⟩:=h;o.c7
theorem hf.same {O:Fz} {d:V} {l:List bC} (h:hf O d l):Go.Ev.same d d=true:=let⟨_,o,_⟩:=h;o.same
theorem bR.open {O:Fz} {cs:List V} {v:aV} (h:bR O cs v):∃j wv B,cs=bf j wv B v/\aa dA O j v.d.last/\aa j5 O wv v.d.wait/\hf O B v.trees/\isScalar j=true/\isScalar wv=true/\isScalar B=true/\cu O [j,wv,.int .i64 v.d.arm,.bool v.d.down] v.d:=
 let⟨a,b,c,o,aj,A,D⟩:=h;⟨a,b,c,o,aj,A,D,aj.ax,A.ax,D.ax,a,b,rfl,aj,A⟩
theorem Au (n:Nat):mm true (.int .i64 ((n:Int)-2)) (.int .i64 0)=some (.int .i64 ((n-2:Nat):Int)):=by
 by_cases h:2<=n
 ·have e:((n:Int)-2)=((n-2:Nat):Int):=by omega
  rw[e,show(0:Int)=((0:Nat):Int)from rfl,y5,Nat.max_zero]
 ·have o:n=0\/n=1:=by omega
  rcases o with rfl|rfl<;>rfl
end Go.Ev
namespace Go.Ev
variable{F:Nat->Option aP} {O:Fz}
theorem Av [Fx F] {cs:List V} {d:au} (hd:cu O cs d) (hlen:d.last.length<=1000000):bm F 189 [.agg cs] O (.j (bK d:Nat)):=by
 obtain⟨o,wv,rfl,hl,hw,sl,A⟩:=hd.open;refine ai.al (ar ?_);refine S.box fun h=>?_;refine S.ld 0 ?_;refine S.len ?_ (hl:=aa.len hl);refine S.bin ?_;refine S.kH (Au _) ?_;refine S.bin ?_ (hv:=ra (m:=64) (by omega) (by omega));refine⟨_,.t rfl .nil,.done ?_⟩;rfl
theorem oR [Fx F] {s:Int} (hs:s<=1099511627776):bm F 28 [.j s] O (.j (bB s)):=by
 refine ai.al (ar ?_);refine S.bin ?_;refine C.D (fun O9=>?_) fun O9=>?_
 ·have e:bB s=-1:=by unfold bB;exact ae O9
  rw[e];refine⟨_,.t rfl .nil,.done ?_⟩;rfl
 ·have e:bB s=2+s*64:=by unfold bB;exact ab O9
  rw[e];refine S.bin ?_;refine S.bin ?_;refine⟨_,.t rfl .nil,.done ?_⟩;rfl
theorem Aw [Fx F] {a:Int} (ha:a<=9223372036854775807):bm F 220 [.j a] O (.j (dW a)):=by
 refine ai.al (ar ?_);refine S.bin ?_;refine C.D (fun O9=>?_) fun O9=>?_
 ·have e:dW a=-1:=by unfold dW;exact ae O9
  rw[e];refine⟨_,.t rfl .nil,.done ?_⟩;rfl
 ·have e:dW a=(((a-2).toNat/64:Nat):Int):=by unfold dW;exact ab O9
  rw[e];refine S.bin ?_ (v:=.j (((a-2).toNat:Nat):Int)) (hv:=by rw[fU (by omega) (by omega),show(((a-2).toNat:Nat):Int)=a-2 by omega]);refine S.bin ?_ (hv:=ra (m:=64) (by omega) (by omega));refine⟨_,.t rfl .nil,.done ?_⟩;rfl
theorem KI (out:List Int) (p:ah):(dq out p).length=out.length:=by unfold dq;split<;>simp
theorem tt {out:List Int} {p:ah} {j:Nat} (h:∀x∈out,0<=x/\x<=(j:Int)):∀x∈dq out p,0<=x/\x<=((j+1:Nat):Int):=by
 unfold dq;split
 ·rename_i hc;intro x hx;rcases o5 hx with o|o
  ·have:=h x o;omega
  ·have d:(dW p.addr).toNat<out.length:=by omega
   rw[bj d]at o;have:=h _ (cw d);simp at o;omega
 ·intro x hx;have:=h x hx;omega
theorem rk (d:au) (sum:Int):(ga d sum).length=bK d:=by
 have key:∀(l:List ah) (out:List Int),(l.foldl dq out).length=out.length:=by
  intro l;induction l with
  |nil=>intro out;rfl
  |cons a l h=>intro out;rw[gK,h,KI]
 unfold ga;rw[key];simp
theorem nK {U d:Type} (f:d->U->d) (z:d) (l:List U) (j:Nat) (hj:j<l.length):(l.take (j+1)).foldl f z=f ((l.take j).foldl f z) l[j]:=by
 rw[fm hj,rR];(try rfl)
theorem KJ [Fx F] {cs:List V} {d:au} {sum:Int} (hd:cu O cs d) (az:d.wait.length<=1000000) (hlen:d.last.length<=1000000) (aO:sum<=9223372036854775807):
 ai F 177 [.agg cs,.j sum] O [] (fun r ψ R=>R=[]/\aa bt ψ r (ga d sum)) never:=by
 obtain⟨aA,wv,rfl,hl,hw,sl,aW⟩:=hd.open;obtain⟨L,hL⟩:∃L,L=(blocks d sum).getD []:=⟨_,rfl⟩
 have aw:∀p∈L,p.addr<=9223372036854775807:=by
  intro p hp;cases o:blocks d sum with
  |none=>rw[hL,o]at hp;cases hp
  |some l=>
   rw[hL,o]at hp;rcases wo o p hp with h|h
   ·unfold dI at h;simp only[be,aR]at h;omega
   ·omega
 have aJ:L.length<=2360:=by
  cases o:blocks d sum with
  |none=>rw[hL,o];simp
  |some l=>rw[hL,o];exact rj o
 have aK:bK d<=1000000:=by unfold bK;omega
 refine ar ?_;refine S.box fun ah=>?_;refine S.ag 0 ?_;refine S.al (Av hd hlen) ?_;refine S.oE (e:=bt) (0:Int) (n:=bK d) (by omega) (by omega) fun A aT=>?_;refine S.ag 1 ?_;refine S.call (tr hd az) fun aX aC aD aQ am=>?_;obtain⟨rfl,aB,rfl,hp⟩:=am;rw[<-hL]at hp;refine SW.bF (fun m E ψ R=>∃(j:Nat) (out:List Int),j+m=L.length/\out=(L.take j).foldl dq (List.replicate (bK d) 0)/\out.length=bK d/\(∀x∈out,0<=x/\x<=(j:Int))/\aC=ψ/\R=[bt.ob (some A) out,(some ah,.cells [aA,wv,.j d.arm,.bool d.down] false)]/\Sub [(2,.ptr ah 0),(5,.sl A 0 (bK d) (.ex (bK d))),(6,aB),(8,.j (j:Int))] E) (m:=L.length) (.done ⟨0,List.replicate (bK d) 0,by omega,rfl,by simp,fun x hx=>by rw[mZ hx];omega,rfl,rfl,.r rfl⟩) ?_;intro aj E ψ R aM av;obtain⟨j,out,aL,W,U,ac,rfl,rfl,ap⟩:=av;refine C.sub ap ?_;refine S.len ?_ (hl:=aa.len hp);refine S.bin ?_;refine C.D (fun O2=>?_) fun O2=>?_
 ·have hj:j<L.length:=by omega
  have Y:af bt (.sl A 0 (bK d) (.ex (bK d))) out (some A):=af.new U;refine S.aF hp hj fun aU ak=>?_;refine S.bl ak fun aV aI=>?_;refine S.a1 ?_;refine S.al (Aw (aw _ (cw hj))) ?_;refine S.bin ?_;refine G.mv ?_;refine G.mv ?_;refine G.len ?_;refine G.bin ?_;refine G.and ?_;refine C.B (fun Z=>?_) fun Z=>?_
  ·simp only[be,aR]at Z;obtain⟨i,hi⟩:∃i:Nat,dW L[j].addr=(i:Int):=⟨(dW L[j].addr).toNat,by omega⟩
   have Q:i<out.length:=by omega
   have aP:=ac out[i] (cw Q);have e:dq out L[j]=out.set i (out[i]+1):=by
    unfold dq;rw[ae (by omega),hi,hC,bj Q];(try rfl)
   have M:=nK dq (List.replicate (bK d) 0) L j hj;rw[<-W,e]at M;have I:=tt (p:=L[j]) ac;rw[e]at I;refine S.ct Y Q (fun aE an=>?_) (hi:=by rw[<-hi];exact .t rfl);cases an;refine S.eJ (e:=bt) (l:=out) (j:=i) 0 0 ?_;refine S.bin ?_;refine S.ct Y Q (fun aH ao=>?_) (hi:=by rw[<-hi];exact .t rfl);cases ao;refine S.kK (e:=bt) (l:=out) (j:=i) (out[i]+1) 0 ?_;refine S.bin ?_;exact⟨aj-1,by omega,.done ⟨j+1,_,by omega,M.symm,by simpa using U,I,rfl,rfl,.r rfl⟩⟩
  ·have e:dq out L[j]=out:=by
    unfold dq;rw[ab (by simp only[iF,bD]at Z;omega)]
   have M:=nK dq (List.replicate (bK d) 0) L j hj;rw[<-W,e]at M;have I:=tt (p:=L[j]) ac;rw[e]at I;refine S.bin ?_;exact⟨aj-1,by omega,.done ⟨j+1,_,by omega,M.symm,U,I,rfl,rfl,.r rfl⟩⟩
 ·obtain rfl:j=L.length:=by omega
  rw[dT,hL]at W;have e:ga d sum=out:=by unfold ga;rw[W]
  rw[e];have Y:af bt (.sl A 0 (bK d) (.ex (bK d))) out (some A):=af.new U;exact⟨_,.t rfl .nil,.bL 0 rfl Y fun aZ aS ay=>.none ⟨rfl,ay⟩⟩
theorem KK [Fx F] {cs:List V} {d:au} {sum bv:Int} (hd:cu O cs d) (U:d.wait.length<=1000000) (hlen:d.last.length<=1000000) (Q:sum<=9223372036854775807):
 bm F 116 [.agg cs,.j sum,.j bv] O (.aN [.j ((ke d sum bv).getD 0),.bool (ke d sum bv).isSome]):=by
 obtain⟨ao,wv,rfl,hl,hw,sl,av⟩:=hd.open;refine ai.al (ar ?_);refine S.box fun a3=>?_;refine S.ag 0 ?_;refine S.call (KJ hd U hlen Q) fun Y Z ac an I=>?_;obtain⟨rfl,hu⟩:=I;obtain⟨az,A⟩:∃az,az=ga d sum:=⟨_,rfl⟩
 rw[<-A]at hu;have aj:az.length<=1000000:=by rw[A,rk];unfold bK;omega
 refine SW.bF (fun m E ψ R=>∃j:Nat,j+m=az.length/\hb bv (j:Int) (az.drop j)=ke d sum bv/\Z=ψ/\Sub [(2,.j bv),(8,Y),(9,.j (j:Int))] E) (m:=az.length) (.done ⟨0,by omega,by rw[A];(try rfl),rfl,.r rfl⟩) ?_;intro W E ψ R am M;obtain⟨j,ak,o,rfl,L⟩:=M;refine C.sub L ?_;refine S.len ?_ (hl:=aa.len hu);refine S.bin ?_;refine C.D (fun O3=>?_) fun O3=>?_
 ·have hj:j<az.length:=by omega
  rw[bQ hj]at o;simp only[hb]at o;refine S.aF hu hj fun ap ah=>?_;refine S.a1 ?_;refine S.bin ?_;refine G.mv ?_;refine G.mv ?_;refine G.bin ?_;refine G.and ?_;refine C.B (fun OT=>?_) fun OT=>?_
  ·simp only[be,aR,c3,bD]at OT;rw[ae OT]at o;rw[<-o];refine⟨_,.t rfl (.t rfl .nil),.done ?_⟩;rfl
  ·rw[ab (by intro h;simp[h.1,h.2]at OT)]at o;refine S.bin ?_;exact⟨W-1,by omega,.done ⟨j+1,by omega,o,rfl,.r rfl⟩⟩
 ·obtain rfl:j=az.length:=by omega
  rw[b6]at o;simp only[hb]at o;rw[<-o];refine⟨_,.t rfl (.t rfl .nil),.done ?_⟩;rfl
theorem rm {O:Fz} {d wv:V} {l:List Bs} {w:List lK} {a:Int} {b:Bool} (hl:aa dA O d l) (hw:aa j5 O wv w):same (.agg [d,wv,.j a,.bool b]) (.agg [d,wv,.j a,.bool b])=true:=by
 simp[same,b9,hl.c7,hw.c7,e0,kL]
theorem Ax [Fx F] {cs:List V} {d:au} {fr:Int} {W:V} {l:List aT} (hd:cu O cs d) (M:aa bu O W l) (aU:d.wait.length+l.length<=1000000) (hlen:d.last.length<=1000000) (aw:d.arm<=1000000) (aQ:0<=fr) (aR:fr<=1000000000):
 ai F 118 [.agg cs,.j fr,W] O [] (fun r ψ R=>R=[]/\∃cs',r=.aN [.agg cs',.bool (cQ d fr l).2]/\cu ψ cs' (cQ d fr l).1) never:=by
 obtain⟨U,wv,rfl,hl,hw,sl,a2⟩:=hd.open;refine ar ?_;refine S.box fun a3=>?_;refine S.alloc fun Y=>?_;refine SW.bF (fun m E ψ R=>∃(j:Nat) (o:au) (U wv:V),j+m=l.length/\cQ o (fr+j) (l.drop j)=cQ d fr l/\cu ψ [U,wv,.j o.arm,.bool o.down] o/\o.wait.length<=d.wait.length+j/\o.last.length<=1000000/\o.arm<=1000000/\R=[(some Y,.cells [.no .sl,.no .sl,.j 0,.bool false] false),(some a3,.cells [U,wv,.j o.arm,.bool o.down] false)]/\Sub [(1,.j fr),(2,W),(3,.ptr a3 0),(6,.ptr Y 0),(8,.j (j:Int))] E) (m:=l.length) (.done ⟨0,d,U,wv,by omega,by rw[nb,show fr+((0:Nat):Int)=fr by omega],hd,by omega,hlen,aw,rfl,.r rfl⟩) ?_;intro aE E ψ R az ap;obtain⟨j,o,aZ,a8,aS,A,Q,aV,aA,av,rfl,ao⟩:=ap;refine C.sub ao ?_;refine S.len ?_ (hl:=aa.len M);refine S.bin ?_;refine C.D (fun O0=>?_) fun O0=>?_
 ·have hj:j<l.length:=by omega
  have M:=M.mono az;rw[bQ hj]at A;simp only[cQ]at A;obtain⟨aD,aL,he,ac,ah,aH,aJ⟩:=Q.open;cases he;refine S.ag 1 ?_;refine S.bin ?_;refine S.aF M hj fun a1 aP=>?_;refine S.bJ ?_;refine S.alloc fun a9=>?_;refine S.al (vP (x:=l[j])) ?_;refine S.gZ 0 ?_;refine S.dg 2 ?_ (hs:=rm ac ah);refine S.call (zt (i:=fr+(j:Int)) (b:=dn l[j]) Q (by omega) av) fun a6 ba aM aW am=>?_;obtain⟨cs',rfl,G,rfl⟩:=am;obtain⟨L,Z⟩:∃L,L=(o.write (fr+(j:Int)) (dn l[j])):=⟨_,rfl⟩
  rw[<-Z]at G A⊢;have aC:=ts o (fr+(j:Int)) (dn l[j]);rw[<-Z]at aC;obtain⟨aj,ak,rfl,ay,aB,aI,aK⟩:=G.open;refine S.gZ 0 ?_;refine S.store 0 ?_;refine S.ag 0 ?_;refine S.store 2 ?_;refine S.un ?_;refine C.B (fun I=>?_) fun I=>?_
  ·have e:cQ d fr l=(L.1,false):=by rw[<-A,ab (by intro h;rw[h]at I;cases I)]
   rw[e];refine S.ag 2 ?_;refine S.store 1 ?_;exact⟨_,.cN 1 rfl rfl rfl rfl (.t rfl .nil),.none ⟨rfl,_,rfl,G⟩⟩
  ·rw[ae (by simpa using I),show fr+(j:Int)+1=fr+((j+1:Nat):Int) by omega]at A;refine S.bin ?_;exact⟨aE-1,by omega,.drop 0 (.done ⟨j+1,L.1,aj,ak,by omega,A,G,by omega,by omega,by omega,rfl,.r rfl⟩)⟩
 ·obtain rfl:j=l.length:=by omega
  rw[b6]at A;simp only[cQ]at A;rw[<-A];obtain⟨aD,aL,he,ac,ah,aH,aJ⟩:=Q.open;cases he;refine S.ag 1 ?_;refine S.call (zv Q (by omega) aA) fun a7 bb aO aX an=>?_;obtain⟨cs',rfl,G,rfl⟩:=an;obtain⟨aj,ak,rfl,ay,aB,aI,aK⟩:=G.open;refine S.store 0 ?_;exact⟨_,.cN 0 rfl rfl rfl rfl (.t rfl .nil),.none ⟨rfl,_,rfl,G⟩⟩
theorem KL {q:cy} {a:Int} (ha:0<=a):b0 .rem q (.j a) (.j 2)=some (.j (a%2)):=by
 show(bif cr .i64 .i64 then(bif gh 2 0 then none else some (V.j (a.tmod 2)))else none)=_;rw[show cr .i64 .i64=true from rfl,show gh 2 0=false from rfl,aE,bw,xu ha]
theorem Ay [Fx F] {cs:List V} {v:aV} {x:mC} (hv:bR O cs v) (am:v.d.wait.length+1<=1000000) (hlen:v.d.last.length<=1000000) (M:v.d.arm<=1000000) (hn:0<=x.n):
 ai F 71 [.agg cs,.agg [.j x.n,.j x.seq,.j x.sum,.j x.aJ,.j x.pos]] O [] (fun r ψ R=>R=[]/\∃cs',r=.aN [.agg cs',.bool (gu v.d x).2]/\cu ψ cs' (gu v.d x).1) never:=by
 obtain⟨ap,wv,aC,rfl,hl,hw,ht,sl,az,st,hd⟩:=hv.open;refine ar ?_;refine S.box fun Y=>?_;refine S.box fun a3=>?_;refine S.alloc fun a4=>?_;refine S.ag 2 ?_;refine S.ld 1 ?_;refine S.bin ?_ (hv:=KL hn);refine S.ag 1 ?_;refine S.alloc fun Z=>?_;refine S.al (JK (x:=x)) ?_;refine S.gZ 0 ?_;refine S.bE 2 ?_;refine S.dg 3 ?_ (hs:=rm hl hw);refine S.call (zt (i:=x.n%2) (b:=ir x) hd (by omega) M) fun aD aI U an I=>?_;obtain⟨cs',rfl,A,rfl⟩:=I;obtain⟨o,D⟩:∃o,o=(v.d.write (x.n%2) (ir x)):=⟨_,rfl⟩
 rw[<-D]at A⊢;have Q:=ts v.d (x.n%2) (ir x);rw[<-D]at Q;obtain⟨au,aF,rfl,ac,aj,aw,aA⟩:=A.open;refine S.gZ 0 ?_;refine S.store 0 ?_;refine S.un ?_;refine C.B (fun Pb=>?_) fun Pb=>?_
 ·have e:gu v.d x=(o.1,false):=by unfold gu;rw[<-D,ab (by intro h;rw[h]at Pb;cases Pb)]
  rw[e];refine S.ag 0 ?_;refine S.store 1 ?_;exact⟨_,.cN 1 rfl rfl rfl rfl (.t rfl .nil),.none ⟨rfl,_,rfl,A⟩⟩
 ·have e:gu v.d x=o.1.flush:=by unfold gu;rw[<-D,ae (by simpa using Pb)]
  rw[e];refine S.ag 0 ?_;refine S.call (zv A (by omega) (by omega)) fun aE aK W ao L=>?_;obtain⟨cs',rfl,G,rfl⟩:=L;obtain⟨av,aH,rfl,ah,ak,ay,aB⟩:=G.open;refine S.store 1 ?_;exact⟨_,.cN 1 rfl rfl rfl rfl (.t rfl .nil),.none ⟨rfl,_,rfl,G⟩⟩
def Az:cK:=⟨0,0,0,0,0⟩
def tu (O:Fz) (r:V) (x:Option bC):Prop:=∃w:cK×SV,r=.aN [.agg (eA.f w),.bool x.isSome]/\w.1=(x.map (·.r)).getD Az/\aa aG O w.2.1 ((x.map (·.t)).getD [])
theorem tu.no (O:Fz):tu O (.aN [.agg [.j 0,.j 0,.j 0,.j 0,.j 0,.no .sl],.bool false]) none:=⟨(Az,⟨.no .sl,rfl⟩),rfl,rfl,aa.nil O⟩
theorem tv [Fx F] {cs:List V} {v:aV} {kind id:Int} (hv:bR O cs v) (au:v.trees.length<=1000000):
 ai F 57 [.agg cs,.j kind,.j id] O [] (fun r ψ R=>ψ=O/\R=[]/\tu O r (iz v.trees kind id)) never:=by
 obtain⟨ag,wv,aj,rfl,hl,hw,ht,sl,aE,st,hd⟩:=hv.open;obtain⟨hs,A,hr⟩:=ht;have ap:=hr.len;refine ai.same (ar ?_);refine S.box fun a3=>?_;refine S.alloc fun M=>?_;refine SW.bF (fun m E ψ R=>∃j:Nat,j+m=v.trees.length/\iz (v.trees.drop j) kind id=iz v.trees kind id/\O=ψ/\R=[(some M,.cells [.j 0,.j 0,.j 0,.j 0,.j 0,.no .sl] false),(some a3,.cells [ag,wv,.j v.d.arm,.bool v.d.down,.j v.seq,.j v.sum,.j v.aJ,.j v.pos,.j v.n,.j v.next,.j v.id,aj] false)]/\Sub [(1,.j kind),(2,.j id),(3,.ptr a3 0),(6,.ptr M 0),(8,.j (j:Int))] E) (m:=v.trees.length) (.done ⟨0,by omega,rfl,rfl,rfl,.r rfl⟩) ?_;intro ah E ψ R ao ae;obtain⟨j,an,h,rfl,rfl,ac⟩:=ae;refine C.sub ac ?_;refine S.ld 1 ?_;refine S.len ?_ (hl:=aa.len A);refine S.bin ?_;refine C.D (fun O6=>?_) fun O6=>?_
 ·have hj:j<v.trees.length:=by omega
  rw[bQ hj]at h;simp only[iz,List.find?_cons]at h;obtain⟨w,I⟩:∃w,w=hs[j]:=⟨_,rfl⟩
  have am:hs[j]? =some w:=by rw[bj,I]
  obtain⟨L,U⟩:=hr.at (i:=j) (by omega) hj;rw[<-I]at L U;have aH:=w.2.2;refine S.ld 1 ?_;refine S.aF A (j:=j) (by omega) fun av Q=>?_;rw[<-I]at Q;refine S.bl Q fun aw W=>?_;refine S.bl W fun ay ak=>?_;refine S.a1 ?_;refine S.bin ?_;refine G.mv ?_;refine G.bin ?_;refine G.mv ?_;refine G.aD ?_;refine G.ld 1 ?_;refine G.mv ?_;refine G.aF A (j:=j) (z:=w) fun az Y=>?_;refine G.bl Y fun aA Z=>?_;refine G.bl Z fun aB al=>?_;refine G.a1 ?_;refine G.mv ?_;refine G.bin ?_;refine G.nF ?_;refine G.and ?_;refine C.B (fun o=>?_) fun o=>?_
  ·rw[L]at o;change pY kind id v.trees[j]=true at o;rw[o]at h;change some v.trees[j]=iz v.trees kind id at h;rw[<-h];refine S.ld 1 ?_;refine S.aF A (j:=j) (by omega) fun aC ab=>?_;rw[<-I]at ab;refine S.bJ ?_;refine S.store (v:=.agg (eA.f w)) 0 ?_ (hs:=eA.sc w);exact⟨_,.cN 0 rfl rfl rfl rfl (.t rfl .nil),.none ⟨rfl,w,rfl,L,U⟩⟩
  ·rw[L]at o;change pY kind id v.trees[j]=false at o;rw[o]at h;refine S.bin ?_;exact⟨ah-1,by omega,.done ⟨j+1,by omega,h,rfl,rfl,.r rfl⟩⟩
 ·obtain rfl:j=v.trees.length:=by omega
  rw[b6]at h;change none=_ at h;rw[<-h];refine S.build ?_;refine S.store 0 ?_;exact⟨_,.cN 0 rfl rfl rfl rfl (.t rfl .nil),.none ⟨rfl,tu.no _⟩⟩
theorem wq [Fx F] {cs:List V} {v:aV} (hv:bR O cs v) (A:v.trees.length<=1000000):
 ai F 26 [.agg cs] O [] (fun r ψ R=>R=[]/\aa aG ψ r (dD v.trees)) never:=by
 obtain⟨U,wv,Y,rfl,hl,hw,ht,sl,W,st,hd⟩:=hv.open;refine ar ?_;refine S.box fun L=>?_;refine S.ag 0 ?_;refine S.call (tv (kind:=1) (id:=0) hv A) fun ab ah I Q o=>?_;obtain⟨rfl,rfl,w,rfl,D,j⟩:=o;have ac:=w.2.2;obtain⟨X,h⟩:∃X,X=iz v.trees 1 0:=⟨_,rfl⟩
 rw[<-h]at D j⊢;refine S.alloc fun a3=>?_;refine S.store (v:=.agg (eA.f w)) 0 ?_ (hs:=eA.sc w);refine S.un ?_;refine C.B (fun Pg=>?_) fun Pg=>?_
 ·have e:dD v.trees=nG:=by
   unfold dD;rw[<-h];cases X with
   |none=>rfl
   |some x=>simp at Pg
  rw[e];refine S.call (zC) fun Z ae G M d=>?_;obtain⟨d,rfl⟩:=d;exact⟨_,.t rfl .nil,.none ⟨rfl,d⟩⟩
 ·have e:dD v.trees=(X.map (·.t)).getD []:=by
   unfold dD;rw[<-h];cases X with
   |none=>simp at Pg
   |some x=>rfl
  rw[e];refine S.ld 0 ?_;exact⟨_,.t rfl .nil,.none ⟨rfl,j⟩⟩
theorem tw {O:Fz} {h wv o:V} {v:aV} {l:List bC} (hl:aa dA O h v.d.last) (hw:aa j5 O wv v.d.wait) (ht:hf O o l):bR O [h,wv,.j v.d.arm,.bool v.d.down,.j v.seq,.j v.sum,.j v.aJ,.j v.pos,.j v.n,.j v.next,.j v.id,o] {v with trees:=l}:=⟨h,wv,o,rfl,hl,hw,ht⟩
theorem AA [Fx F] {cs:List V} {v:aV} {kind id:Int} (hv:bR O cs v) (aM:v.trees.length<=1000000):
 ai F 98 [.agg cs,.j kind,.j id] O [] (fun r ψ R=>R=[]/\∃cs',r=.aN [.agg cs',.bool (fF v.trees kind id).isSome]/\bR ψ cs' {v with trees:=(fF v.trees kind id).getD v.trees}) never:=by
 obtain⟨av,wv,aB,rfl,hl,hw,ht,sl,aX,st,hd⟩:=hv.open;obtain⟨hs,A,hr⟩:=ht;have aL:=hr.len;refine ar ?_;refine S.box fun a3=>?_;refine S.alloc fun W=>?_;refine SW.bF (fun m E ψ R=>∃j:Nat,j+m=v.trees.length/\(fF (v.trees.drop j) kind id).map (v.trees.take j++·)=fF v.trees kind id/\O=ψ/\R=[(some W,.cells [.no .sl,.no .sl,.j 0,.bool false,.j 0,.j 0,.j 0,.j 0,.j 0,.j 0,.j 0,.no .sl] false),(some a3,.cells [av,wv,.j v.d.arm,.bool v.d.down,.j v.seq,.j v.sum,.j v.aJ,.j v.pos,.j v.n,.j v.next,.j v.id,aB] false)]/\Sub [(1,.j kind),(2,.j id),(3,.ptr a3 0),(6,.ptr W 0),(8,.j (j:Int))] E) (m:=v.trees.length) (.done ⟨0,by omega,by simp,rfl,rfl,.r rfl⟩) ?_;intro aw E ψ R aK an;obtain⟨j,aI,h,rfl,rfl,am⟩:=an;refine C.sub am ?_;refine S.ld 1 ?_;refine S.len ?_ (hl:=aa.len A);refine S.bin ?_;refine C.D (fun O6=>?_) fun O6=>?_
 ·have hj:j<v.trees.length:=by omega
  rw[bQ hj]at h;simp only[fF]at h;obtain⟨w,I⟩:∃w,w=hs[j]:=⟨_,rfl⟩
  have aH:hs[j]? =some w:=by rw[bj,I]
  obtain⟨Q,aA⟩:=hr.at (i:=j) (by omega) hj;rw[<-I]at Q aA;have a6:=w.2.2;refine S.ld 1 ?_;refine S.aF A (j:=j) (by omega) fun aO Y=>?_;rw[<-I]at Y;refine S.bl Y fun aP ah=>?_;refine S.bl ah fun aQ aC=>?_;refine S.a1 ?_;refine S.bin ?_;refine G.mv ?_;refine G.bin ?_;refine G.mv ?_;refine G.aD ?_;refine G.ld 1 ?_;refine G.mv ?_;refine G.aF A (j:=j) (z:=w) fun aR aj=>?_;refine G.bl aj fun aS ak=>?_;refine G.bl ak fun aT aE=>?_;refine G.a1 ?_;refine G.mv ?_;refine G.bin ?_;refine G.nF ?_;refine G.and ?_;refine C.B (fun o=>?_) fun o=>?_
  ·rw[Q]at o;change pY kind id v.trees[j]=true at o;rw[ae o]at h;simp only[dM]at h;rw[<-h];refine S.a8 fun U=>?_;have ay:af eA (.sl U 0 0 (.ex 0)) [] (some U):=af.new rfl;obtain⟨aZ,au,al⟩:=aa.hi A (j:=j) (by omega);obtain⟨a2,ac,Z⟩:=aa.lo A (j:=j+1) (by omega);refine S.ld 2 ?_;refine S.slice au ?_;refine S.ld 2 ?_;refine S.bin ?_ (v:=.j ((j+1:Nat):Int)) (hv:=by rw[dz (by omega) (by omega)];(try rfl));refine S.slice ac ?_;refine S.br (m:=hs.take j) 0 ay (.f al) (by simp;omega) fun v45 aU az=>?_;refine S.v7 ac Z.same ?_;refine S.bE 2 ?_ (hs:=A.same);refine S.br (m:=hs.drop (j+1)) 0 az (.f Z) (by simp;omega) fun v51 aW M=>?_;have a7:=M.ax;rw[fo]at M⊢;have ap:=(hr.take j).app (hr.drop (j+1));refine S.fB 2 ?_;refine S.ag 2 ?_;refine S.store 1 ?_;exact⟨_,.cN 1 rfl rfl rfl rfl (.t rfl .nil),.bL 0 rfl M fun ba L ao=>.none ⟨rfl,_,rfl,tw (hl.mono L) (hw.mono L) ⟨_,ao,ap.mono L⟩⟩⟩
  ·rw[Q]at o;change pY kind id v.trees[j]=false at o;rw[ab (by rw[o];simp)]at h;rw[Option.map_map]at h;refine S.bin ?_;exact⟨aw-1,by omega,.done ⟨j+1,by omega,by rw[<-h,fm hj];congr 1;funext x;exact bp _ _ _,rfl,rfl,.r rfl⟩⟩
 ·obtain rfl:j=v.trees.length:=by omega
  rw[b6]at h;change none=_ at h;rw[<-h];refine S.ag 1 ?_;refine S.store 0 ?_;exact⟨_,.cN 0 rfl rfl rfl rfl (.t rfl .nil),.none ⟨rfl,_,rfl,tw hl hw ⟨_,A,hr⟩⟩⟩
theorem KM [Fx F] {a b:cK}:bm F 99 [.agg [.j a.kind,.j a.id,.j a.cZ,.j a.base,.j a.done],.agg [.j b.kind,.j b.id,.j b.cZ,.j b.base,.j b.done]] O (.bool (wj a b)):=by
 refine ai.al (ar ?_);refine S.box fun d=>?_;refine S.box fun a3=>?_;refine S.ld 1 ?_;refine S.ld 0 ?_;refine S.bin ?_;refine G.aD ?_;refine G.ld 1 ?_;refine G.aD ?_;refine G.ld 0 ?_;refine G.bin ?_;refine G.mv ?_;refine G.aD ?_;refine G.ld 1 ?_;refine G.aD ?_;refine G.ld 0 ?_;refine G.bin ?_;refine G.fV ?_;refine G.or ?_;refine⟨_,.t rfl .nil,.done ?_⟩;rfl
set_option maxHeartbeats 1000000
theorem cp {d wv h:V} {v:aV} (o:isScalar d=true) (aj:isScalar wv=true) (j:isScalar h=true):aY (bf d wv h v)=true:=by simp[bf,aY,iV,jF, *]
theorem wu {l:List bC} {k i:Int}:((fF l k i).getD l).length<=l.length:=by
 have key:∀(l:List bC) r,fF l k i=some r->r.length<=l.length:=by
  intro l;induction l with
  |nil=>intro r h;cases h
  |cons a l d=>
   intro r h;simp only[fF]at h;split at h
   ·cases h;simp
   ·obtain⟨y,o,aj⟩:=jR.1 h;subst aj;have:=d y o;simp;omega
 cases h:fF l k i with
 |none=>exact aB _
 |some r=>exact key l r h
theorem AB (h:bC) (l:List bC):(ji h l).length=l.length+1:=by
 induction l with
 |nil=>rfl
 |cons a l d=>simp only[ji];split<;>simp[d]
theorem AD [Fx F] {cs:List V} {v:aV} {h:bC} {ht:SV} (hv:bR O cs v) (aP:v.trees.length<=1000000) (aj:aa aG O ht.1 h.t):
 ai F 59 [.agg cs,.agg [.j h.r.kind,.j h.r.id,.j h.r.cZ,.j h.r.base,.j h.r.done,ht.1]] O [] (fun r ψ R=>R=[]/\∃cs',r=.agg cs'/\bR ψ cs' {v with trees:=dX v.trees h}) never:=by
 obtain⟨au,wv,av,rfl,hl,hw,bs,sl,bA,st,hd⟩:=hv.open;have bo:=ht.2;refine ar ?_;refine S.box fun M=>?_;refine S.box fun a3=>?_;refine S.alloc fun a4=>?_;refine S.ag 2 ?_;refine S.ld 1 ?_;refine S.ld 1 ?_;refine S.call (AA (kind:=h.r.kind) (id:=h.r.id) hv aP) fun bB I bb ao aI=>?_;obtain⟨rfl,cs',rfl,aA⟩:=aI;obtain⟨o,an⟩:∃o,o=(fF v.trees h.r.kind h.r.id).getD v.trees:=⟨_,rfl⟩
 have bv:o.length<=1000000:=by have:=wu (l:=v.trees) (k:=h.r.kind) (i:=h.r.id);rw[<-an]at this;omega
 have aH:dX v.trees h=ji h o:=by unfold dX;rw[an]
 rw[<-an]at aA;rw[aH];obtain⟨lx,wx,Y,rfl,bm,bt,hx,aZ,a1,a2,bh⟩:=aA.open;obtain⟨hx,ah,hr⟩:=hx;change HR I hx o at hr;have bn:=hr.len;have aj:=aj.mono ao;have hl:=hl.mono ao;have hw:=hw.mono ao;have ay:HR I [(h.r,ht)] [h]:=HR.one aj;refine S.alloc fun a5=>?_;refine S.store (v:=.agg (bf lx wx Y {v with trees:=o})) 0 ?_ (hs:=cp aZ a1 a2);refine SW.new eA ?_;refine SW.bF (fun m E ψ R=>∃(j:Nat) (out:List (cK×SV)) (lo:List bC) (u:V) (s:Option Pa) (p:Bool),j+m=o.length/\out.length=j+p.toNat/\HR I out lo/\ji h o=lo++(if p then o.drop j else ji h (o.drop j))/\I=ψ/\R=[eA.ob s out,(some a5,.cells [lx,wx,.j v.d.arm,.bool v.d.down,.j v.seq,.j v.sum,.j v.aJ,.j v.pos,.j v.n,.j v.next,.j v.id,Y] false),(some a4,.cells [.no .sl,.no .sl,.j 0,.bool false,.j 0,.j 0,.j 0,.j 0,.j 0,.j 0,.j 0,.no .sl] false),(some a3,.cells [.j h.r.kind,.j h.r.id,.j h.r.cZ,.j h.r.base,.j h.r.done,ht.1] false),(some M,.cells [au,wv,.j v.d.arm,.bool v.d.down,.j v.seq,.j v.sum,.j v.aJ,.j v.pos,.j v.n,.j v.next,.j v.id,av] false)]/\af eA u out s/\Sub [(2,.ptr M 0),(3,.ptr a3 0),(4,.ptr a4 0),(5,.ptr a5 0),(7,u),(8,.bool p),(9,.j (j:Int))] E) (m:=o.length) (.done ⟨0,[],[],.no .sl,none,false,by omega,rfl,HR.nil _,rfl,rfl,rfl,af.nil,.r rfl⟩) ?_;intro aQ E ψ R aw aK;obtain⟨j,out,lo,u,s,p,bk,ak,L,A,rfl,rfl,ho,Q⟩:=aK;refine C.sub Q ?_;refine S.ld 1 ?_;refine S.len ?_ (hl:=aa.len ah);refine S.bin ?_;refine C.D (fun OW=>?_) fun OW=>?_
 ·have hj:j<o.length:=by omega
  have az:=o8 p;rw[bQ hj]at A;obtain⟨w,am⟩:∃w,w=hx[j]:=⟨_,rfl⟩
  have bi:hx[j]? =some w:=by rw[bj,am]
  obtain⟨W,aB⟩:=hr.at (i:=j) (by omega) hj;rw[<-am]at W aB;have bG:=w.2.2;have aO:HR I [w] [o[j]]:=by
   have:=HR.one (r:=w.1) (w:=w.2) aB;rw[W]at this;obtain⟨bD,bE⟩:=w;cases W;exact this
  refine S.un ?_;refine G.aD ?_;refine G.ag 3 ?_;refine G.aD ?_;refine G.ld 1 ?_;refine G.mv ?_;refine G.aF ah (j:=j) (z:=w) fun bw aC=>?_;refine G.bl aC fun bx bg=>?_;refine G.bJ ?_ (l:=[.j w.1.kind,.j w.1.id,.j w.1.cZ,.j w.1.base,.j w.1.done]);refine G.al (fun _=>KM (a:=h.r) (b:=w.1)) ?_;rw[W];refine G.and ?_;refine SW.oB (fun E ψ R=>∃(out:List (cK×SV)) (lo:List bC) (u:V) (s:Option Pa) (p:Bool),out.length=j+p.toNat/\HR I out lo/\ji h o=lo++o[j]::(if p then o.drop (j+1)else ji h (o.drop (j+1)))/\I=ψ/\R=[eA.ob s out,(some a5,.cells [lx,wx,.j v.d.arm,.bool v.d.down,.j v.seq,.j v.sum,.j v.aJ,.j v.pos,.j v.n,.j v.next,.j v.id,Y] false),(some a4,.cells [.no .sl,.no .sl,.j 0,.bool false,.j 0,.j 0,.j 0,.j 0,.j 0,.j 0,.j 0,.no .sl] false),(some a3,.cells [.j h.r.kind,.j h.r.id,.j h.r.cZ,.j h.r.base,.j h.r.done,ht.1] false),(some M,.cells [au,wv,.j v.d.arm,.bool v.d.down,.j v.seq,.j v.sum,.j v.aJ,.j v.pos,.j v.n,.j v.next,.j v.id,av] false)]/\af eA u out s/\Sub [(2,.ptr M 0),(3,.ptr a3 0),(4,.ptr a4 0),(5,.ptr a5 0),(7,u),(8,.bool p),(9,.j (j:Int))] E) ?_ ?_
  ·refine C.B (fun U=>?_) fun U=>?_
   ·refine S.ag 3 ?_;refine S.a8 fun bc=>?_;refine S.br (m:=[(h.r,ht)]) 1 ho (.lit 0) (by simp;omega) fun a6 aU aR=>?_;refine S.drop 0 ?_;refine S.mv ?_;simp only[be,c3]at U;obtain⟨rfl,aM⟩:=U;rw[ab (by simp)]at A;simp only[ji]at A;rw[ae aM]at A;exact .done ⟨out++[(h.r,ht)],lo++[h],a6,aU,true,by simpa using ak,L.app ay,by rw[A,bp];(try rfl),rfl,rfl,aR,.r rfl⟩
   ·refine .done ⟨out,lo,u,s,p,ak,L,?_,rfl,rfl,ho,.r rfl⟩;rw[A];cases p with
    |true=>rfl
    |false=>
     have hn:wj h.r o[j].r=false:=by simpa using U
     simp only[ji];rw[ab (by simp),ab (by rw[hn];simp),ab (by simp)]
  intro E ψ R aw ac;obtain⟨out,lo,u,s,p,ak,L,A,rfl,rfl,ho,Q⟩:=ac;refine C.sub Q ?_;refine S.ld 1 ?_;refine S.aF ah (j:=j) (by omega) fun bz aE=>?_;rw[<-am]at aE;refine S.bJ ?_;refine S.a8 (l:=eA.f w) (sd:=eA.f w) (fun a51=>?_) (dl:=eA.sc w) (hs:=eA.sc w);have az:=o8 p;refine S.br (m:=[w]) 1 ho (.lit 0) (by simp;omega) fun a7 aW aS=>?_;refine S.drop 0 ?_;refine S.mv ?_;refine S.bin ?_;exact⟨aQ-1,by omega,.done ⟨j+1,out++[w],lo++[o[j]],a7,aW,p,by omega,by simp;omega,L.app aO,by rw[A,bp];(try rfl),rfl,rfl,aS,.r rfl⟩⟩
 ·obtain rfl:j=o.length:=by omega
  rw[b6]at A;have az:=o8 p;refine S.un ?_;refine SW.oB (fun E ψ R=>∃(out:List (cK×SV)) (u:V) (s:Option Pa),HR I out (ji h o)/\I=ψ/\R=[eA.ob s out,(some a5,.cells [lx,wx,.j v.d.arm,.bool v.d.down,.j v.seq,.j v.sum,.j v.aJ,.j v.pos,.j v.n,.j v.next,.j v.id,Y] false),(some a4,.cells [.no .sl,.no .sl,.j 0,.bool false,.j 0,.j 0,.j 0,.j 0,.j 0,.j 0,.j 0,.no .sl] false),(some a3,.cells [.j h.r.kind,.j h.r.id,.j h.r.cZ,.j h.r.base,.j h.r.done,ht.1] false),(some M,.cells [au,wv,.j v.d.arm,.bool v.d.down,.j v.seq,.j v.sum,.j v.aJ,.j v.pos,.j v.n,.j v.next,.j v.id,av] false)]/\af eA u out s/\Sub [(2,.ptr M 0),(4,.ptr a4 0),(7,u)] E) ?_ ?_
  ·refine C.B (fun Z=>?_) fun Z=>?_
   ·refine S.ag 3 ?_;refine S.a8 fun bd=>?_;refine S.br (m:=[(h.r,ht)]) 1 ho (.lit 0) (by simp;omega) fun ba aX aT=>?_;refine S.drop 0 ?_;refine S.mv ?_;have hp:p=false:=by simpa using Z
    subst hp;rw[ab (by simp)]at A;exact .done ⟨_,ba,aX,by rw[A];exact L.app ay,rfl,rfl,aT,.r rfl⟩
   ·have hp:p=true:=by simpa using Z
    subst hp;rw[ae rfl,e9]at A;exact .done ⟨_,u,s,by rw[A];exact L,rfl,rfl,ho,.r rfl⟩
  intro E ψ R aw ac;obtain⟨out,u,s,L,rfl,rfl,ho,Q⟩:=ac;refine C.sub Q ?_;have bH:=ho.ax;refine S.fB 4 ?_;refine S.ag 4 ?_;refine S.store 2 ?_;exact⟨_,.cN 2 rfl rfl rfl rfl .nil,.bL 0 rfl ho fun bI ap aL=>.none ⟨rfl,_,rfl,tw (hl.mono ap) (hw.mono ap) ⟨_,aL,L.mono ap⟩⟩⟩
set_option maxHeartbeats 1000000
def wy (x:Option bC):cK:=(x.map (·.r)).getD ⟨1,0,0,0,0⟩
theorem KN {l:List bC} {t:ao} (h:bH t=true):jj l t=dX l ⟨wy (iz l 1 0),t⟩:=by unfold jj wy;rw[ae h]
theorem AE {l:List bC} {k i:Int} {x:bC} (h:iz l k i=some x):x∈l:=qa h
theorem AF [Fx F] {cs:List V} {v:aV} {A:V} {t:ao} (hv:bR O cs v) (G:v.trees.length<=1000000) (hu:aa aG O A t) (Z:bI t):
 ai F 27 [.agg cs,A] O [] (fun r ψ R=>R=[]/\∃cs',r=.agg cs'/\bR ψ cs' {v with trees:=jj v.trees t}) never:=by
 obtain⟨aj,wv,ap,rfl,hl,hw,ht,sl,aF,st,hd⟩:=hv.open;have ae:=hu.ax;refine ar ?_;refine S.box fun D=>?_;refine S.alloc fun a4=>?_;refine S.al (tm hu Z) ?_;refine S.un ?_;refine C.B (fun O7=>?_) fun O7=>?_
 ·have e:jj v.trees t=v.trees:=by unfold jj;rw[ab (by intro h;rw[h]at O7;cases O7)]
  rw[e];refine S.ag 1 ?_;refine S.store 0 ?_;exact⟨_,.cN 0 rfl rfl rfl rfl .nil,.none ⟨rfl,_,rfl,tw hl hw ht⟩⟩
 ·have hm:bH t=true:=by simpa using O7
  rw[KN hm];refine S.ag 1 ?_;refine S.call (tv (kind:=1) (id:=0) hv G) fun aH av aw aD M=>?_;obtain⟨rfl,rfl,w,rfl,L,ah⟩:=M;have aI:=w.2.2;obtain⟨X,Y⟩:∃X,X=iz v.trees 1 0:=⟨_,rfl⟩
  rw[<-Y]at L ah⊢;refine S.alloc fun a5=>?_;refine S.store (v:=.agg (eA.f w)) 0 ?_ (hs:=eA.sc w);refine S.un ?_;refine SW.then (fun E ψ R=>av=ψ/\∃o:cK,o=wy X/\R=[(some a5,.cells [.j o.kind,.j o.id,.j o.cZ,.j o.base,.j o.done,w.2.1] false),(some a4,.cells [.no .sl,.no .sl,.j 0,.bool false,.j 0,.j 0,.j 0,.j 0,.j 0,.j 0,.j 0,.no .sl] false),(some D,.cells [aj,wv,.j v.d.arm,.bool v.d.down,.j v.seq,.j v.sum,.j v.aJ,.j v.pos,.j v.n,.j v.next,.j v.id,ap] false)]/\Sub [(1,A),(2,.ptr D 0),(4,.ptr a4 0),(5,.ptr a5 0)] E) ?_ ?_
  ·refine C.B (fun O1=>?_) fun O1=>?_
   ·refine S.build ?_;refine S.store 0 ?_;refine⟨rfl,⟨1,0,0,0,0⟩,?_,rfl,.r rfl⟩;cases X with
    |none=>rfl
    |some x=>simp at O1
   ·refine⟨rfl,w.1,?_,rfl,.r rfl⟩;rw[L];cases X with
    |none=>simp at O1
    |some x=>rfl
  intro E ψ R aA W;obtain⟨rfl,o,ac,rfl,U⟩:=W;refine C.sub U ?_;refine S.ag 2 ?_;refine S.ag 0 ?_ (l:=[.j o.kind,.j o.id,.j o.cZ,.j o.base,.j o.done]);refine S.build ?_;rw[<-ac];refine S.call (AD (h:=⟨o,t⟩) (ht:=⟨A,ae⟩) hv G hu) fun v25 aK ay aE Q=>?_;obtain⟨rfl,cs',rfl,I⟩:=Q;obtain⟨lx,wx,au,rfl,aB,aC,hx,ak,am,an,az⟩:=I.open;refine S.store (v:=.agg (bf lx wx au {v with trees:=dX v.trees ⟨o,t⟩})) 1 ?_ (hs:=cp ak am an);exact⟨_,.cN 1 rfl rfl rfl rfl .nil,.none ⟨rfl,_,rfl,I⟩⟩
theorem KO [Fx F] {cs:List V} {v:aV} (hv:bR O cs v) (av:v.trees.length<=1000000):
 ai F 257 [.agg cs] O [] (fun r ψ R=>R=[]/\aa df ψ r (pZ v.trees)) never:=by
 obtain⟨Z,wv,ah,rfl,hl,hw,ht,sl,aD,st,hd⟩:=hv.open;obtain⟨hs,A,hr⟩:=ht;have au:=hr.len;refine ar ?_;refine S.box fun G=>?_;refine SW.new df ?_;refine SW.bF (fun m E ψ R=>∃(j:Nat) (out:List cK) (u:V) (s:Option Pa),j+m=v.trees.length/\out++pZ (v.trees.drop j)=pZ v.trees/\out.length<=j/\O=ψ/\R=[df.ob s out,(some G,.cells [Z,wv,.j v.d.arm,.bool v.d.down,.j v.seq,.j v.sum,.j v.aJ,.j v.pos,.j v.n,.j v.next,.j v.id,ah] false)]/\af df u out s/\Sub [(1,.ptr G 0),(3,u),(4,.j (j:Int))] E) (m:=v.trees.length) (.done ⟨0,[],.no .sl,none,by omega,rfl,by simp,rfl,rfl,af.nil,.r rfl⟩) ?_;intro M E ψ R ao W;obtain⟨j,out,u,s,an,h,ap,rfl,rfl,ho,U⟩:=W;refine C.sub U ?_;refine S.ld 1 ?_;refine S.len ?_ (hl:=aa.len A);refine S.bin ?_;refine C.D (fun O7=>?_) fun O7=>?_
 ·have hj:j<v.trees.length:=by omega
  rw[bQ hj]at h;simp only[pZ,qf]at h;obtain⟨w,B⟩:∃w,w=hs[j]:=⟨_,rfl⟩
  have o:=(hr.at (i:=j) (by omega) hj).1;rw[<-B]at o;have aE:=w.2.2;refine S.ld 1 ?_;refine S.aF A (j:=j) (by omega) fun ay I=>?_;rw[<-B]at I;refine S.bl I fun az Q=>?_;refine S.bl Q fun aA al=>?_;refine S.a1 ?_;refine S.bin ?_;refine C.D (fun OZ=>?_) fun OZ=>?_
  ·rw[o]at OZ;rw[ae (by rw[OZ];(try rfl)),eD]at h;refine S.ld 1 ?_;refine S.aF A (j:=j) (by omega) fun aB L=>?_;rw[<-B]at L;refine S.bl L fun aC am=>?_;refine S.bJ ?_ (l:=df.f w.1);refine S.a8 (l:=df.f w.1) (sd:=df.f w.1) (fun ak=>?_) (dl:=df.sc w.1) (hs:=df.sc w.1);refine S.br (m:=[w.1]) 1 ho (.lit 0) (by simp;omega) fun aj ag ac=>?_;refine S.drop 0 ?_;refine S.mv ?_;refine S.bin ?_;exact⟨M-1,by omega,.done ⟨j+1,out++[w.1],aj,ag,by omega,by rw[bp,o];exact h,by simp;omega,rfl,rfl,ac,.r rfl⟩⟩
  ·rw[o]at OZ;rw[ab (by simpa using OZ)]at h;refine S.bin ?_;exact⟨M-1,by omega,.done ⟨j+1,out,u,s,by omega,h,by omega,rfl,rfl,ho,.r rfl⟩⟩
 ·obtain rfl:j=v.trees.length:=by omega
  rw[b6]at h;change out++[]=_ at h;rw[e9]at h;rw[<-h];exact⟨_,.t rfl .nil,.bL 0 rfl ho fun aH aw Y=>.none ⟨rfl,Y⟩⟩
theorem KP [Fx F] {cs:List V} {v:aV} (hv:bR O cs v) (h:v.trees.length<=1000000):
 bm F 229 [.agg cs] O (.j ((pZ v.trees).length:Nat)):=by
 obtain⟨D,wv,I,rfl,hl,hw,ht,sl,G,st,hd⟩:=hv.open;refine ai.al (ar ?_);refine S.box fun A=>?_;refine S.ag 0 ?_;refine S.call (KO hv h) fun v4 L o B d=>?_;obtain⟨rfl,hq⟩:=d;refine S.len ?_ (hl:=aa.len hq);refine⟨_,.t rfl .nil,.done ?_⟩;rfl
theorem wz [Fx F] {cs ds:List V} {v:aV} {d:au} (hv:bR O cs v) (hd:cu O ds d):
 ai F 117 [.agg cs,.agg ds] O [] (fun r ψ R=>R=[]/\∃cs',r=.aN [.agg cs',.j 11]/\bR ψ cs' {v with d:=d}) never:=by
 obtain⟨D,wv,A,rfl,hl,hw,ht,sl,I,st,_⟩:=hv.open;obtain⟨lx,wx,rfl,h,o,G,L⟩:=hd.open;refine ar ?_;refine S.box fun B=>?_;refine S.box fun a3=>?_;refine S.alloc fun a4=>?_;refine S.ag 1 ?_;refine S.store 2 ?_;refine S.ag 2 ?_;refine S.store 0 ?_;exact⟨_,.cN 0 rfl rfl rfl rfl (.t rfl .nil),.none ⟨rfl,_,rfl,lx,wx,A,rfl,h,o,ht⟩⟩
end Go.Ev
namespace Go.Ev
def alike (x y:aT):Bool:=decide (y.kind=x.kind)&&decide (y.load=x.load)
def p0 (x:aT):List (ah×aT)->Option ah
 |[]=>none
 |q::l=>if alike x q.2 then some q.1 else p0 x l
def newAt (x:aT):Int->List aT->Option Int
 |_,[]=>none
 |i,y::l=>if alike x y then some i else newAt x (i+1) l
structure hg where
 new:List aT
 bad:Bool
def gE (aC:List (ah×aT)) (gen fr:Int) (s:hg) (x:aT):ah×hg:=match p0 x aC with
 |some p=>(p,s)
 |none=>match newAt x fr s.new with
  |some a=>(⟨a,gen⟩,s)
  |none=>(⟨fr+s.new.length,gen⟩,⟨s.new++[x],s.bad||(decide (fr+s.new.length>65535)||decide (fr+s.new.length<0))⟩)
def eO (aC:List (ah×aT)) (gen fr:Int):hg->List aT->List ah×hg
 |s,[]=>([],s)
 |s,x::l=>
         let a:=gE aC gen fr s x
         let b:=eO aC gen fr a.2 l
         (a.1::b.1,b.2)
def nL (aC:List (ah×aT)) (gen fr:Int) (s:hg) (h:bC):Option (ah×hg):=
 if bH h.t then
  let a:=eO aC gen fr s ((b3 h.t).map (fZ gen))
  let b:=eO aC gen fr a.2 (gD gen ((b3 h.t).zip a.1))
  if ey gen h.r b.1=fA then none else some (gE aC gen fr b.2 (ey gen h.r b.1))
 else none
def mJ (aC:List (ah×aT)) (gen fr:Int):hg->List bC->List ah->Option (hg×List ah)
 |s,[],roots=>some (s,roots)
 |s,h::l,roots=>match nL aC gen fr s h with
  |none=>none
  |some (p,s')=>mJ aC gen fr s' l (roots++[p])
def lS (d:au) (lo hi:Int) (p:ah):Option (ah×aT):=match bP d p.addr p.gen with
 |none=>none
 |some x=>if p.addr<lo\/p.addr>=hi then some (p,x)else none
def tz (d:au) (sum lo hi:Int):List (ah×aT):=((blocks d sum).getD []).filterMap (lS d lo hi)
def lay (d:au) (sum gen fr lo hi:Int) (trees:List bC):Option (List aT×List ah):=
 if 7<trees.length\/e1 gen=false\/fr<0 then none
 else match mJ (tz d sum lo hi) gen fr ⟨[],false⟩ trees []with
  |none=>none
  |some (s,roots)=>if s.bad then none else some (s.new,roots)
end Go.Ev
