/- A part of the proof of glacislaw15.SegUsed (made short by a program). -/
import Derived.Test.YtebhegkangheiaaGreatDoorUK
set_option maxHeartbeats 4000000
namespace Go.Ev
variable{F:Nat→Option aP} {O:Fz}
theorem MB [Fx F] {d G:V} {a b:List aT} (o:aa bu O d a) (aj:aa bu O G b) (hlen:a.length≤1000000000):bm F 232 [d,G] O (.bool (decide (a=b))):=by
 refine ai.al (ar ?_);refine S.len ?_ (hl:=aa.len o);refine S.len ?_ (hl:=aa.len aj);refine S.bin ?_;refine C.B (fun OU=>?_) fun OU=>?_
 ·have e:decide (a=b)=false:=by
   rw[bD];intro h;subst h;simp at OU
  rw[e];refine⟨_,.t rfl .nil,.done ?_⟩;rfl
 ·have hl:a.length=b.length:=by simp at OU;omega
  refine S.len ?_ (hl:=aa.len o);refine SW.bF (fun m E ψ R=>∃j:Nat,j+m=a.length∧decide (a=b)=decide (a.drop j=b.drop j)∧O=ψ∧R=[]∧Sub [(0,d),(1,G),(11,d),(12,.j (a.length:Int)),(13,.j (j:Int))] E) (m:=a.length) (.done ⟨0,by omega,rfl,rfl,rfl,.r rfl⟩) ?_;intro M E ψ R W L;obtain⟨j,hj,hd,rfl,rfl,I⟩:=L;refine C.sub I ?_;refine S.bin ?_;refine C.D (fun O0=>?_) fun O0=>?_
  ·have ha:j<a.length:=by omega
   have A:j<b.length:=by omega
   refine S.aF o ha fun Y Q=>?_;refine S.bJ ?_ (l:=bu.f a[j]);refine S.aF aj A fun Z U=>?_;refine S.bJ ?_ (l:=bu.f b[j]);refine S.bin ?_ (hv:=nJ a[j] b[j]);refine C.B (fun O8=>?_) fun O8=>?_
   ·have e:decide (a=b)=false:=by
     rw[hd,bD,pS ha A];intro h;simp[h.1]at O8
    rw[e];refine⟨_,.t rfl .nil,.done ?_⟩;rfl
   ·refine S.bin ?_;refine⟨M-1,by omega,.done ⟨j+1,by omega,?_,rfl,rfl,.r rfl⟩⟩;rw[hd];refine decide_eq_decide.2 ?_;rw[pS ha A];exact⟨fun h=>h.2,fun h=>⟨by simpa using O8,h⟩⟩
  ·have e:decide (a=b)=true:=by
    rw[hd,jS (by omega),jS (by omega)];(try rfl)
   rw[e];refine⟨_,.t rfl .nil,.done ?_⟩;rfl
theorem MC [Fx F] {d G:V} {a b:List bA} (o:aa bq O d a) (aj:aa bq O G b) (hlen:a.length≤1000000000):bm F 235 [d,G] O (.bool (decide (a=b))):=by
 refine ai.al (ar ?_);refine S.len ?_ (hl:=aa.len o);refine S.len ?_ (hl:=aa.len aj);refine S.bin ?_;refine C.B (fun OU=>?_) fun OU=>?_
 ·have e:decide (a=b)=false:=by
   rw[bD];intro h;subst h;simp at OU
  rw[e];refine⟨_,.t rfl .nil,.done ?_⟩;rfl
 ·have hl:a.length=b.length:=by simp at OU;omega
  refine S.len ?_ (hl:=aa.len o);refine SW.bF (fun m E ψ R=>∃j:Nat,j+m=a.length∧decide (a=b)=decide (a.drop j=b.drop j)∧O=ψ∧R=[]∧Sub [(0,d),(1,G),(11,d),(12,.j (a.length:Int)),(13,.j (j:Int))] E) (m:=a.length) (.done ⟨0,by omega,rfl,rfl,rfl,.r rfl⟩) ?_;intro M E ψ R W L;obtain⟨j,hj,hd,rfl,rfl,I⟩:=L;refine C.sub I ?_;refine S.bin ?_;refine C.D (fun O0=>?_) fun O0=>?_
  ·have ha:j<a.length:=by omega
   have A:j<b.length:=by omega
   refine S.aF o ha fun Y Q=>?_;refine S.bJ ?_ (l:=bq.f a[j]);refine S.aF aj A fun Z U=>?_;refine S.bJ ?_ (l:=bq.f b[j]);refine S.bin ?_ (hv:=zP a[j] b[j]);refine C.B (fun O8=>?_) fun O8=>?_
   ·have e:decide (a=b)=false:=by
     rw[hd,bD,pS ha A];intro h;simp[h.1]at O8
    rw[e];refine⟨_,.t rfl .nil,.done ?_⟩;rfl
   ·refine S.bin ?_;refine⟨M-1,by omega,.done ⟨j+1,by omega,?_,rfl,rfl,.r rfl⟩⟩;rw[hd];refine decide_eq_decide.2 ?_;rw[pS ha A];exact⟨fun h=>h.2,fun h=>⟨by simpa using O8,h⟩⟩
  ·have e:decide (a=b)=true:=by
    rw[hd,jS (by omega),jS (by omega)];(try rfl)
   rw[e];refine⟨_,.t rfl .nil,.done ?_⟩;rfl
theorem B0 (gen:Int):∀(f h:Nat) (l:List bO),l.length≤f→l.length≤h→gC gen f l=gC gen h l
 |f,h,[],_,_=>by rw[tq,tq]
 |0,h,a::l,o,_=>by simp at o
 |f+1,0,a::l,_,aj=>by simp at aj
 |f+1,h+1,a::l,o,aj=>by
  rw[tp (by simp),tp (by simp)];simp only[b7]at o aj;rw[B0 gen f h ((a::l).drop 6) (by simp;omega) (by simp;omega)]
theorem MD {b:Bool} {l:List bO} {j:Nat} (hj:j<l.length):lX b (l.take (j+1))=ki ([l[j].1.ino,l[j].1.idx].foldl (fun b n=>dE b n 255) (lX b (l.take j))) [l[j].2]:=by
 unfold lX;rw[nK _ _ _ _ hj]
theorem ME [Fx F] {gen:Int} {au o:V} {an:List bO} (hr:aa bq O au (an.map (·.1))) (hp:aa aq O o (an.map (·.2))) (hlen:an.length≤1000000):
 ai F 110 [.j gen,au,o] O [] (fun r ψ R=>ψ=O∧∃s,R=[bu.ob s (gD gen an)]∧af bu r (gD gen an) s) never:=by
 have M:(an.map (·.1)).length=an.length:=hS ..;have aI:(an.map (·.2)).length=an.length:=hS ..;obtain⟨w,hw,d⟩:=aa.hi hr (j:=an.length) (by omega);rw[←M,dT]at d;refine ai.same (ar ?_);refine S.len ?_ (hl:=aa.len hr);rw[M];refine S.len ?_ (hl:=aa.len hp);rw[aI];refine S.kH (qU _ _) ?_;rw[Nat.min_self];refine S.slice hw ?_;refine SW.new bu ?_;refine SW.bF (fun m E ψ R=>∃(i:Nat) (out:List aT) (v:V) (s:Option Pa),m=an.length-i∧gD gen an=out++gC gen an.length (an.drop i)∧i≤an.length+6∧out.length≤i∧aa bq ψ w (an.map (·.1))∧aa aq ψ o (an.map (·.2))∧R=[bu.ob s out]∧af bu v out s∧Sub [(0,.j gen),(1,w),(2,o),(7,v),(8,.j (i:Int))] E) (m:=an.length) (.done ⟨0,[],.no .sl,none,rfl,rfl,by omega,by simp,d,hp,rfl,af.nil,.r rfl⟩) ?_;intro bd E ψ R aC U;obtain⟨i,out,v,s,hm,ak,aZ,a2,d,hp,rfl,ho,Q⟩:=U;refine C.sub Q ?_;refine S.len ?_ (hl:=aa.len d);rw[M];refine S.bin ?_;refine C.D (fun Pl=>?_) fun Pl=>?_
 ·have hi:i<an.length:=by omega
  have W:(((an.drop i).take 6)).length=min 6 (an.length-i):=by simp
  obtain⟨L,hL⟩:∃L,L=an.length-1:=⟨_,rfl⟩
  have ah:an.length=L+1:=by omega
  have aH:gC gen an.length (an.drop i)=gW gen ((an.drop i).take 6)::gC gen an.length (an.drop (i+6)):=by
   rw[ah,tp (by intro h;have:=congrArg List.length h;simp at this;omega),nY,←ah];congr 1;exact B0 gen _ _ _ (by simp<;>omega) (by simp<;>omega)
  refine S.call (tQ (k:=2) (g:=gen)) fun v25 bn aQ a6 A=>?_;obtain⟨A,ac,rfl,rfl⟩:=A;have A:=A.symm;subst A;refine SW.bF (fun m E ψ R=>∃q:Nat,q+m=((an.drop i).take 6).length∧aa bq ψ w (an.map (·.1))∧aa aq ψ o (an.map (·.2))∧R=[wB ac 2 gen ([]++fC (((an.drop i).take 6).take (q))) (lX (dE false gen 1073741824) (((an.drop i).take 6).take (q))),bu.ob s out]∧Sub [(0,.j gen),(1,w),(2,o),(7,v),(8,.j (i:Int)),(9,.ptr ac 0),(10,.j ((i+q:Nat):Int))] E) (m:=((an.drop i).take 6).length) (.done ⟨0,by omega,d,hp,by simp[fC,lX],.r rfl⟩) ?_;intro aJ E ψ R aC U;obtain⟨q,hq,d,hp,rfl,Q⟩:=U;refine C.sub Q ?_;refine S.bin ?_ (v:=.j ((i+6:Nat):Int)) (hv:=by rw[dz (by omega) (by omega)];(try rfl));refine S.len ?_ (hl:=aa.len d);rw[M];refine S.kH (qU _ _) ?_;refine S.bin ?_;refine C.D (fun av=>?_) fun av=>?_
  ·have hk:i+q<an.length:=by omega
   have al:q<((an.drop i).take 6).length:=by rw[W];omega
   obtain⟨it,Y⟩:∃it,it=an[i+q]:=⟨_,rfl⟩
   have aB:((an.drop i).take 6)[q]=it:=by rw[Y];simp
   have am:(an.map (·.1))[i+q]'(by omega)=it.1:=by rw[Y];simp
   have aE:(an.map (·.2))[i+q]'(by omega)=it.2:=by rw[Y];simp
   have aj:(fC (((an.drop i).take 6).take q)).length=8*q:=by rw[wb,cE,hD (by omega)]
   refine S.aF d (j:=i+q) (by omega) fun be ae=>?_;rw[am]at ae;refine S.bl ae fun bg aW=>?_;refine S.a1 ?_;refine S.aF d (j:=i+q) (by omega) fun bh ag=>?_;rw[am]at ag;refine S.bl ag fun bi aX=>?_;refine S.a1 ?_;refine S.a8 fun Z=>?_;have aK:af bt (.sl Z 0 2 (.ex 2)) [it.1.ino,it.1.idx] (some Z):=af.new rfl;refine S.cd 0 aK fun bo ao az=>?_;refine S.ba 0 rfl (mP (n:=1) az (by omega) (by omega) (by rw[fo,aj];simp<;>omega) (by simp)) fun bk bs aR a7 B=>?_;obtain⟨B,rfl⟩:=B;have B:=B.symm;subst B;have hp:=hp.mono ao;refine S.aF hp (j:=i+q) (by omega) fun bj aw=>?_;rw[aE]at aw;refine S.bJ ?_ (l:=aq.f it.2);refine S.a8 fun ab=>?_;have aL:af aq (.sl ab 0 1 (.ex 1)) [it.2] (some ab):=af.new rfl;refine S.cd 0 aL fun bv ap aA=>?_;refine S.ba 0 rfl (w9 aA (by rw[c2,fo,aj];simp[fW];omega)) fun v55 bw aS bb G=>?_;obtain⟨G,rfl⟩:=G;have G:=G.symm;subst G;refine S.bin ?_ (v:=.j ((i+(q+1):Nat):Int)) (hv:=by rw[dz (by omega) (by omega)];(try rfl));refine⟨aJ-1,by omega,.done ⟨q+1,by omega,(d.mono ao).mono ap,hp.mono ap,?_,.r rfl⟩⟩;rw[Kp al,MD al,aB,←Mw,←bp,←bp];(try rfl)
  ·have aD:q=((an.drop i).take 6).length:=by rw[W];omega
   subst aD;rw[dT];refine S.ba 0 rfl (tR) fun bm bx aU bc I=>?_;obtain⟨I,rfl,rfl⟩:=I;have I:=I.symm;subst I;have ay:hy 2 gen ([]++fC ((an.drop i).take 6)) (lX (dE false gen 1073741824) ((an.drop i).take 6))=gW gen ((an.drop i).take 6):=Mx gen _ (by rw[W];omega);rw[ay];refine S.a8 fun aV=>?_;refine S.br (m:=[gW gen ((an.drop i).take 6)]) 2 ho (.lit 0) (by simp;omega) fun aP aO aM=>?_;refine S.drop 0 ?_;refine S.drop 0 ?_;refine S.mv ?_;refine S.bin ?_ (v:=.j ((i+6:Nat):Int)) (hv:=by rw[dz (by omega) (by omega)];(try rfl));refine⟨an.length-(i+6),by omega,.done ⟨i+6,_,aP,aO,rfl,by rw[ak,aH,bp];(try rfl),by omega,by simp;omega,d,hp,rfl,aM,.r rfl⟩⟩
 ·have e:gD gen an=out:=by rw[ak,jS (by omega),tq,e9]
  rw[e];exact⟨_,.t rfl .nil,.done ⟨s,rfl,ho⟩⟩
end Go.Ev
set_option maxHeartbeats 4000000
namespace Go.Ev
variable{F:Nat→Option aP} {O:Fz}
theorem MF [Fx F] {x:aT} (hx:x.load.length≤100000):
 ai F 199 [.agg [.j x.kind,.j x.gen,.str x.load]] O [] (fun r ψ R=>R=[]∧∃aE aC,r=.aN [aE,aC,.bool (dp x).isSome]∧aa bq ψ aE (((dp x).getD []).map (·.1))∧aa aq ψ aC (((dp x).getD []).map (·.2))) never:=by
 refine ar ?_;refine S.box fun an=>?_;refine S.ld 0 ?_;refine S.jH fun aF aH bs ap=>?_;have bz:=ap.ax;refine S.build ?_ (l:=[aF,.bool false]);refine S.box fun ao=>?_;refine SW.new aq ?_;refine SW.new bq ?_;refine SW.bF (fun m E ψ R=>∃(s:cL) (d:List bO) (w am ak:V) (ah ac:Option Pa),ka m s d=idxOf x.load∧(s.2=false→s.1.length≤m)∧s.1.length≤1000000∧d.length+m≤x.load.length∧aH=ψ∧aa aU aH w s.1∧R=[(some ao,.cells [w,.bool s.2] false),bq.ob ah (d.map (·.1)),aq.ob ac (d.map (·.2)),(some an,.cells [.j x.kind,.j x.gen,.str x.load] false)]∧af bq am (d.map (·.1)) ah∧af aq ak (d.map (·.2)) ac∧Sub [(1,.ptr an 0),(5,.ptr ao 0),(2,am),(3,ak)] E) (m:=x.load.length) (.front 2 rfl (.done ⟨(x.load,false),[],aF,.no .sl,.no .sl,none,none,rfl,fun _=>aB _,by show x.load.length≤1000000;omega,by simp,rfl,ap,rfl,af.nil,af.nil,.r rfl⟩)) ?_;intro aA E ψ R bn aM;obtain⟨s,d,w,am,ak,ah,ac,Q,aP,bo,bm,rfl,hw,rfl,ay,aw,aL⟩:=aM;refine C.sub aL ?_;refine S.ld 0 ?_;refine S.len ?_ (hl:=aa.len hw);refine S.bin ?_;refine G.mv ?_;refine G.nil? ?_;refine G.aD ?_;refine G.ld 0 ?_;refine G.un ?_;refine G.and ?_;refine C.B (fun OW=>?_) fun OW=>?_
 ·simp only[be,c3,aR]at OW;have bp:=aP OW.2;obtain⟨U,rfl⟩:∃U,aA=U+1:=⟨aA-1,by omega⟩
  have aQ:ka (U+1) s d=ka U (fD s).2 (d++[(fD s).1]):=by
   show(if decide (0<s.1.length)&&!s.2 then _ else _)=_;rw[ae];rw[OW.2];simp;omega
  rw[aQ]at Q;have wl:=zV s;have bk:=dh 1 s;have bl:=dh 1 (rdNum 1 s).2;refine S.ba 0 rfl (jr (s:=s) (n:=1) hw (by omega) (by omega)) fun bA bG bg bt A=>?_;obtain⟨A,rfl,bD,rfl,aS⟩:=A;have A:=A.symm;subst A;have A:=aS;refine S.ba 0 rfl (jr (s:=(rdNum 1 s).2) (n:=1) A (by omega) (by omega)) fun bB bH bh bv D=>?_;obtain⟨D,rfl,bE,rfl,aV⟩:=D;have D:=D.symm;subst D;have D:=aV;refine S.build ?_;refine S.a8 fun bj=>?_;refine S.br (m:=[(fD s).1.1]) 2 ay (.lit 0) (by simp;omega) fun a7 a2 aZ=>?_;refine S.drop 0 ?_;refine S.mv ?_;refine S.ba 0 rfl (BW (s:=(rdNum 1 (rdNum 1 s).2).2) D (by omega)) fun bC bI bi bw M=>?_;obtain⟨M,rfl,bc,rfl,aW⟩:=M;have M:=M.symm;subst M;refine S.a8 fun a39=>?_;refine S.br (m:=[(fD s).1.2]) 3 aw (.lit 0) (by simp;omega) fun bb a6 a1=>?_;refine S.drop 0 ?_;refine S.mv ?_;refine⟨U,by omega,.done ⟨(fD s).2,d++[(fD s).1],bc,a7,bb,a2,a6,Q,fun h=>by have:=zU h;omega,by omega,by simp;omega,rfl,aW,?_,by rw[cX];exact aZ,by rw[cX];exact a1,.r rfl⟩⟩;rw[cX,cX];(try rfl)
 ·have aJ:(decide (0<s.1.length)&&!s.2)=false:=by
   rw[show decide (0<s.1.length)=decide ((0:Int)<(s.1.length:Int))from decide_eq_decide.2 (by omega)];exact OW
  rw[zT aJ]at Q;have W:d=(idxOf x.load).1:=by rw[←Q]
  have av:s.2=(idxOf x.load).2.2:=by rw[←Q]
  refine S.ld 0 ?_;refine G.aD ?_;refine G.ld 3 ?_;refine G.bin ?_;refine G.or ?_;refine G.aD ?_;refine S.cd 1 ay fun bL bx hr=>?_;refine S.cd 1 aw fun bK aX hp=>?_;have hr:=hr.mono aX;refine G.ld 1 ?_;refine G.mv ?_;refine G.mv ?_;refine G.ag 1 ?_ (l:=[.j x.kind,.j x.gen,.str x.load]);refine G.Md (u:=.agg [.j x.kind,.j x.gen,.str x.load]) (e:=bu) x fun aI bJ az f57=>?_;have hr:=hr.mono az;have hp:=hp.mono az;refine G.call (fun _=>ai.kept (ME (gen:=x.gen) hr hp (by omega))) fun v55 bd Z aK=>?_;have hr:=hr.mono Z;have hp:=hp.mono Z;have f57:_→bd aI=_:=fun Y=>Z _ _ (f57 Y);refine G.Me (u:=.agg [.j x.kind,.j x.gen,.str x.load]) (e:=bu) x f57 ?_ (by simp[bu,b9,e0,fx]);refine G.dg 1 ?_ (l:=[.j x.kind,.j x.gen,.str x.load]) (hs:=by simp[same,b9,e0,fx]);refine G.al (fun Y=>MB (aK Y) (aa.dW (l:=[x]) (f57 Y) rfl) (by have:=tA x.gen d.length d;unfold gD;omega)) ?_;refine G.un ?_;refine G.or ?_;refine C.B (fun L=>?_) fun L=>?_
  ·have e:dp x=none:=by
    unfold dp;by_cases aj:x.kind=2∧x.load≠[]
    ·rw[ae aj,ab];rintro⟨I,au⟩;rw[←av]at I;rw[←W]at au;rw[I,au]at L;simp[aj.1]at L
    ·rw[ab aj]
   rw[e];exact⟨_,.t rfl (.t rfl (.t rfl .nil)),.none ⟨rfl,_,_,rfl,aa.nil _,aa.nil _⟩⟩
  ·have e:dp x=some d:=by
    simp only[cg,du,aR]at L;obtain⟨⟨o,aj⟩,I⟩:=L;have aO:x.load≠[]:=by
     intro h0;have:d=[]:=by rw[W,h0];(try rfl)
     rw[this]at I;cases I
    unfold dp;rw[ae ⟨aj,aO⟩,ae,←W];rw[←av,←W];exact⟨o,I⟩
   rw[e];exact⟨_,.t rfl (.t rfl (.t rfl .nil)),.none ⟨rfl,_,_,rfl,hr,hp⟩⟩
theorem MG [Fx F] {x:aT} (hx:x.load.length≤100000):
 ai F 198 [.agg [.j x.kind,.j x.gen,.str x.load]] O [] (fun r ψ R=>R=[]∧∃ak,r=.aN [.agg (df.f (((dJ x).map (·.1)).getD ⟨0,0,0,0,0⟩)),ak,.bool (dJ x).isSome]∧aa aq ψ ak (((dJ x).map (·.2)).getD [])) never:=by
 have aO:(x.load,false).1.length≤100000:=hx;have aP:=dh 1 (x.load,false);have aQ:=dh 4 (rdNum 1 (x.load,false)).2;have aS:=dh 4 (rdNum 4 (rdNum 1 (x.load,false)).2).2;have aU:=dh 4 (rdNum 4 (rdNum 4 (rdNum 1 (x.load,false)).2).2).2;have aV:=dh 4 (rdNum 4 (rdNum 4 (rdNum 4 (rdNum 1 (x.load,false)).2).2).2).2;refine ar ?_;refine S.box fun aK=>?_;refine S.alloc fun aM=>?_;refine S.ld 1 ?_;refine S.jH fun aA br aX Y=>?_;have bd:=Y.ax;refine S.build ?_ (l:=[aA,.bool false]);refine S.box fun aL=>?_;refine S.ba 0 rfl (jr (s:=(x.load,false)) (n:=1) Y (by omega) (by omega)) fun be bs aC aZ h=>?_;obtain⟨h,rfl,bk,rfl,ao⟩:=h;have h:=h.symm;subst h;have h:=ao;refine S.ba 0 rfl (jr (s:=(rdNum 1 (x.load,false)).2) (n:=4) h (by omega) (by omega)) fun bg bt aE a1 A=>?_;obtain⟨A,rfl,bl,rfl,ap⟩:=A;have A:=A.symm;subst A;have A:=ap;refine S.ba 0 rfl (jr (s:=(rdNum 4 (rdNum 1 (x.load,false)).2).2) (n:=4) A (by omega) (by omega)) fun bh bv aF a2 D=>?_;obtain⟨D,rfl,bm,rfl,au⟩:=D;have D:=D.symm;subst D;have D:=au;refine S.ba 0 rfl (jr (s:=(rdNum 4 (rdNum 4 (rdNum 1 (x.load,false)).2).2).2) (n:=4) D (by omega) (by omega)) fun bi bw aH a6 I=>?_;obtain⟨I,rfl,bn,rfl,av⟩:=I;have I:=I.symm;subst I;have I:=av;refine S.ba 0 rfl (jr (s:=(rdNum 4 (rdNum 4 (rdNum 4 (rdNum 1 (x.load,false)).2).2).2).2) (n:=4) I (by omega) (by omega)) fun v25 bx aI a7 L=>?_;obtain⟨L,rfl,bo,rfl,aw⟩:=L;have L:=L.symm;subst L;have L:=aw;refine S.build ?_;obtain⟨ad,ac⟩:∃ad:cK,ad=⟨(rdNum 1 (x.load,false)).1,(rdNum 4 (rdNum 1 (x.load,false)).2).1,(rdNum 4 (rdNum 4 (rdNum 1 (x.load,false)).2).2).1,(rdNum 4 (rdNum 4 (rdNum 4 (rdNum 1 (x.load,false)).2).2).2).1,(rdNum 4 (rdNum 4 (rdNum 4 (rdNum 4 (rdNum 1 (x.load,false)).2).2).2).2).1⟩:=⟨_,rfl⟩
 refine S.store (v:=.agg [.j ad.kind,.j ad.id,.j ad.cZ,.j ad.base,.j ad.done]) 1 ?_ (hx:=by rw[ac];exact .t rfl);refine S.ba 0 rfl (BX (s:=(rdNum 4 (rdNum 4 (rdNum 4 (rdNum 4 (rdNum 1 (x.load,false)).2).2).2).2).2) L (by omega)) fun bj bz aJ a8 Q=>?_;obtain⟨Q,bp,bc,rfl,ay,az⟩:=Q;have Q:=Q.symm;subst Q;refine S.cd 1 az fun bA bb hp=>?_;obtain⟨P,U⟩:∃P,P=gX (rdNum 4 (rdNum 4 (rdNum 4 (rdNum 4 (rdNum 1 (x.load,false)).2).2).2).2).2:=⟨_,rfl⟩
 rw[←U]at hp ay⊢;have W:fj x.load=(ad,P):=by rw[ac,U];(try rfl)
 have aW:P.1.length≤255:=by
  rw[U];unfold gX;have key:∀(n:Nat) (s:cL) (M:List ah),(jK n s M).1.length≤M.length+n:=by
   intro n;induction n with
   |zero=>intro s M;exact aB _
   |succ n am=>
              intro s M;simp only[jK];split
              ·simp
              ·have:=am (fi s).2 (M++[(fi s).1]);simp at this;omega
  have an:=key (rdNum 1 (rdNum 4 (rdNum 4 (rdNum 4 (rdNum 4 (rdNum 1 (x.load,false)).2).2).2).2).2).1.toNat (rdNum 1 (rdNum 4 (rdNum 4 (rdNum 4 (rdNum 4 (rdNum 1 (x.load,false)).2).2).2).2).2).2 [];have k2:=w8 (rdNum 4 (rdNum 4 (rdNum 4 (rdNum 4 (rdNum 1 (x.load,false)).2).2).2).2).2;simp at an;omega
 refine S.mv ?_;refine S.ld 0 ?_;refine G.aD ?_;refine G.ld 2 ?_;refine G.bin ?_;refine G.or ?_;refine G.aD ?_;refine G.ld 2 ?_;refine G.ag 1 ?_ (l:=[.j ad.kind,.j ad.id,.j ad.cZ,.j ad.base,.j ad.done]);refine G.mv ?_;refine G.ag 2 ?_ (l:=[.j x.kind,.j x.gen,.str x.load]);refine G.al (fun _=>My (gen:=x.gen) (r:=ad) hp (by omega)) ?_;refine G.dg 2 ?_ (l:=[.j x.kind,.j x.gen,.str x.load]) (hs:=by simp[same,b9,e0,fx]);refine G.bin ?_ (hv:=fun _=>nJ (ey x.gen ad P.1) x);refine G.or ?_;refine C.B (fun d=>?_) fun d=>?_
 ·have e:dJ x=none:=by
   unfold dJ;rw[ab];rintro⟨o,aj,Z⟩;rw[W]at aj Z;rw[aj,o,Z]at d;simp at d
  rw[e];refine S.build ?_;refine S.store 1 ?_;exact⟨_,.cN 1 rfl rfl rfl rfl (.t rfl (.t rfl .nil)),.none ⟨rfl,_,rfl,aa.nil _⟩⟩
 ·have e:dJ x=some (ad,P.1):=by
   simp only[cg,du,aR]at d;unfold dJ;rw[ae,W];rw[W];exact⟨d.1.2,d.1.1,d.2⟩
  rw[e];refine S.ag 1 ?_ (l:=[.j ad.kind,.j ad.id,.j ad.cZ,.j ad.base,.j ad.done]);refine S.store 1 ?_;exact⟨_,.cN 1 rfl rfl rfl rfl (.t rfl (.t rfl .nil)),.none ⟨rfl,_,rfl,hp⟩⟩
theorem MH [Fx F] {x:aT} (hx:x.load.length≤100000):
 ai F 133 [.agg [.j x.kind,.j x.gen,.str x.load]] O [] (fun r ψ R=>R=[]∧∃ac,r=.aN [.j (((c0 x).map (·.1)).getD 0),.j (((c0 x).map (·.2.1)).getD 0),ac,.bool (c0 x).isSome]∧aa aq ψ ac (((c0 x).map (·.2.2)).getD [])) never:=by
 have aC:(x.load,false).1.length≤100000:=hx;have aE:=dh 4 (x.load,false);have aF:=dh 4 (rdNum 4 (x.load,false)).2;refine ar ?_;refine S.box fun az=>?_;refine S.ld 0 ?_;refine S.jH fun v9 a6 aL W=>?_;have aP:=W.ax;refine S.build ?_ (l:=[v9,.bool false]);refine S.box fun aA=>?_;refine S.ba 0 rfl (jr (s:=(x.load,false)) (n:=4) W (by omega) (by omega)) fun aQ aZ av aI h=>?_;obtain⟨h,rfl,aV,rfl,an⟩:=h;have h:=h.symm;subst h;have h:=an;refine S.ba 0 rfl (jr (s:=(rdNum 4 (x.load,false)).2) (n:=4) h (by omega) (by omega)) fun aS a1 aw aJ A=>?_;obtain⟨A,rfl,aW,rfl,ao⟩:=A;have A:=A.symm;subst A;have A:=ao;refine S.ba 0 rfl (BX (s:=(rdNum 4 (rdNum 4 (x.load,false)).2).2) A (by omega)) fun aU a2 ay aK L=>?_;obtain⟨L,aX,aO,rfl,ap,au⟩:=L;have L:=L.symm;subst L;refine S.cd 1 au fun a7 aM hp=>?_;obtain⟨P,M⟩:∃P,P=gX (rdNum 4 (rdNum 4 (x.load,false)).2).2:=⟨_,rfl⟩
 rw[←M]at hp ap⊢;obtain⟨n1,Y⟩:∃n1,n1=(rdNum 4 (x.load,false)).1:=⟨_,rfl⟩
 obtain⟨D,Z⟩:∃D,D=(rdNum 4 (rdNum 4 (x.load,false)).2).1:=⟨_,rfl⟩
 have Q:dC x.load=(n1,D,P):=by rw[Y,Z,M];(try rfl)
 rw[←Y,←Z];have aH:P.1.length≤255:=by
  rw[M];unfold gX;have key:∀(n:Nat) (s:cL) (I:List ah),(jK n s I).1.length≤I.length+n:=by
   intro n;induction n with
   |zero=>intro s I;exact aB _
   |succ n ak=>
              intro s I;simp only[jK];split
              ·simp
              ·have:=ak (fi s).2 (I++[(fi s).1]);simp at this;omega
  have am:=key (rdNum 1 (rdNum 4 (rdNum 4 (x.load,false)).2).2).1.toNat (rdNum 1 (rdNum 4 (rdNum 4 (x.load,false)).2).2).2 [];have k2:=w8 (rdNum 4 (rdNum 4 (x.load,false)).2).2;simp at am;omega
 refine S.mv ?_;refine S.ld 0 ?_;refine G.aD ?_;refine G.ld 1 ?_;refine G.bin ?_;refine G.or ?_;refine G.aD ?_;refine G.ld 1 ?_;refine G.mv ?_;refine G.mv ?_;refine G.mv ?_;refine G.ag 1 ?_ (l:=[.j x.kind,.j x.gen,.str x.load]);refine G.al (fun _=>Mz (gen:=x.gen) (next:=n1) (id:=D) hp (by omega)) ?_;refine G.dg 1 ?_ (l:=[.j x.kind,.j x.gen,.str x.load]) (hs:=by simp[same,b9,e0,fx]);refine G.bin ?_ (hv:=fun _=>nJ (eM x.gen n1 D P.1) x);refine G.or ?_;refine C.B (fun d=>?_) fun d=>?_
 ·have e:c0 x=none:=by
   unfold c0;rw[ab];rintro⟨o,aj,U⟩;rw[Q]at aj U;rw[aj,o,U]at d;simp at d
  rw[e];exact⟨_,.t rfl (.t rfl (.t rfl (.t rfl .nil))),.none ⟨rfl,_,rfl,aa.nil _⟩⟩
 ·have e:c0 x=some (n1,D,P.1):=by
   simp only[cg,du,aR]at d;unfold c0;rw[ae,Q];rw[Q];exact⟨d.1.2,d.1.1,d.2⟩
  rw[e];exact⟨_,.t rfl (.t rfl (.t rfl (.t rfl .nil))),.none ⟨rfl,_,rfl,hp⟩⟩
end Go.Ev
namespace Go.Ev
def kW:Nat→List Int→List (V×V×Nat)
 |_,[]=>[]
 |n,k::l=>(.int .i64 k,.bool true,n)::kW (n+1) l
def kX (l:List Int):ak:=.map (kW 0 l) l.length
theorem B1 (x:Int):∀(l:List Int) (n:Nat),kW n (l++[x])=kW n l++[(.int .i64 x,.bool true,n+l.length)]
 |[],n=>rfl
 |k::l,n=>by
  show _::kW (n+1) (l++[x])=_::(kW (n+1) l++_);rw[B1 x l (n+1),b7];rw[show n+1+l.length=n+(l.length+1) by omega]
theorem MI (a b:Int):cF (.flat .i) (.int .i64 a) (.int .i64 b)=some (decide (a=b)):=by
 show some (gh a b)=_;congr 1;rw[h3,kp];simp
theorem xa (x:Int):∀(l:List Int) (n j:Nat),∃r,gw (.flat .i) (.int .i64 x) (kW n l) j=some r∧r.map (·.2)=if x∈l then some (.bool true)else none
 |[],n,j=>⟨none,rfl,rfl⟩
 |k::l,n,j=>by
  show∃r,(match cF (.flat .i) (.int .i64 x) (.int .i64 k)with
   |some b=>bif b then some (some (j,V.bool true))else gw (.flat .i) (.int .i64 x) (kW (n+1) l) (j+1)
   |none=>none)=some r∧_
  rw[MI];by_cases h:x=k
  ·subst h;refine⟨some (j,.bool true),by simp,by simp⟩
  ·obtain⟨r,o,aj⟩:=xa x l (n+1) (j+1);refine⟨r,by simp only[decide_eq_false h,bw];exact o,by rw[aj];simp[h]⟩
namespace S
variable{F:Nat→Option aP} {K:KX} {E:Env} {O:Fz} {R:List Ob} {Q:bz} {rs:List Op} {d:Nat} {g:Option (Pa×Bool)}
theorem mkMap (hn:∀a,SA F K rs ((d,.map a)::E) O ((some a,kX [])::R) Q):SR F K (.op ⟨some (pa d),um,none⟩::Op.aK rs) E O R Q:=fun W h sh=>
 ad.cY .none (fun _ _=>rfl) (S.r (hn h.next) W _ (sh.alloc _))
theorem look {x i:Od} {a:Pa} {k:Int} {l:List Int} (j:Nat) (hn:SA F K rs ((d,.bool (decide (k∈l)))::E) O R Q) (hi:R[j]? =some (some a,kX l):=by rfl) (hx:ay E x (.map a):=by exact .t rfl) (hk:ay E i (.int .i64 k):=by first|exact .t rfl|exact .c) (hw:aA E g .yes:=by first|exact .none|exact .yes rfl):
 SR F K (.op ⟨some (pa d),qu (.flat .i) (.bool false) x i false,g⟩::Op.aK rs) E O R Q:=fun W h sh=>by
 refine ad.look hw hx hk ?_ (S.r hn W h sh);have A:h.get a=some (.map (kW 0 l) l.length):=sh.fy hi;obtain⟨r,o,aj⟩:=xa k l 0 0;unfold ph;simp only[bn.mapOf,A,fits,qs,aE,o];cases r with
 |none=>
  have:k∉l:=by intro hm;rw[ae hm]at aj;cases aj
  simp[n2,this]
 |some p=>
  obtain⟨q,v⟩:=p;by_cases hm:k∈l
  ·rw[ae hm]at aj;have:v=.bool true:=by simpa using aj
   subst this;simp[n2,hm]
  ·rw[ab hm]at aj;cases aj
theorem MJ {x i:Od} {a:Pa} {k:Int} {l:List Int} (j:Nat) (hm:k∉l) (hn:SA F K rs E O (R.set j (some a,kX (l++[k]))) Q) (hi:R[j]? =some (some a,kX l):=by rfl) (hx:ay E x (.map a):=by exact .t rfl) (hk:ay E i (.int .i64 k):=by first|exact .t rfl|exact .c) (hw:aA E g .yes:=by first|exact .none|exact .yes rfl):
 SR F K (.op ⟨none,ur (.flat .i) x i (.c (.bool true)),g⟩::Op.aK rs) E O R Q:=fun W h sh=>by
 have d:h.get a=some (.map (kW 0 l) l.length):=sh.fy hi;obtain⟨r,o,aj⟩:=xa k l 0 0;rw[ab hm]at aj;have:r=none:=by cases r with|none=>rfl|some p=>cases aj
 subst this;refine ad.sF (v:=cV) (h':=h.put a (kX (l++[k]))) hw (fun e he=>?_) (S.r hn W _ (sh.pI hi _));simp only[hx e he,bn.jY,d,hk e he,fits,qs,aE,o];have:kX (l++[k])=.map (kW 0 l++[(.int .i64 k,.bool true,l.length)]) (l.length+1):=by
  unfold kX;rw[B1,c2];simp
 rw[this];(try rfl)
theorem MK [eY K] {n:Nat} {f:Od} {xs:List Od} {vs a2:List V} {Rt:V→Fz→List Ob→Prop} (hc:ai F n (vs++a2) O [] Rt never) (hn:∀v ψ j,O.Le ψ→Rt v ψ j→SA F K rs ((d,v)::E) ψ (j++R) Q) (D:ay E f (.fn n a2):=by first|exact .t rfl|exact .c) (hx:im E xs=some vs:=by rfl) (hw:aA E g .yes:=by first|exact .none|exact .yes rfl):
 SR F K (.op ⟨some (pa d),n3 f xs,g⟩::Op.aK rs) E O R Q:=fun W h sh=>by
 rcases hc (R++W) h (by simpa using sh)with⟨v,h',o,ψ,j,aj,A,B⟩|⟨_,_,_,_,_,_,_,h⟩
 ·exact WR.up aj (ad.F2 hw D (j4 hx) o (S.r (hn v ψ j aj B) W h' (by simpa using A)))
 ·exact h.elim
theorem clear {z:List V} {x:Od} {a:Pa} {I n:Nat} {c:fM} {cs l':List V} (i:Nat) (hn:SA F K rs E O (R.set i (some a,.cells l' false)) Q) (hi:R[i]? =some (some a,.cells cs false):=by rfl) (hx:ay E x (.sl a I n c):=by exact .t rfl) (ch:cT I cs (c5 z n)=some l':=by rfl) (hs:aY (c5 z n)=true:=by rfl) (hw:aA E g .yes:=by first|exact .none|exact .yes rfl):
 SR F K (.op ⟨none,uq z x,g⟩::Op.aK rs) E O R Q:=fun W h sh=>
 ad.sF (v:=cV) (h':=h.put a (.cells l' false)) hw (fun e he=>by
  simp only[hx e he,sO (sh.fy hi) hs ch];rfl) (S.r hn W _ (sh.pI hi _))
end S
end Go.Ev
namespace Go.Ev
theorem B2 {n c i j:Nat} (d:i≤j) (hj:j≤c):dN n c (some (.int .i64 (i:Int))) (some (.int .i64 (j:Int))) (some (.int .i64 (j:Int)))=some (i,j,j):=by
 show(match(match Nat.ble j c with|true=>some j|false=>none:Option Nat)with|none=>none|some m=>match(match Nat.ble j m with|true=>some j|false=>none:Option Nat)with|none=>none|some h=>(match(match Nat.ble i h with|true=>some i|false=>none:Option Nat)with|none=>none|some l=>some (l,h,m)):Option (Nat×Nat×Nat))=_;simp only[oz hj,oz (aB j),oz d]
theorem FS.full {O:Fz} {v:V} {k n:Nat} {cs:List V} (hs:FS O v k n cs) {i j:Nat} (d:i<j) (hj:j≤n):∃v',dx k v (some (.int .i64 (i:Int))) (some (.int .i64 (j:Int))) (some (.int .i64 (j:Int)))=some v'∧FS O v' k (j-i) ((cs.drop (i*k)).take ((j-i)*k)):=by
 have hlen:((cs.drop (i*k)).take ((j-i)*k)).length=(j-i)*k:=by
  rw[cE,bW,hs.1,←Nat.sub_mul];exact hD (o6 _ (by omega))
 have D:∀(I:Nat) (l:List V),(∀(i:Nat) (u:V),cs[i]? =some u→l[I+i]? =some u)→∀(q:Nat) (u:V),((cs.drop (i*k)).take ((j-i)*k))[q]? =some u→l[I+i*k+q]? =some u:=fun I l F q u hu=>by
  rw[jv]at hu;split at hu
  ·rw[gJ]at hu;rw[gg];exact F _ _ hu
  ·cases hu
 rcases hs.2 with⟨rfl,rfl⟩|⟨a,I,c,b,l,rfl,aj,o,A,h⟩
 ·omega
 ·refine⟨.sl a (I+i*k) (j-i) (.ex (j-i)),?_,hlen,.inr ⟨a,_,_,b,l,rfl,aj,o,D I l A,aB _⟩⟩;cases c with
  |ex c=>
   have G:n≤c:=h;simp only[dx,B2 (pc d) (fL hj G),ov (show j≠i by omega),bw]
  |un s=>
   obtain rfl:s=k:=h;have B:Nat.blt i j=true:=by rw[pe];exact d
   simp only[dx,B2 (pc d) hj,dU,aE,B]
theorem aa.full {O:Fz} {U:Type} {e:bG U} {v:V} {l:List U} (h:aa e O v l) {i j:Nat} (d:i<j) (hj:j≤l.length):∃v',dx e.k v (some (.int .i64 (i:Int))) (some (.int .i64 (j:Int))) (some (.int .i64 (j:Int)))=some v'∧aa e O v' ((l.drop i).take (j-i)):=by
 obtain⟨v',o,aj⟩:=FS.full h d hj;refine⟨v',o,?_⟩;rw[sZ,s0]at aj;unfold aa
 rwa [cE,bW,hD (by omega)]
end Go.Ev
set_option maxHeartbeats 1000000
namespace Go.Ev
variable{F:Nat→Option aP} {O:Fz}
theorem ML (a b:cj):b0 .eql (.agg [(0,.i),(1,.i),(2,.s)]) (.agg (aG.f a)) (.agg (aG.f b))=some (.bool (decide (a=b))):=by
 rw[show decide (a=b)=decide (a.kind=b.kind∧a.mode=b.mode∧a.body=b.body)from decide_eq_decide.2 (zl a b)];exact JA _ _ _ _ _ _
def lY (t:ao):Prop:=t.length≤1000∧∀n∈t,n.body.length≤10000
theorem B3 {t:ao} (d:lY t) (i:Int):(jO t i).body.length≤10000:=by
 unfold jO;split
 ·exact cS _
 ·rename_i h;obtain⟨j,hj,o,A⟩:=qZ (t:=t) (x:=i) (by omega) (by omega);rw[A];exact d.2 _ (cw o)
theorem MM [Fx F] {d:V} {t:ao} {i:Int} (ht:aa aG O d t) (A:t.length≤1000):bm F 217 [.agg [d],.j i] O (.agg (aG.f (jO t i))):=by
 have st:=ht.ax;refine ai.al (ar ?_);refine S.box fun h=>?_;refine S.alloc fun a4=>?_;refine S.bin ?_;refine G.mv ?_;refine G.aD ?_;refine G.ld 1 ?_;refine G.len ?_ (hl:=aa.len ht);refine G.bin ?_;refine G.or ?_;refine C.B (fun O6=>?_) fun O6=>?_
 ·have e:jO t i=ef:=by
   unfold jO;rw[ae];simp only[cx,aR]at O6;exact O6
  rw[e];refine S.build ?_;refine S.store 0 ?_;exact⟨_,.cN 0 rfl rfl rfl rfl .nil,.none rfl⟩
 ·simp only[cg,bD]at O6;have e:jO t i=nodeAt t i:=by unfold jO;rw[ab];omega
  rw[e];refine S.ld 1 ?_;refine S.bin ?_ (hv:=fU (by omega) (by omega));refine S.ew (n:=i) ht (by omega) (by omega) fun D o=>?_;refine S.bJ ?_ (l:=aG.f (nodeAt t i));refine S.store 0 ?_;exact⟨_,.cN 0 rfl rfl rfl rfl .nil,.none rfl⟩
theorem B4 [Fx F] {d:V} {t:ao} {i:Int} (ht:aa aG O d t) (h:lY t):ai F 169 [.agg [d],.j i] O [] (fun r ψ R=>R=[]∧aa cC ψ r (aW t i)) never:=by
 have st:=ht.ax;have A:=B3 h i;refine ar ?_;refine S.box fun G=>?_;refine S.ag 0 ?_ (l:=[d]);refine S.al (MM (i:=i) ht h.1) ?_;refine S.alloc fun a5=>?_;refine S.store 0 ?_;refine S.ld 0 ?_;refine S.bin ?_;refine C.B (fun O6=>?_) fun O6=>?_
 ·have e:aW t i=[]:=by rw[tK];unfold e3;rw[ab (by simpa using O6)]
  rw[e];exact⟨_,.t rfl .nil,.none ⟨rfl,aa.nil _⟩⟩
 ·have e:aW t i=(cv (jO t i).body).getD []:=by rw[tK];unfold e3;rw[ae (by simpa using O6)]
  rw[e];refine S.ld 0 ?_;refine S.call (BT (b:=(jO t i).body) A) fun L M D I o=>?_;obtain⟨rfl,w,rfl,hw⟩:=o;exact⟨_,.t rfl .nil,.none ⟨rfl,hw⟩⟩
theorem MO [Fx F] {n:cj} (h:n.body.length≤10000):ai F 104 [.agg (aG.f n)] O [] (fun r _ R=>R=[]∧r=.bool (eQ n)) never:=by
 refine ar ?_;refine S.box fun A=>?_;refine S.ld 0 ?_;refine S.bin ?_;refine C.D (fun Pk=>?_) fun Pk=>?_
 ·refine S.ag 0 ?_ (l:=[.j (n).kind,.j (n).mode,.str (n).body]);refine S.build ?_;refine S.bin ?_ (hv:=ML n ef);exact⟨_,.t rfl .nil,.none ⟨rfl,by show V.bool _=V.bool _;unfold eQ;rw[ae Pk]⟩⟩
 ·refine S.bin ?_;refine C.D (fun Ph=>?_) fun Ph=>?_
  ·refine S.ld 0 ?_;refine S.cb ?_;refine S.bin ?_;refine G.aD ?_;refine G.ld 0 ?_;refine G.bin ?_;refine G.and ?_;refine G.aD ?_;refine G.ld 0 ?_;refine G.bin ?_;refine G.and ?_;refine⟨_,.t rfl .nil,.none ⟨rfl,?_⟩⟩;show V.bool _=V.bool _;unfold eQ p6;rw[ab Pk,ae Ph];rw[←Bool.and_assoc];simp only[show((n.body.length:Int)≤120)↔n.body.length≤120 by omega]
  ·refine S.bin ?_;refine C.D (fun OT=>?_) fun OT=>?_
   ·refine S.ld 0 ?_;refine S.call (BT h) fun I L o B d=>?_;obtain⟨rfl,w,rfl,hw⟩:=d;refine G.aD ?_;refine G.ld 0 ?_;refine G.bin ?_;refine G.and ?_;refine G.aD ?_;refine G.ld 0 ?_;refine G.bin ?_;refine G.and ?_;refine⟨_,.t rfl .nil,.none ⟨rfl,?_⟩⟩;show V.bool _=V.bool _;unfold eQ p6;rw[ab Pk,ab Ph,ae OT];rw[←Bool.and_assoc]
   ·exact⟨_,.t rfl .nil,.none ⟨rfl,by show V.bool _=V.bool _;unfold eQ;rw[ab Pk,ab Ph,ab OT]⟩⟩
theorem MP [Fx F] {n:cj} (h:n.body.length≤10000):ai F 103 [.agg (aG.f n)] O [] (fun r _ R=>R=[]∧r=.bool (!eQ n)) never:=by
 refine ar ?_;refine S.box fun A=>?_;refine S.ag 0 ?_ (l:=[.j (n).kind,.j (n).mode,.str (n).body]);refine S.call (MO h) fun v4 D o B d=>?_;obtain⟨rfl,rfl⟩:=d;refine S.un ?_;exact⟨_,.t rfl .nil,.none ⟨rfl,rfl⟩⟩
theorem MQ [Fx F] {d:V} {t:ao} (ht:aa aG O d t) (h:lY t):ai F 167 [d,.fn 103 []] O [] (fun r _ R=>R=[]∧∃k:Int,r=.j k∧(0≤k↔t.all eQ=false)) never:=by
 have Y:=h.1;refine ar ?_;refine S.len ?_ (hl:=aa.len ht);refine SW.bF (fun m E ψ R=>∃j:Nat,j+m=t.length∧t.all eQ=(t.drop j).all eQ∧aa aG ψ d t∧R=[]∧Sub [(0,d),(1,.fn 103 []),(7,.j (t.length:Int)),(8,.j (j:Int))] E) (m:=t.length) (.done ⟨0,by omega,rfl,ht,rfl,.r rfl⟩) ?_;intro Q E ψ R Z G;obtain⟨j,hj,hd,ht,rfl,A⟩:=G;refine C.sub A ?_;refine S.bin ?_;refine C.D (fun O7=>?_) fun O7=>?_
 ·have hk:j<t.length:=by omega
  rw[bQ hk,k4]at hd;have I:=h.2 _ (cw hk);refine S.aF ht hk fun ab W=>?_;refine S.bJ ?_ (l:=aG.f t[j]);refine S.MK (MP I) fun ac ae U M o=>?_;obtain⟨rfl,rfl⟩:=o;refine C.B (fun O3=>?_) fun O3=>?_
  ·refine⟨_,.t rfl .nil,.none ⟨rfl,_,rfl,?_⟩⟩;have:eQ t[j]=false:=by simpa using O3
   rw[hd,this];simp
  ·refine S.bin ?_;have L:eQ t[j]=true:=by simpa using O3
   rw[L,gL]at hd;exact⟨Q-1,by omega,.done ⟨j+1,by omega,hd,ht.mono M,rfl,.r rfl⟩⟩
 ·obtain rfl:j=t.length:=by omega
  rw[b6]at hd;exact⟨_,.t rfl .nil,.none ⟨rfl,_,rfl,by rw[hd];simp⟩⟩
theorem MR [Fx F] {d:V} {t:ao} (ht:aa aG O d t) (j:lY t):ai F 102 [d,.fn 103 []] O [] (fun r _ R=>R=[]∧r=.bool (!t.all eQ)) never:=by
 refine ar ?_;refine S.call (MQ ht j) fun B D o A h=>?_;obtain⟨rfl,k,rfl,hk⟩:=h;refine S.bin ?_;refine⟨_,.t rfl .nil,.none ⟨rfl,?_⟩⟩;have:decide (0≤k)=!t.all eQ:=by rw[kp];simp[hk]
 rw[←this];(try rfl)
theorem B5 {t:ao} (d:lY t) (i:Int):(aW t i).length≤10000:=by
 rw[tK];unfold e3;split
 ·cases h:cv (jO t i).body with
  |none=>exact cS _
  |some l=>exact fL (vM h) (B3 d i)
 ·exact cS _
theorem MS [Fx F] {o:V} {t:ao} (ht:aa aG O o t) (U:lY t):ai F 106 [.agg [o]] O [] (fun r _ R=>∃a,r=.sl a 0 10 (.ex 10)∧(jq t).length=10∧R=[bt.ob (some a) (jq t)]) never:=by
 have st:=ht.ax;have aH:=U.1;refine ar ?_;refine S.box fun G=>?_;refine S.ox (n:=10) (m:=10) (by omega) (by omega) (by omega) fun h=>?_;have ah:∀l:List Int,l.length=10→af bt (.sl h 0 10 (.ex 10)) l (some h):=fun l hl=>af.new hl;refine S.ld 1 ?_;refine S.len ?_ (hl:=aa.len ht);refine SW.bF (fun m E ψ R=>∃(j:Nat) (nm:List Int),j+m=t.length∧nm.length=10∧(∀x∈nm,0≤x∧x≤j*10001)∧nm=oV t j 1 (List.replicate 10 0)∧aa aG ψ o t∧R=[bt.ob (some h) nm,(some G,.cells [o] false)]∧Sub [(1,.ptr G 0),(3,.sl h 0 10 (.ex 10)),(10,.j (t.length:Int)),(11,.j (j:Int))] E) (m:=t.length) (.done ⟨0,List.replicate 10 0,by omega,by simp,fun x hx=>by rw[mZ hx];omega,rfl,ht,rfl,.r rfl⟩) ?_;intro ay E ψ R ap Q;obtain⟨j,nm,hm,ae,au,ac,ht,rfl,M⟩:=Q;refine C.sub M ?_;refine S.bin ?_;refine C.D (fun Ph=>?_) fun Ph=>?_
 ·refine S.ag 1 ?_ (l:=[o]);refine S.bin ?_ (hv:=dz (by omega) (by omega));refine S.call (B4 (i:=((j+1:Nat):Int)) ht U) fun aj aM aA aw A=>?_;obtain⟨rfl,A⟩:=A;have ht:=ht.mono aw;have av:=B5 U ((j+1:Nat):Int);obtain⟨l,Y⟩:∃l,l=aW t ((j+1:Nat):Int):=⟨_,rfl⟩
  rw[←Y]at A av;have an:∀e∈l,1≤e.ino∧e.ino≤9:=by rw[Y];exact kM
  refine S.len ?_ (hl:=aa.len A);refine SW.loop (fun m E ψ R=>∃(k:Nat) (d:List Int),k+m=l.length∧d.length=10∧(∀x∈d,0≤x∧x≤j*10001+k)∧l.foldl bump nm=(l.drop k).foldl bump d∧aa aG ψ o t∧aa cC ψ aj l∧R=[bt.ob (some h) d,(some G,.cells [o] false)]∧Sub [(1,.ptr G 0),(3,.sl h 0 10 (.ex 10)),(10,.j (t.length:Int)),(11,.j (j:Int)),(17,aj),(18,.j (l.length:Int)),(19,.j (k:Int))] E) (m:=l.length) ⟨0,nm,by omega,ae,by simpa using au,rfl,ht,A,rfl,.r rfl⟩ ?_;intro az E ψ R ap Q;obtain⟨k,d,aJ,I,W,B,ht,hw,rfl,M⟩:=Q;refine C.sub M ?_;refine S.bin ?_;refine C.D (fun Pb=>?_) fun Pb=>?_
  ·have hk:k<l.length:=by omega
   rw[bQ hk]at B;have aI:=an _ (cw hk);obtain⟨q,Z⟩:∃q:Nat,(l[k]).ino=(q:Int):=⟨(l[k]).ino.toNat,by omega⟩
   have L:q<d.length:=by omega
   have aK:=W _ (cw L);have ab:bump d l[k]=d.set q (d[q]+1):=by unfold bump;rw[Z,hC];exact zm _ L
   refine S.aF hw hk fun aL aE=>?_;refine S.bJ ?_ (l:=cC.f l[k]);refine S.alloc fun aD=>?_;refine S.store 0 ?_;refine S.ld 0 ?_;refine S.ct (ah d I) L (fun aB ak=>?_) (hi:=by rw[←Z];exact .t rfl);cases ak;refine S.eJ 0 1 ?_;refine S.bin ?_ (hv:=dz (by omega) (by omega));refine S.ct (ah d I) L (fun aC al=>?_) (hi:=by rw[←Z];exact .t rfl);cases al;refine S.kK (d[q]+1) 1 ?_;refine S.drop 0 ?_;refine S.bin ?_;refine⟨az-1,by omega,k+1,d.set q (d[q]+1),by omega,by simpa using I,?_,by rw[B,←ab];(try rfl),ht,hw,rfl,.r rfl⟩;rw[←ab];intro x hx;have:=zE W x hx;omega
  ·obtain rfl:k=l.length:=by omega
   rw[b6]at B;change l.foldl bump nm=d at B;refine S.bin ?_;exact⟨ay-1,by omega,.done ⟨j+1,d,by omega,I,fun x hx=>by have:=W x hx;omega,by rw[Bl,←ac,←B,Y,qn 1 j],ht,rfl,.r rfl⟩⟩
 ·obtain rfl:j=t.length:=by omega
  have am:nm=jq t:=ac;subst am;exact⟨_,.t rfl .nil,.drop 1 (.done ⟨h,rfl,ae,rfl⟩)⟩
end Go.Ev
set_option maxHeartbeats 2000000
namespace Go.Ev
variable{F:Nat→Option aP} {O:Fz}
theorem MT {b:Bool} {v u:V} (h:b=true→v=u):gv b v=gv b u:=by cases b with|false=>rfl|true=>rw[h rfl]
theorem MU {a b:Bool}:b0 .neq (.flat .b) (.bool a) (.bool b)=some (.bool (a !=b)):=by cases a<;>cases b<;>rfl
theorem MV {t:ao} (d:t.length=9) (hk:(nodeAt t 1).kind=2) (h:t.all eQ=true):bH t=([1,2,3,4,5,6,7,8,9].all (fun i=>!lV t i)&&decide (((jq t)[1]?).getD 0=0)):=by
 rw[BB,d,hk,h];(try rfl)
theorem MW [Fx F] {d:V} {t:ao} {a:Pa} (I:lY t) (k:Nat):∀{O:Fz} {Z:List Int} {i:Int},left Z<k→1≤i→i≤9→aa aG O d t→
 ai F 105 [.agg [d],.j i,.map a] O [(some a,kX Z)] (fun _ _ R=>∃S',R=[(some a,kX S')]∧Rd t i Z S') never:=by
 induction k with
 |zero=>intro O Z i h;exact absurd h (qj _)
 |succ k ak=>?_
 intro O Z i hk o ab ht;have st:=ht.ax;refine ar ?_;refine S.box fun a3=>?_;refine S.look 1 ?_;refine C.B (fun OU=>?_) fun OU=>?_
 ·exact⟨_,.nil,.drop 0 (.done ⟨Z,rfl,Rd.there (by simpa using OU)⟩)⟩
 ·have M:i∉Z:=by simpa using OU
  refine S.MJ 1 M ?_;refine S.ag 0 ?_ (l:=[d]);refine S.call (B4 (i:=i) ht I) fun U aA an al A=>?_;obtain⟨rfl,A⟩:=A;have ht:=ht.mono al;have ay:=B5 I i;refine S.len ?_ (hl:=aa.len A);refine SW.bF (fun m E ψ R=>∃(j:Nat) (S1:List Int),j+m=(aW t i).length∧Rs t i Z S1 j∧aa aG ψ d t∧aa cC ψ U (aW t i)∧R=[(some a,kX S1),(some a3,.cells [d] false)]∧Sub [(2,.map a),(3,.ptr a3 0),(15,U),(16,.j ((aW t i).length:Int)),(17,.j (j:Int))] E) (m:=(aW t i).length) (.front 1 rfl (.done ⟨0,Z++[i],by omega,Rs.start,ht,A,rfl,.r rfl⟩)) ?_;intro am E ψ R aj ae;obtain⟨j,S1,hm,G,ht,hw,rfl,ac⟩:=ae;refine C.sub ac ?_;refine S.bin ?_;refine C.D (fun OY=>?_) fun OY=>?_
  ·have hj:j<(aW t i).length:=by omega
   have L:=kM _ (cw hj);have aw:=L0 o ab M;have aj:=LZ (S:=Z++[i]) (S':=S1) (fun x hx=>by simp at hx;rcases hx with hx|hx;exact G.sub x hx;subst hx;exact G.at_);refine S.aF hw hj fun az av=>?_;refine S.bJ ?_ (l:=cC.f (aW t i)[j]);refine S.alloc fun au=>?_;refine S.store 0 ?_;refine S.ag 2 ?_ (l:=[d]);refine S.ld 0 ?_;refine S.ba 1 rfl (ak (Z:=S1) (i:=(aW t i)[j].ino) (by omega) L.1 L.2 ht) fun v25 aC ap Q Y=>?_;obtain⟨W,rfl,ah⟩:=Y;refine S.bin ?_;exact⟨am-1,by omega,.drop 1 (.done ⟨j+1,W,by omega,G.step hj ah,ht.mono Q,hw.mono Q,rfl,.r rfl⟩)⟩
  ·obtain rfl:j=(aW t i).length:=by omega
   exact⟨_,.nil,.drop 1 (.done ⟨S1,rfl,G.done (aB _)⟩)⟩
theorem MX [Fx F] {d:V} {t:ao} (ht:aa aG O d t) (A:lY t):ai F 61 [d] O [] (fun r _ R=>R=[]∧r=.bool (bH t)) never:=by
 have st:=ht.ax;have aQ:=A.1;refine ar ?_;refine S.len ?_ (hl:=aa.len ht);refine S.bin ?_;refine G.mv ?_;refine G.aF ht (j:=0) (z:=nodeAt t 1) (fun aT al=>?_) (hj:=fun A=>by simp at A;rw[bj (show 0<t.length by omega)];unfold nodeAt;rw[show((1:Int)-1).toNat=0 by rfl,bj (show 0<t.length by omega)];(try rfl));refine G.bl al fun aU aO=>?_;refine G.a1 ?_;refine G.bin ?_;refine G.or ?_;refine G.mv ?_;refine G.call (fun _=>MR ht A) fun v22 aZ aC am=>?_;rw[MT am];have ht:=ht.mono aC;refine G.or ?_;refine C.B (fun O5=>?_) fun O5=>?_
 ·have e:bH t=false:=by
   rw[BB];simp only[cx,c3,bD]at O5;rcases O5 with(h|h)|h
   ·rw[decide_eq_false (by omega)];(try rfl)
   ·rw[decide_eq_false h,Bool.and_false];(try rfl)
   ·rw[h,Bool.and_false];(try rfl)
  exact⟨_,.t rfl .nil,.none ⟨rfl,by rw[e];(try rfl)⟩⟩
 ·simp only[cg,du,aR]at O5;have aB:t.length=9:=by omega
  have ab:=MV aB O5.1.2 O5.2;refine S.build ?_;refine S.alloc fun a3=>?_;refine S.store 0 ?_;refine S.mkMap fun Q=>?_;refine S.ag 1 ?_ (l:=[d]);refine S.ba 0 rfl (MW A 10 (Z:=[]) (i:=1) (by decide) (by omega) (by omega) ht) fun aW a2 aJ aE an=>?_;obtain⟨ah,rfl,az⟩:=an;have ht:=ht.mono aE;refine S.ag 1 ?_ (l:=[d]);refine S.call (MS ht A) fun aX a6 aK aH ap=>?_;obtain⟨I,rfl,ac,rfl⟩:=ap;have ht:=ht.mono aH;obtain⟨nm,M⟩:∃nm,nm=jq t:=⟨_,rfl⟩
  rw[←M]at ac⊢;have ae:af bt (.sl I 0 10 (.ex 10)) nm (some I):=af.new ac;refine S.len ?_ (hl:=aa.len ht);refine SW.bF (fun m E ψ R=>∃j:Nat,j+m=t.length∧(∀i:Nat,1≤i→i≤j→lV t i=false)∧aa aG ψ d t∧R=[bt.ob (some I) nm,(some Q,kX ah),(some a3,.cells [d] false)]∧Sub [(4,.map Q),(5,.sl I 0 10 (.ex 10)),(32,d),(33,.j (t.length:Int)),(34,.j (j:Int))] E) (m:=t.length) (.done ⟨0,by omega,fun i o aj=>by omega,ht,rfl,.r rfl⟩) ?_;intro aI E ψ R aS ay;obtain⟨j,hm,U,ht,rfl,aw⟩:=ay;refine C.sub aw ?_;refine S.bin ?_;refine C.D (fun ak=>?_) fun ak=>?_
  ·have hj:j<t.length:=by omega
   have Y:j+1<nm.length:=by omega
   refine S.aF ht hj fun aV aP=>?_;refine S.bJ ?_ (l:=aG.f t[j]);refine S.alloc fun aM=>?_;refine S.store 0 ?_;refine S.bin ?_ (v:=.j ((j+1:Nat):Int)) (hv:=by rw[dz (by omega) (by omega)];(try rfl));refine S.ct ae Y fun aL au=>?_;cases au;refine S.eJ (j:=j+1) 0 1 ?_;refine S.ld 0 ?_;refine S.bin ?_;refine S.bE 0 ?_;refine S.bin ?_ (v:=.j ((j+1:Nat):Int)) (hv:=by rw[dz (by omega) (by omega)];(try rfl));refine S.look 2 ?_;rw[az.root (j+1)];refine S.bin ?_ (hv:=MU);refine G.mv ?_;refine G.un ?_;refine G.mv ?_;refine G.mv ?_;refine G.bin ?_;refine G.fV ?_;refine G.or ?_;refine G.aD ?_;refine G.ld 0 ?_;refine G.bin ?_;refine G.mv ?_;refine G.mv ?_;refine G.bin ?_;refine G.fV ?_;refine G.mv ?_;refine G.mv ?_;refine G.bin ?_;refine G.fV ?_;refine G.or ?_;have W:lV t (j+1)=(((!decide ((t[j]).kind=0)) !=((eg t)[j+1]?).getD false)||(!!decide ((t[j]).kind=0)&&decide (0<nm[j+1]))||(decide ((t[j]).kind=2)&&decide ((0:Int)<(j:Int))&&!decide (nm[j+1]=1))):=by
    unfold lV;rw[ti hj,←M,bj Y];rw[show decide (1<j+1)=decide ((0:Int)<(j:Int))from decide_eq_decide.2 (by omega)];(try rfl)
   refine C.B (fun L=>?_) fun L=>?_
   ·have e:bH t=false:=by
     rw[ab];have:[1,2,3,4,5,6,7,8,9].all (fun i=>!lV t i)=false:=by
      rw[l2];intro h;have:=eU.1 h (j+1) (oW.2 ⟨by omega,by omega⟩);rw[W,L]at this;cases this
     rw[this];(try rfl)
    exact⟨_,.t rfl .nil,.none ⟨rfl,by rw[e];(try rfl)⟩⟩
   ·refine S.bin ?_;have aA:∀i:Nat,1≤i→i≤j+1→lV t i=false:=by
     intro i o aj;by_cases h:i≤j
     ·exact U i o h
     ·have:i=j+1:=by omega
      subst this;exact W.trans L
    exact⟨aI-1,by omega,.drop 0 (.done ⟨j+1,by omega,aA,ht,rfl,.r rfl⟩)⟩
  ·obtain rfl:j=t.length:=by omega
   have e:bH t=decide (nm[1]'(by omega)=0):=by
    rw[ab];have:[1,2,3,4,5,6,7,8,9].all (fun i=>!lV t i)=true:=by
     rw[eU];intro i hi;have:=oW.1 hi;rw[U i this.1 (by omega)];(try rfl)
    rw[this,←M,bj (show 1<nm.length by omega)];(try rfl)
   refine S.ct (j:=1) ae (by omega) fun a76 av=>?_;cases av;refine S.eJ (j:=1) 0 0 ?_;refine S.bin ?_;exact⟨_,.t rfl .nil,.none ⟨rfl,by rw[e];(try rfl)⟩⟩
end Go.Ev
set_option maxHeartbeats 2000000
namespace Go.Ev
variable{F:Nat→Option aP} {O:Fz}
theorem MY [Fx F] {d:V} (hs:isScalar d=true):ai F 171 [d,.j 40] O [] (fun r ψ R=>ψ=O∧∃h o,r=.fn 219 [.ptr h 0,.ptr o 0]∧R=[(some o,.cells [.j 40] false),(some h,.cells [d] false)]) never:=by
 have A:d.cells=[d]:=gV hs;refine ar ?_;refine S.box (v:=d) (fun B=>?_) (hs:=by rw[A];simp[aY,hs]);rw[A];refine S.box fun a3=>?_;refine S.ld 0 ?_;refine S.bin ?_;refine C.D (fun Pe=>?_) fun Pe=>?_
 ·exact absurd Pe (by omega)
 ·refine S.sK ?_;exact⟨_,.t rfl .nil,.done ⟨rfl,B,a3,rfl,rfl⟩⟩
theorem MZ {b:Bs} {Q:V} {o G l:Pa} {A L:IC ak} {nt:Nat} {R:List Ob} {P:bz} (d:Nat→Fz→List Ob→Prop) (hw:aa aU O Q b) (am:b.length≤1000000) (h0:d 0 O R) (I:∀q ψ R,d q ψ R→R[2]? =some (some o,.cells [Q] false)) (U:∀q ψ R,d q ψ R→R[1]? =some (some G,.cells [.j 40] false))
 (aj:∀(q:Nat) (v:V) (ψ:Fz) (R:List Ob),O.Le ψ→40*q<b.length→d q ψ R→aa aU ψ v ((b.drop (40*q)).take 40)→oD F (pN 219 nt l A L) l [v] ψ R (fun c Y M=>(c=true→d (q+1) Y M)∧c≠false))
 (hn:∀E q ψ R,O.Le ψ→b.length≤40*q→d q ψ R→P.n E ψ R):SW F (pN 219 nt l A L) B.za.den [(0,.fp l),(1,.ptr o 0),(2,.ptr G 0)] O R P:=by
 refine SC.w ?_;refine SW.loop (fun m E ψ R=>∃q:Nat,O.Le ψ∧b.length+40≤40*q+m+40∧40*q≤b.length+40∧d q ψ R∧Sub [(0,.fp l),(1,.ptr o 0),(2,.ptr G 0),(4,.j ((40*q:Nat):Int))] E) (m:=b.length) ⟨0,.refl O,by omega,by omega,h0,.r rfl⟩ ?_;intro m E ψ R an ⟨q,h,ao,ap,hi,ae⟩;refine C.sub ae ?_;refine S.ld 2 ?_ (hi:=I _ _ _ hi);refine S.len ?_ (hl:=aa.len hw);refine S.bin ?_;refine C.D (fun O7=>?_) fun O7=>?_
 ·have hq:40*q<b.length:=by omega
  obtain⟨k,hk⟩:∃k,k=min 40 (b.length-40*q):=⟨_,rfl⟩
  refine S.ld 1 ?_ (hi:=U _ _ _ hi);refine S.ld 2 ?_ (hi:=I _ _ _ hi);obtain⟨ar,ab,Z⟩:=(hw.mono h).lo (j:=40*q) (by omega);refine S.slice ab ?_;refine S.len ?_ (hl:=aa.len Z);rw[bW];refine S.kH (qU 40 (b.length-40*q)) ?_;rw[←hk];refine S.ld 2 ?_ (hi:=I _ _ _ hi);refine S.bin ?_ (v:=.j ((40*q+k:Nat):Int)) (hv:=by rw[dz (by omega) (by omega)];(try rfl));refine S.bin ?_ (v:=.j ((40*q+k:Nat):Int)) (hv:=by rw[dz (by omega) (by omega)];(try rfl));obtain⟨al,ac,f28⟩:=(hw.mono h).full (i:=40*q) (j:=40*q+k) (by omega) (by omega);refine S.slice ac ?_;have ai:(b.drop (40*q)).take (40*q+k-40*q)=(b.drop (40*q)).take 40:=by
   rw[List.take_eq_take_iff,bW];omega
  rw[ai]at f28;refine S.yield (aj q al ψ R h hq hi f28) fun c Y M ah hc=>?_;have ag:c=true:=by cases c with|true=>rfl|false=>exact absurd rfl hc.2
  subst ag;refine S.un ?_;refine C.B (t:=!true) (fun Pn=>by cases Pn) fun _=>?_;have W:=hc.1 rfl;refine S.ld 1 ?_ (hi:=U _ _ _ W);refine S.bin ?_ (v:=.j ((40*(q+1):Nat):Int)) (hv:=by rw[dz (by omega) (by omega)];(try rfl));exact⟨m-40,by omega,q+1,h.trans ah,by omega,by omega,W,.r rfl⟩
 ·show P.n _ _ _;exact hn _ q _ _ h (by omega) hi
theorem M0 {ino idx:Int} {f:Nat} {b:Bs} (h:b=[]):ix ino f idx b=[]:=by subst h;exact Ai
def M1 (e:T V) (fn nt:Nat) (l o A d a5 a4 a3:Pa) (h:V) (n:cj) (j q:Nat) (w:V) (out:List bA) (s:Option Pa):List Ob:=
 [(some l,.loop {state:=.ready,pending:=none,fn:=fn,nt:=nt,env:=e,params:=[pa 41]}),(some A,.cells [.j 40] false),(some o,.cells [h] false),(some d,.cells [.j ((q:Int)+1)] false),(some a5,.cells [.j n.kind,.j n.mode,.str n.body] false),(some a4,.cells [.j (j:Int)] false),bq.ob s out,(some a3,.cells [w] false)]
theorem M2 [Fx F] {Q:V} {t:ao} (ht:aa aG O Q t) (Z:lY t):
 ai F 107 [Q] O [] (fun r ψ R=>R=[]∧aa bq ψ r (b3 t)) never:=by
 have ba:=Z.1;refine ar ?_;refine S.call (MX ht Z) fun v9 bv a2 aR aE=>?_;obtain⟨rfl,rfl⟩:=aE;have ht:=ht.mono aR;refine S.un ?_;refine C.B (fun OU=>?_) fun OU=>?_
 ·have e:b3 t=[]:=by unfold b3;rw[ab];intro h;rw[h]at OU;cases OU
  rw[e];exact⟨_,.t rfl .nil,.none ⟨rfl,aa.nil _⟩⟩
 ·have e:b3 t=fE 1 t:=by unfold b3;rw[ae];simpa using OU
  rw[e];refine S.alloc fun a3=>?_;refine S.len ?_ (hl:=aa.len ht);refine SW.new bq ?_;refine SW.bF (fun m E ψ R=>∃(j:Nat) (out:List bA) (v:V) (s:Option Pa),j+m=t.length∧out++fE ((j:Int)+1) (t.drop j)=fE 1 t∧out.length≤20000*j∧aa aG ψ Q t∧R=[bq.ob s out,(some a3,.cells [v] false)]∧af bq v out s∧Sub [(3,.ptr a3 0),(11,Q),(12,.j (t.length:Int)),(13,.j (j:Int))] E) (m:=t.length) (.done ⟨0,[],.no .sl,none,by omega,rfl,by simp,ht,rfl,af.nil,.r rfl⟩) ?_;intro an E ψ R al G;obtain⟨j,out,v,s,bc,d,bd,ht,rfl,ho,aH⟩:=G;refine C.sub aH ?_;refine S.bin ?_;refine C.D (fun O0=>?_) fun O0=>?_
  ·have hj:j<t.length:=by omega
   obtain⟨n,hn⟩:∃n,n=t[j]:=⟨_,rfl⟩
   have aJ:n.body.length≤10000:=by rw[hn];exact Z.2 _ (cw hj)
   rw[bQ hj,←hn]at d;simp only[fE]at d;refine S.aF ht hj fun bh aB=>?_;rw[←hn]at aB;refine S.bJ ?_ (l:=aG.f n);refine S.alloc fun a4=>?_;refine S.alloc fun a5=>?_;refine S.store 1 ?_;refine S.store 0 ?_;refine S.ld 0 ?_;refine S.bin ?_;refine C.D (fun Pb=>?_) fun Pb=>?_
   ·refine S.bin ?_;have U:jg ((j:Int)+1) n=[]:=by unfold jg;exact ae Pb
    rw[U,fo]at d;exact⟨an-1,by omega,.drop 0 (.drop 0 (.done ⟨j+1,out,v,s,by omega,d,by omega,ht,rfl,ho,.r rfl⟩))⟩
   ·have U:jg ((j:Int)+1) n=⟨(j:Int)+1,0,[bM n.kind,bM n.mode,bM n.body.length]⟩::ix ((j:Int)+1) n.body.length 1 n.body:=by unfold jg;exact ab Pb
    rw[U]at d;refine S.ld 3 ?_;refine S.ld 1 ?_;refine S.bin ?_ (v:=.j ((j:Int)+1)) (hv:=dz (by omega) (by omega));refine S.ld 0 ?_;refine S.ld 0 ?_;refine S.ld 0 ?_;refine S.cb ?_;refine S.a8 fun ah=>?_;have aS:af bt (.sl ah 0 3 (.ex 3)) [n.kind,n.mode,(n.body.length:Int)] (some ah):=af.new rfl;refine S.cd 0 aS fun bm aP aD=>?_;have ht:=ht.mono aP;refine S.call (rI (b:=[]) (n:=1) (aa.nil _) aD (by omega) (by omega) (by simp) (by simp)) fun bj bn aZ be o=>?_;obtain⟨o,bi,rfl,ap⟩:=o;have o:=o.symm;subst o;have aC:[]++bo 1 [n.kind,n.mode,(n.body.length:Int)]=[bM n.kind,bM n.mode,bM n.body.length]:=rfl;rw[aC]at ap⊢;refine S.bE 2 ?_;refine S.bE 4 ?_ (hs:=ho.same);refine S.hM 0 ap ?_;refine S.drop 0 ?_;refine S.build ?_;refine S.a8 fun a6=>?_;refine S.br (m:=[⟨(j:Int)+1,0,[bM n.kind,bM n.mode,bM n.body.length]⟩]) 3 ho (.lit 0) (by simp;omega) fun aV aT L=>?_;refine S.drop 0 ?_;refine S.store 3 ?_ (hs:=by rw[gV L.ax];simp[aY,L.ax]) (ch:=by rw[gV L.ax];(try rfl)) (hl:=by rw[gV L.ax];(try rfl));refine S.alloc fun ay=>?_;refine S.store 0 ?_;refine S.ld 1 ?_;refine S.jH fun v39 aW aQ aj=>?_;have ht:=ht.mono aQ;refine S.call (MY aj.ax) fun bk bs a1 bg A=>?_;obtain⟨A,az,aA,rfl,rfl⟩:=A;have A:=A.symm;subst A;have aM:=aj;have bb:n.body.length≤10000:=aJ;refine SW.ze (Fx.h (f:=219) rfl) rfl fun l e he=>?_;refine MZ (b:=n.body) (fun q ψ R=>aW.Le ψ∧∃(f:Nat) (out:List bA) (w:V) (s:Option Pa),out++(ix ((j:Int)+1) f ((q:Int)+1) (n.body.drop (40*q))++fE ((j:Int)+1+1) (t.drop (j+1)))=fE 1 t∧(n.body.drop (40*q)).length≤f∧out.length+f≤20000*j+1+n.body.length∧40*q≤n.body.length+40∧af bq w out s∧R=M1 e 107 55 l az aA ay a5 a4 a3 v39 n j q w out s) aM (by omega) ⟨.refl _,n.body.length,_,aV,aT,by rw[←d,bp];(try rfl),by simp,by simp;omega,by omega,L,rfl⟩ (fun q ψ R h=>by obtain⟨_,_,_,_,_,_,_,_,_,_,rfl⟩:=h;rfl) (fun q ψ R h=>by obtain⟨_,_,_,_,_,_,_,_,_,_,rfl⟩:=h;rfl) ?aO ?hn
    case aO=>
     intro q v ψ aw al hq G hv;obtain⟨ac,f,au,w,av,I,ak,aK,aL,ag,Y⟩:=G;subst Y;have am:(n.body.drop (40*q)).length=n.body.length-40*q:=bW;obtain⟨W,rfl⟩:∃W,f=W+1:=⟨f-1,by omega⟩
     rw[Ah (by intro h;rw[h]at am;simp at am;omega),nY]at I;refine oD.round (r:={state:=.ready,pending:=none,fn:=107,nt:=55,env:=e,params:=[pa 41]}) rfl rfl (he.set 41 _) ?_;refine SC.w ?_;refine SC.w ?_;refine S.ld 6 ?_;refine S.ld 4 ?_;refine S.bin ?_ (v:=.j ((j:Int)+1)) (hv:=dz (by omega) (by omega));refine S.ld 2 ?_;refine S.tg hv ?_;refine S.build ?_;refine S.a8 fun a7=>?_;refine S.br (m:=[⟨(j:Int)+1,(q:Int)+1,(n.body.drop (40*q)).take 40⟩]) 6 ag (.lit 0) (by simp;omega) fun v50 aU M=>?_;refine S.drop 0 ?_;refine S.store 6 ?_ (hs:=by rw[gV M.ax];simp[aY,M.ax]) (ch:=by rw[gV M.ax];(try rfl)) (hl:=by rw[gV M.ax];(try rfl));refine S.ld 2 ?_;refine S.bin ?_ (v:=.j (((q+1:Nat):Int)+1)) (hv:=by rw[dz (by omega) (by omega)];(try rfl));refine S.store 2 ?_;refine⟨fun _=>⟨ac,W,_,v50,aU,by rw[←I,bp];(try rfl),by rw[bW]at ak⊢;omega,by simp;omega,by omega,M,rfl⟩,by simp⟩
    intro aX q bl aw al hq G;obtain⟨ac,f,au,w,av,I,ak,aK,aL,ag,Y⟩:=G;subst Y;refine⟨_,_,rfl,(by intro h;cases h),.inl ⟨rfl,?_⟩⟩;rw[M0 (p8 hq),fo]at I;have ht:=ht.mono ac;refine S.bin ?_;exact⟨an-1,by omega,.drop 0 (.drop 0 (.drop 0 (.drop 0 (.drop 0 (.done ⟨j+1,au,w,av,by omega,I,by omega,ht,rfl,ag,.r rfl⟩)))))⟩
  ·obtain rfl:j=t.length:=by omega
   rw[b6]at d;simp only[fE,e9]at d;rw[d]at ho⊢;refine S.ld 1 ?_;exact⟨_,.t rfl .nil,.drop 1 (.bL 0 rfl ho fun ψ l aI=>.done ⟨rfl,aI⟩)⟩
end Go.Ev
set_option maxHeartbeats 1000000
namespace Go.Ev
variable{F:Nat→Option aP} {O:Fz}
theorem M3 {t:ao} (h:bH t=true):b3 t≠[]:=by
 obtain⟨d,hk,_⟩:=wJ h;unfold b3;rw[ae h];cases t with
 |nil=>simp at d
 |cons n r=>
  have hn:n.kind=2:=hk;simp only[fE];unfold jg;rw[ab (by omega)];simp
theorem M4 {l:List bA} {t:ao} (h:hQ (List.replicate 9 ef) l=some t) (o:(b3 t).length≠0) (aj:b3 t=l):ei l=some t:=by
 unfold ei;rw[h];simp only;have hm:bH t=true:=by
  apply Decidable.byContradiction;intro hm;apply o;unfold b3;rw[ab hm];(try rfl)
 rw[hm,aj];simp
theorem M5 {l:List bA} {t:ao} (h:hQ (List.replicate 9 ef) l=some t) (o:(b3 t).length=0∨b3 t≠l):ei l=none:=by
 unfold ei;rw[h];simp only;rw[ab];intro hm;simp only[be,aR]at hm;rcases o with o|o
 ·exact M3 hm.1 (e8 o)
 ·exact o hm.2
theorem M6 [Fx F] {dL:Pa} {t:ao} {r:bA} (U:t.length=9) (Q:∀x∈t,x.body.length≤10000) (ac:r.load.length≤60) (Z:0≤r.idx):
 ai F 234 [.agg [.sl dL 0 9 (.ex 9)],.agg (bq.f r)] O [aG.ob (some dL) t] (fun v ψ R=>ψ=O∧v=.bool (ez t r).isSome∧R=[aG.ob (some dL) ((ez t r).getD t)]) never:=by
 have I:af aG (.sl dL 0 9 (.ex 9)) t (some dL):=af.new U;refine ar ?_;refine S.box fun W=>?_;refine S.box fun a3=>?_;refine S.ld 0 ?_;refine S.bin ?_;refine G.aD ?_;refine G.ld 0 ?_;refine G.aD ?_;refine G.ld 1 ?_;refine G.len ?_ (hl:=af.len I);refine G.bin ?_;refine G.or ?_;refine C.B (fun O3=>?_) fun O3=>?_
 ·have d:ez t r=none:=by
   unfold ez;rw[ae];simp only[cx,aR]at O3;omega
  refine⟨_,.t rfl .nil,.drop 0 (.drop 0 (.done ⟨rfl,by rw[d];(try rfl),by rw[d];(try rfl)⟩))⟩
 ·simp only[cg,bD]at O3;obtain⟨i,hi⟩:∃i:Nat,r.ino-1=(i:Int):=⟨(r.ino-1).toNat,by omega⟩
  have h:i<t.length:=by omega
  have Y:=Q _ (cw h);refine S.ld 1 ?_;refine S.ld 0 ?_;refine S.bin ?_ (v:=.j (i:Int)) (hv:=by rw[fU (by omega) (by omega),hi]);refine S.ct I h fun a22 L=>?_;cases L;refine S.ld 0 ?_;refine S.bin ?_;refine C.D (fun OW=>?_) fun OW=>?_
  ·have d:ez t r=some (t.set i {t[i]with body:=t[i].body++r.load}):=by
    unfold ez;rw[ab (by omega),ab (by omega),pW hi,ri hi h]
   refine S.aD ?_;refine S.eJ (e:=aG) (l:=t) (j:=i) 2 2 ?_;refine S.ld 0 ?_;refine S.bin ?_;refine S.aD ?_;refine S.pM (e:=aG) (l:=t) (j:=i) {t[i]with body:=t[i].body++r.load} 2 2 ?_;refine⟨_,.t rfl .nil,.drop 0 (.drop 0 (.done ⟨rfl,by rw[d];(try rfl),by rw[d];(try rfl)⟩))⟩
  ·refine S.ld 0 ?_;refine S.cb ?_;refine S.bin ?_;refine C.B (fun A=>?_) fun A=>?_
   ·have d:ez t r=none:=by unfold ez;rw[ab (by omega),ae (by omega),ab (by simp at A;omega)]
    refine⟨_,.t rfl .nil,.drop 0 (.drop 0 (.done ⟨rfl,by rw[d];(try rfl),by rw[d];(try rfl)⟩))⟩
   ·have M:r.load.length=3:=by simp at A;omega
    have h0:r.load[0]? =some r.load[0]:=bj (by omega);have o:r.load[1]? =some r.load[1]:=bj (by omega);have d:ez t r=some (t.set i {t[i]with kind:=(r.load[0]).toNat,mode:=(r.load[1]).toNat}):=by
     unfold ez;rw[ab (by omega),ae (by omega),ae M,pW hi,ri hi h,h0,o];(try rfl)
    refine S.ld 0 ?_;refine S.gy h0 ?_;refine S.iY ?_;refine S.ld 0 ?_;refine S.gy o ?_;refine S.iY ?_;refine S.aD ?_;refine S.pM (e:=aG) (l:=t) (j:=i) {t[i]with kind:=(r.load[0]).toNat} 0 2 ?_;refine S.zN (b:=r.load[1]) ?_;refine S.bE 0 ?_;refine S.aD ?_;refine S.pM (e:=aG) (l:=t.set i {t[i]with kind:=(r.load[0]).toNat}) (j:=i) {t[i]with kind:=(r.load[0]).toNat,mode:=(r.load[1]).toNat} 1 2 ?_ (hj:=by simpa using h) (hu:=by rw[ua];(try rfl));refine⟨_,.t rfl .nil,.drop 0 (.drop 0 (.done ⟨rfl,by rw[d];(try rfl),by rw[d];exact congrArg (fun x=>[aG.ob (some dL) x]) (List.set_set _)⟩))⟩
theorem M7 {t j:ao} {r:bA} {B:Nat} (h:ez t r=some j) (hl:t.length=9) (d:∀x∈t,x.body.length≤60*B) (hr:r.load.length≤60):j.length=9∧∀x∈j,x.body.length≤60*(B+1):=by
 unfold ez at h;split at h
 ·cases h
 ·rename_i h0;obtain⟨i,hi⟩:∃i:Nat,r.ino-1=(i:Int):=⟨(r.ino-1).toNat,by omega⟩
  have o:i<t.length:=by omega
  have A:=d _ (cw o);rw[pW hi,pW hi,ri hi o]at h;split at h
  ·split at h
   ·cases h;refine⟨by simpa using hl,fun x hx=>?_⟩;rcases o5 hx with hx|rfl
    ·have:=d x hx;omega
    ·show(t[i]).body.length≤_;omega
   ·cases h
  ·cases h;refine⟨by simpa using hl,fun x hx=>?_⟩;rcases o5 hx with hx|rfl
   ·have:=d x hx;omega
   ·show((t[i]).body++r.load).length≤_;rw[c2];omega
theorem M8 [Fx F] {W:V} {l:List bA} (hl:aa bq O W l) (hlen:l.length≤150) (am:∀r∈l,r.load.length≤60∧0≤r.idx):
 ai F 201 [W] O [] (fun r ψ R=>R=[]∧∃ac,r=.aN [ac,.bool (ei l).isSome]∧aa aG ψ ac ((ei l).getD [])) never:=by
 refine ar ?_;refine S.oE (e:=aG) ef (n:=9) (by omega) (by omega) fun dL aD=>?_;refine S.build ?_;refine S.alloc fun a4=>?_;refine S.store 0 ?_;refine S.len ?_ (hl:=aa.len hl);refine SW.bF (fun m E ψ R=>∃(j:Nat) (t:ao),j+m=l.length∧hQ (List.replicate 9 ef) l=hQ t (l.drop j)∧t.length=9∧(∀x∈t,x.body.length≤60*j)∧O=ψ∧R=[(some a4,.cells [.sl dL 0 9 (.ex 9)] false),aG.ob (some dL) t]∧Sub [(0,W),(4,.ptr a4 0),(10,W),(11,.j (l.length:Int)),(12,.j (j:Int))] E) (m:=l.length) (.done ⟨0,List.replicate 9 ef,by omega,rfl,by simp,fun x hx=>by rw[mZ hx];simp[ef],rfl,rfl,.r rfl⟩) ?_;intro ap E ψ R aB aj;obtain⟨j,t,aA,d,Z,Y,rfl,rfl,ah⟩:=aj;refine C.sub ah ?_;refine S.bin ?_;refine C.D (fun O6=>?_) fun O6=>?_
 ·have hj:j<l.length:=by omega
  obtain⟨r,hr⟩:∃r,r=l[j]:=⟨_,rfl⟩
  have U:=am l[j] (cw hj);rw[←hr]at U;rw[bQ hj,←hr]at d;refine S.aF hl hj fun aE ae=>?_;rw[←hr]at ae;refine S.bJ ?_ (l:=[.j r.ino,.j r.idx,.str r.load]);refine S.alloc fun ay=>?_;refine S.store 0 ?_;refine S.ag 1 ?_ (l:=[.sl dL 0 9 (.ex 9)]);refine S.ag 0 ?_ (l:=[.j r.ino,.j r.idx,.str r.load]);refine S.ba 2 rfl (M6 (dL:=dL) (t:=t) (r:=r) Z (fun x hx=>by have:=Y x hx;omega) U.1 U.2) fun aH aJ av aC L=>?_;obtain⟨L,rfl,rfl⟩:=L;have L:=L.symm;subst L;refine S.un ?_;refine C.B (fun OZ=>?_) fun OZ=>?_
  ·have o:ez t r=none:=by cases h:ez t r with
    |none=>rfl
    |some A=>rw[h]at OZ;cases OZ
   have e:ei l=none:=by
    unfold ei;rw[d];simp only[hQ];rw[o]
   clear o;exact⟨_,.t rfl (.t rfl .nil),.none ⟨rfl,_,by rw[e];(try rfl),by rw[e];exact aa.nil _⟩⟩
  ·refine S.bin ?_;obtain⟨A,o⟩:∃A,ez t r=some A:=by cases h:ez t r with
    |none=>rw[h]at OZ;cases OZ
    |some A=>exact⟨A,rfl⟩
   rw[o];simp only[hQ]at d;rw[o]at d;simp only at d;obtain⟨an,k2⟩:=M7 o Z Y U.1;exact⟨ap-1,by omega,.drop 1 (.front 1 rfl (.done ⟨j+1,A,by omega,d,an,fun x hx=>by have:=k2 x hx;omega,rfl,rfl,.r rfl⟩))⟩
 ·obtain rfl:j=l.length:=by omega
  rw[b6]at d;simp only[hQ]at d;have au:af aG (.sl dL 0 9 (.ex 9)) t (some dL):=af.new Z;have ak:lY t:=⟨by omega,fun x hx=>by have:=Y x hx;omega⟩
  refine S.ld 0 ?_;refine S.cd 1 au fun aL lt Q=>?_;have hl:=hl.mono lt;refine S.call (M2 Q ak) fun aI aK aw ab M=>?_;obtain⟨rfl,M⟩:=M;have hl:=hl.mono ab;have Q:=Q.mono ab;have az:=AX t;refine S.len ?_ (hl:=aa.len M);refine S.bin ?_;refine G.mv ?_;refine G.mv ?_;refine G.al (fun _=>MC M hl (by omega)) ?_;refine G.un ?_;refine G.or ?_;refine C.B (fun I=>?_) fun I=>?_
  ·have e:ei l=none:=by
    refine M5 d ?_;simp only[cx,aR,c3,bD]at I;rcases I with h|h
    ·exact .inl (by omega)
    ·exact .inr h
   exact⟨_,.t rfl (.t rfl .nil),.none ⟨rfl,_,by rw[e];(try rfl),by rw[e];exact aa.nil _⟩⟩
  ·have e:ei l=some t:=by
    simp only[cg,bD,du,aR]at I;exact M4 d (by omega) I.2
   refine S.ld 0 ?_;exact⟨_,.t rfl (.t rfl .nil),.none ⟨rfl,_,by rw[e];(try rfl),by rw[e];exact Q⟩⟩
end Go.Ev
set_option maxHeartbeats 1000000
namespace Go.Ev
variable{F:Nat→Option aP} {O:Fz}
def rJ (c:Prop):V→Fz→List Ob→Prop:=fun v _ _=>c∧v=.iface 169 (.agg [])
abbrev js (h wv:V) (d:au) (next id:Int) (A B D v9 o:V):List V:=[h,wv,.j d.arm,.bool d.down,.j next,.j id,A,B,D,v9,o]
theorem oZ [Fx F] {b:Bool}:ai F 135 [.bool b] O [] (fun _ ψ R=>ψ=O∧b=true∧R=[]) (rJ (b=false)):=by
 refine ar ?_;refine S.un ?_;refine C.B (fun Pm=>?_) fun Pm=>?_
 ·refine S.build ?_ (l:=[]);refine S.vt ?_;refine S.panic ?_;exact⟨by simpa using Pm,rfl⟩
 ·exact⟨_,.nil,.done ⟨rfl,by simpa using Pm,rfl⟩⟩
theorem tT [Fx F] (hr:F 215=some (.cA gR)) {L wv ac ak am v9 Z:V} {d:au} {Y id:Int} {a:Pa} {s:Option Pa} {A:List ah} {bV ge:Int} (hd:cu O [L,wv,.j d.arm,.bool d.down] d) (av:d.wait.length≤1000000) (ho:af aq Z A s) (aF:A.length≤100000):
 ai F 134 [.ptr a 0,.agg [.j bV,.j ge]] O [(some a,.cells (js L wv d Y id ac ak am v9 Z) false),aq.ob s A] (fun r ψ R=>∃x w s',bP d bV ge=some x∧r=.agg (bu.f x)∧R=[(some a,.cells (js L wv d Y id ac ak am v9 w) false),aq.ob s' (A++[⟨bV,x.gen⟩])]∧af aq w (A++[⟨bV,x.gen⟩]) s') (rJ (bP d bV ge=none)):=by
 refine ar ?_;refine S.box fun a3=>?_;refine S.alloc fun a4=>?_;refine S.ag 2 ?_ (l:=[L,wv,.j d.arm,.bool d.down]);refine S.ld 1 ?_;refine S.al (Mo hd av) ?_;refine S.iX 0 (oZ) (fun aJ aL aA aH B=>?_) ?ay
 case ay=>
  intro v ψ an l h;obtain⟨o,aj⟩:=h;exact⟨by unfold bP;rw[ab (by rw[o];decide)],aj⟩
 obtain⟨B,ao,rfl⟩:=B;have B:=B.symm;subst B;refine S.al (Mk hr (s:=(d.read bV).1)) ?_;have W:∀T:Option aT,T=er (d.read bV).1→bP d bV ge=(match T with|none=>none|some x=>if 0≤ge∧x.gen≠ge then none else some x):=fun T h=>by subst h;unfold bP;rw[ae ao];(try rfl)
 obtain⟨T,M⟩:∃T,T=er (d.read bV).1:=⟨_,rfl⟩
 have U:=W T M;clear W;rw[←M];obtain⟨x,hx⟩:∃x,x=T.getD fA:=⟨_,rfl⟩
 rw[←hx];refine S.alloc fun aE=>?_;refine S.store 0 ?_;refine G.aD ?_;refine G.ld 2 ?_;refine G.bin ?_;refine G.mv ?_;refine G.aD ?_;refine G.ld 0 ?_;refine G.aD ?_;refine G.ld 2 ?_;refine G.bin ?_;refine G.nF ?_;refine G.and ?_;refine S.iX 0 (oZ) (fun aK aM aB aI D=>?_) ?az
 case az=>
  intro v ψ an l h;obtain⟨o,aj⟩:=h;refine⟨?_,aj⟩;rw[U];cases T with
  |none=>rfl
  |some y=>
   simp only;obtain rfl:x=y:=hx;rw[ae];simp at o;omega
 obtain⟨D,Q,rfl⟩:=D;have D:=D.symm;subst D;have ap:bP d bV ge=some x:=by
  rw[U];cases T with
  |none=>simp at Q
  |some y=>
   simp only;obtain rfl:x=y:=hx;rw[ab];simp at Q;omega
 refine S.ld 3 ?_;refine S.ld 2 ?_;refine S.ld 0 ?_;refine S.build ?_;refine S.a8 fun aC=>?_;refine S.br (m:=[(⟨bV,x.gen⟩:ah)]) 5 ho (.lit 0) (by simp;omega) fun v50 aw I=>?_;refine S.drop 0 ?_;refine S.nil? ?_;refine S.store 3 ?_ (hs:=by rw[gV I.ax];simp[aY,I.ax]) (ch:=by rw[gV I.ax];(try rfl)) (hl:=by rw[gV I.ax];(try rfl));refine S.ag 0 ?_ (l:=[.j x.kind,.j x.gen,.str x.load]);refine S.store 1 ?_;exact⟨_,.cN 1 rfl rfl rfl rfl .nil,.drop 0 (.drop 0 (.drop 0 (.done ⟨x,v50,aw,ap,rfl,rfl,I⟩)))⟩
end Go.Ev
set_option maxHeartbeats 4000000
namespace Go.Ev
variable{F:Nat→Option aP} {O:Fz}
theorem M9 [Fx F] (hr:F 215=some (.cA gR)) {Q wv am an ao v9 ak:V} {d:au} {Z id:Int} {a:Pa} {s:Option Pa} {A:List ah} {h:bA} {p:ah} (hd:cu O [Q,wv,.j d.arm,.bool d.down] d) (aA:d.wait.length≤1000000) (ho:af aq ak A s) (aw:A.length≤100000) (ay:0≤p.gen):
 ai F 200 [.ptr a 0,.agg [.j (h).ino,.j (h).idx,.str (h).load],.agg [.j p.addr,.j p.gen]] O [(some a,.cells (js Q wv d Z id am an ao v9 ak) false),aq.ob s A] (fun r _ R=>∃x w s',recAt d h p=some x∧r=.agg (bq.f x)∧R=[(some a,.cells (js Q wv d Z id am an ao v9 w) false),aq.ob s' (A++[p])]∧af aq w (A++[p]) s') (rJ (recAt d h p=none)):=by
 refine ar ?_;refine S.box fun a4=>?_;refine S.box fun a5=>?_;refine S.alloc fun aJ=>?_;refine S.ag 1 ?_ (l:=[.j p.addr,.j p.gen]);refine S.front 4 ?_;refine S.front 4 ?_;refine S.iX 2 (tT hr (bV:=p.addr) (ge:=p.gen) hd aA ho aw) (fun aP aR aH aM av=>?_) ?aC
 case aC=>
  intro v ψ ap l h;obtain⟨o,aj⟩:=h;exact⟨by unfold recAt;rw[o];(try rfl),aj⟩
 obtain⟨I,aF,aB,L,rfl,rfl,ac⟩:=av;have aL:=kd L;rw[show(⟨p.addr,I.gen⟩:ah)=p by rw[tM L ay]]at ac⊢;refine S.al (MA (x:=I) (by omega)) ?_;have Y:∀ad:Option bA,ad=eh I→recAt d h p=(match ad with|none=>none|some r=>if r.ino≠h.ino∨r.idx≠h.idx then none else some r):=fun ad D=>by subst D;unfold recAt;rw[L,l3];(try rfl)
 obtain⟨ad,D⟩:∃ad,ad=eh I:=⟨_,rfl⟩
 have W:=Y ad D;clear Y;obtain⟨r,M⟩:∃r,r=ad.getD ⟨0,0,[]⟩:=⟨_,rfl⟩
 rw[←D,←M];refine S.alloc fun aK=>?_;refine S.store 0 ?_;refine G.aD ?_;refine G.ld 0 ?_;refine G.aD ?_;refine G.ld 5 ?_;refine G.bin ?_;refine G.and ?_;refine G.aD ?_;refine G.ld 0 ?_;refine G.aD ?_;refine G.ld 5 ?_;refine G.bin ?_;refine G.and ?_;refine S.iX 0 (oZ) (fun aQ aS aI aO B=>?_) ?aE
 case aE=>
  intro v ψ ap l h;obtain⟨o,aj⟩:=h;refine⟨?_,aj⟩;rw[W];cases ad with
  |none=>rfl
  |some y=>
   simp only;obtain rfl:r=y:=M;rw[ae];simp at o;omega
 obtain⟨B,U,rfl⟩:=B;have B:=B.symm;subst B;have az:recAt d h p=some r:=by
  rw[W];cases ad with
  |none=>simp at U
  |some y=>
   simp only;obtain rfl:r=y:=M;rw[ab];simp at U;omega
 refine S.ag 0 ?_ (l:=[.j (r).ino,.j (r).idx,.str (r).load]);refine S.store 3 ?_;exact⟨_,.cN 3 rfl rfl rfl rfl .nil,.drop 0 (.drop 2 (.drop 2 (.drop 2 (.done ⟨r,aF,aB,az,rfl,rfl,ac⟩))))⟩
theorem Na [Fx F] (hr:F 215=some (.cA gR)) {aB wv aO aP aQ v9 bT:V} {d:au} {aI id:Int} {a:Pa} {s:Option Pa} {M:List ah} {am ao ap:List SV} {U:List gY} {aJ aK aL aM:Option Pa} {p:ah} (hd:cu O [aB,wv,.j d.arm,.bool d.down] d) (ba:d.wait.length≤1000000) (ho:af aq bT M s) (dw:M.length≤10000) (cf:0≤p.gen) (a7:U.length≤1000)
 (cx:af df aO (U.map (·.root)) aJ) (bx:af bN aP am aK) (bM:NR bq O am (U.map (fun t=>t.an.map (·.1)))) (cz:af bN aQ ao aL) (bP:NR aq O ao (U.map (fun t=>t.an.map (·.2)))) (bD:af bN v9 ap aM) (bR:NR aG O ap (U.map (·.tree))):
 ai F 136 [.ptr a 0,.agg [.j p.addr,.j p.gen]] O [(some a,.cells (js aB wv d aI id aO aP aQ v9 bT) false),aq.ob s M,df.ob aJ (U.map (·.root)),bN.ob aK am,bN.ob aL ao,bN.ob aM ap] (fun _ ψ R=>∃x u6 u7 u8 u9 d2 q6 q7 q8 q9 d4 m7 m8 m9,jP d p=some x∧R=[(some a,.cells (js aB wv d aI id u6 u7 u8 u9 d2) false),aq.ob d4 (M++p::x.2),df.ob q6 ((U++[x.1]).map (·.root)),bN.ob q7 m7,bN.ob q8 m8,bN.ob q9 m9]∧af aq d2 (M++p::x.2) d4∧af df u6 ((U++[x.1]).map (·.root)) q6∧af bN u7 m7 q7∧NR bq ψ m7 ((U++[x.1]).map (fun t=>t.an.map (·.1)))∧af bN u8 m8 q8∧NR aq ψ m8 ((U++[x.1]).map (fun t=>t.an.map (·.2)))∧af bN u9 m9 q9∧NR aG ψ m9 ((U++[x.1]).map (·.tree))) (rJ (jP d p=none)):=by
 have dA:am.length≤1000:=by rw[bM.1];simpa using a7
 have dB:ao.length≤1000:=by rw[bP.1];simpa using a7
 have dC:ap.length≤1000:=by rw[bR.1];simpa using a7
 refine ar ?_;refine S.box fun a3=>?_;refine S.ag 0 ?_ (l:=[.j p.addr,.j p.gen]);refine S.front 2 ?_;refine S.front 2 ?_;refine S.iX 2 (tT hr (bV:=p.addr) (ge:=p.gen) hd ba ho (by first|omega|(simp;omega))) (fun dV d3 dc cl b3=>?_) ?cN
 case cN=>
  intro v ψ aw l h;obtain⟨o,aj⟩:=h;exact⟨by unfold jP;rw[o];(try rfl),aj⟩
 obtain⟨aD,c3,cE,aZ,rfl,rfl,bI⟩:=b3;have dE:=kd aZ;rw[show(⟨p.addr,aD.gen⟩:ah)=p by rw[tM aZ cf]]at bI⊢;refine S.call (MG (x:=aD) (by omega)) fun v22 bU dd cm b4=>?_;obtain⟨rfl,bL,rfl,al⟩:=b4;have I:jP d p=(match dJ aD with|none=>none|some (r,q)=>match e5 d q []with|none=>none|some an=>match fI d an []with|none=>none|some cP=>match ei cP with|none=>none|some t=>some (⟨r,an,t⟩,q++an.map (·.2))):=by unfold jP;rw[aZ,l3];(try rfl)
 have aH:∀y,dJ aD=some y→y.2.length≤6∧∀z∈y.2,0≤z.gen:=fun y L=>⟨wh L,BF L⟩;generalize dJ aD=RO at al I aH⊢;obtain⟨A,bo⟩:∃A,A=(RO.map (·.1)).getD ⟨0,0,0,0,0⟩:=⟨_,rfl⟩
 rw[←bo];have bt:=cl.trans cm;refine S.alloc fun a4=>?_;refine S.store (v:=.agg [.j A.kind,.j A.id,.j A.cZ,.j A.base,.j A.done]) 0 ?_;refine S.iX 0 (oZ) (fun dW d5 dg dG ay=>?_) ?cO
 case cO=>
  intro v ψ aw l h;obtain⟨o,aj⟩:=h;refine⟨?_,aj⟩;rw[I];cases RO with
  |none=>rfl
  |some y=>cases o
 obtain⟨ay,cb,rfl⟩:=ay;have ay:=ay.symm;subst ay;obtain⟨q,rfl⟩:∃q,RO=some (A,q):=by
  cases RO with
  |none=>cases cb
  |some y=>obtain⟨c8,c9⟩:=y;exact⟨c9,by rw[show A=c8 from bo]⟩
 change aa aq bU bL q at al;obtain⟨aH,bk⟩:=aH _ rfl;change q.length≤6 at aH;change∀z∈q,0≤z.gen at bk;change jP d p=(match e5 d q []with|none=>none|some an=>match fI d an []with|none=>none|some cP=>match ei cP with|none=>none|some t=>some (⟨A,an,t⟩,q++an.map (·.2)))at I;refine S.len ?_ (hl:=aa.len al);refine SW.new bq ?_;refine SW.new aq ?_;refine SW.bF (fun m E ψ R=>∃(j:Nat) (an:List bO) (aC av Z:V) (be z9 ab:Option Pa),j+m=q.length∧e5 d (q.drop j) an=e5 d q []∧an.length≤6*j∧bU.Le ψ∧R=[(some a,.cells (js aB wv d aI id aO aP aQ v9 Z) false),aq.ob ab (M++p::q.take j),bq.ob be (an.map (·.1)),aq.ob z9 (an.map (·.2)),(some a4,.cells [.j A.kind,.j A.id,.j A.cZ,.j A.base,.j A.done] false),(some a3,.cells [.j p.addr,.j p.gen] false),df.ob aJ (U.map (·.root)),bN.ob aK am,bN.ob aL ao,bN.ob aM ap]∧af aq Z (M++p::q.take j) ab∧af bq aC (an.map (·.1)) be∧af aq av (an.map (·.2)) z9∧Sub [(0,.ptr a 0),(3,.ptr a3 0),(4,.ptr a4 0),(7,aC),(9,av),(8,.no .sl),(28,bL),(29,.j (q.length:Int)),(30,.j (j:Int))] E) (m:=q.length) (.front 1 rfl (.front 4 rfl (.front 4 rfl (.done ⟨0,[],.no .sl,.no .sl,c3,none,none,cE,by omega,rfl,by simp,.refl _,rfl,bI,af.nil,af.nil,.r rfl⟩)))) ?_;intro cr E ψ R ci aX;obtain⟨j,an,aC,av,Z,be,z9,ab,dy,W,ch,G,rfl,ak,bz,bG,aW⟩:=aX;refine C.sub aW ?_;refine S.bin ?_;refine C.D (fun Pp=>?_) fun Pp=>?_
 ·have hj:j<q.length:=by omega
  have bl:=bk _ (cw hj);obtain⟨y,L⟩:∃y,y=q[j]:=⟨_,rfl⟩
  rw[←L]at bl;rw[bQ hj,←L]at W;simp only[e5]at W;have al:=al.mono G;have hd:=hd.mono (bt.trans G);refine S.aF al hj fun dK bZ=>?_;rw[←L]at bZ;refine S.bJ ?_ (l:=[.j y.addr,.j y.gen]);refine S.alloc fun dr=>?_;refine S.store 0 ?_;refine S.ag 0 ?_ (l:=[.j y.addr,.j y.gen]);refine S.front 2 ?_;refine S.front 2 ?_;refine S.iX 2 (tT hr (bV:=y.addr) (ge:=y.gen) hd ba ak (by first|omega|(simp;omega))) (fun v37 d6 dh cn b5=>?_) ?cQ
  case cQ=>
   intro v ψ aw l h;obtain⟨o,aj⟩:=h;exact⟨by rw[I,←W,o];(try rfl),aj⟩
  obtain⟨aR,c5,cF,a1,rfl,rfl,bK⟩:=b5;have dF:=kd a1;rw[show(⟨y.addr,aR.gen⟩:ah)=y by rw[tM a1 bl]]at bK⊢;refine S.call (MF (x:=aR) (by omega)) fun dX bW di co b7=>?_;obtain⟨rfl,cU,cV,rfl,aU,aV⟩:=b7;rw[a1,l3]at W;have a2:∀l,dp aR=some l→l.length≤6:=fun l hl=>(BH hl).1;generalize dp aR=aS at aU aV W a2⊢;refine S.iX 0 (oZ) (fun dZ d7 dj dH az=>?_) ?cR
  case cR=>
   intro v ψ aw l h;obtain⟨o,aj⟩:=h;refine⟨?_,aj⟩;rw[I,←W];cases aS with
   |none=>rfl
   |some y=>cases o
  obtain⟨az,cc,rfl⟩:=az;have az:=az.symm;subst az;obtain⟨l,rfl⟩:∃l,aS=some l:=by
   cases aS with
   |none=>cases cc
   |some l=>exact⟨l,rfl⟩
  have a2:=a2 l rfl;change aa bq bW cU (l.map (·.1))at aU;change aa aq bW cV (l.map (·.2))at aV;simp only at W;refine S.br (m:=l.map (·.1)) 3 bz (.f aU) (by simp;omega) fun v46 cG ct=>?_;refine S.br (m:=l.map (·.2)) 4 bG (.f aV) (by simp;omega) fun cW cH cv=>?_;refine S.bin ?_;refine⟨cr-1,by omega,.drop 2 (.done ⟨j+1,an++l,v46,cW,c5,cG,cH,cF,by omega,W,by simp;omega,(G.trans cn).trans co,?_,?_,by rw[cX];exact ct,by rw[cX];exact cv,.r rfl⟩)⟩
  ·rw[fm hj,←L,cX,cX,←k3 (a:=p),←bp M];(try rfl)
  ·rw[fm hj,←L,←k3 (a:=p),←bp M];exact bK
 ·obtain rfl:j=q.length:=by omega
  rw[b6]at W;simp only[e5]at W;rw[←W]at I;simp only at I;rw[dT]at ak⊢;obtain⟨_,a6⟩:=w6 W.symm;have a6:=a6 (fun i hi=>(by cases hi));have ch:an.length≤36:=by omega
  have G:=bt.trans G;refine S.cd 2 bz fun ea cq B=>?_;refine S.cd 2 bG fun db bs Q=>?_;have B:=B.mono bs;have G:=(G.trans cq).trans bs;refine S.len ?_ (hl:=aa.len Q);rw[hS];refine SW.new bq ?_;refine SW.bF (fun m E ψ R=>∃(i:Nat) (rs:List bA) (bd Z:V) (bg ab:Option Pa),i+m=an.length∧fI d (an.drop i) rs=fI d an []∧rs.length≤i∧(∀r∈rs,r.load.length≤60∧0≤r.idx)∧db.Le ψ∧R=[(some a,.cells (js aB wv d aI id aO aP aQ v9 Z) false),aq.ob ab (M++p::(q++(an.map (·.2)).take i)),bq.ob bg rs,(some a4,.cells [.j A.kind,.j A.id,.j A.cZ,.j A.base,.j A.done] false),(some a3,.cells [.j p.addr,.j p.gen] false),df.ob aJ (U.map (·.root)),bN.ob aK am,bN.ob aL ao,bN.ob aM ap]∧af aq Z (M++p::(q++(an.map (·.2)).take i)) ab∧af bq bd rs bg∧Sub [(0,.ptr a 0),(3,.ptr a3 0),(4,.ptr a4 0),(7,aC),(9,av),(8,bd),(51,av),(52,.j (an.length:Int)),(53,.j (i:Int))] E) (m:=an.length) (.front 2 rfl (.front 2 rfl (.done ⟨0,[],.no .sl,Z,none,ab,by omega,rfl,by simp,fun r hr=>(by cases hr),.refl _,by rw[nX,e9];(try rfl),by rw[nX,e9];exact ak,af.nil,.r rfl⟩))) ?_;intro cs E ψ R ci aX;obtain⟨i,rs,bd,Z,bg,ab,dx,Y,dD,bn,ae,rfl,ak,bB,aW⟩:=aX;refine C.sub aW ?_;refine S.bin ?_;refine C.D (fun bY=>?_) fun bY=>?_
  ·have hi:i<an.length:=by omega
   obtain⟨it,aE⟩:∃it,it=an[i]:=⟨_,rfl⟩
   have bi:=a6 _ (cw hi);rw[←aE]at bi;rw[bQ hi,←aE]at Y;simp only[fI]at Y;have B:=B.mono ae;have Q:=Q.mono ae;have hd:=hd.mono (G.trans ae);have cg:(an.map (·.1))[i]'(by simpa using hi)=it.1:=by rw[nU,aE]
   have bj:(an.map (·.2))[i]'(by simpa using hi)=it.2:=by rw[nU,aE]
   refine S.aF Q (j:=i) (by simpa using hi) fun dL b0=>?_;rw[bj]at b0;refine S.bJ ?_ (l:=[.j it.2.addr,.j it.2.gen]);refine S.alloc fun ds=>?_;refine S.store 0 ?_;refine S.aF B (j:=i) (by simpa using hi) fun dM b1=>?_;rw[cg]at b1;refine S.bJ ?_ (l:=[.j (it.1).ino,.j (it.1).idx,.str (it.1).load]);refine S.ag 0 ?_ (l:=[.j it.2.addr,.j it.2.gen]);refine S.front 2 ?_;refine S.front 2 ?_;refine S.iX 2 (M9 hr (h:=it.1) (p:=it.2) hd ba ak (by simp;omega) bi) (fun d0 d8 dk cp b8=>?_) ?cS
   case cS=>
    intro v ψ aw l h;obtain⟨o,aj⟩:=h;exact⟨by rw[I,←Y,o],aj⟩
   obtain⟨r,c6,cJ,bm,rfl,rfl,cB⟩:=b8;obtain⟨ck,cj⟩:=L3 bm;rw[bm]at Y;simp only at Y;refine S.a8 fun a66=>?_;refine S.br (m:=[r]) 4 bB (.lit 0) (by simp;omega) fun c0 cK cy=>?_;refine S.drop 0 ?_;refine S.mv ?_;refine S.bin ?_;have bh:M++p::(q++(an.map (·.2)).take (i+1))=M++p::(q++(an.map (·.2)).take i)++[it.2]:=by rw[fm (by simpa using hi),bj];simp
   refine⟨cs-1,by omega,.drop 2 (.done ⟨i+1,rs++[r],c0,c6,cK,cJ,by omega,Y,by simp;omega,fun y L=>?_,ae.trans cp,by rw[bh];(try rfl),by rw[bh];exact cB,cy,.r rfl⟩)⟩;rcases fK.1 L with L|L
   ·exact bn y L
   ·obtain rfl:=hB.1 L;exact⟨ck,cj⟩
  ·obtain rfl:i=an.length:=by omega
   rw[b6]at Y;simp only[fI]at Y;rw[←Y]at I;simp only at I;rw[kk (by simp)]at ak⊢;have G:=G.trans ae;have B:=B.mono ae;have Q:=Q.mono ae;refine S.cd 2 bB fun eb bc b2=>?_;refine S.call (M8 b2 (by omega) bn) fun d1 da dm bb ca=>?_;obtain⟨rfl,bS,rfl,ac⟩:=ca;have G:=(G.trans bc).trans bb;have B:=(B.mono bc).mono bb;have Q:=(Q.mono bc).mono bb;generalize ei rs=aT at I ac⊢;refine S.iX 0 (oZ) (fun v75 d9 dn dI aA=>?_) ?cT
   case cT=>
    intro v ψ aw l h;obtain⟨o,aj⟩:=h;refine⟨?_,aj⟩;rw[I];cases aT with
    |none=>rfl
    |some y=>cases o
   obtain⟨aA,ce,rfl⟩:=aA;have aA:=aA.symm;subst aA;obtain⟨t,rfl⟩:∃t,aT=some t:=by
    cases aT with
    |none=>cases ce
    |some t=>exact⟨t,rfl⟩
   change aa aG da bS t at ac;simp only at I;have dN:=B.ax;have dO:=Q.ax;have dP:=ac.ax;refine S.ld 0 ?_;refine S.ag 2 ?_ (l:=[.j A.kind,.j A.id,.j A.cZ,.j A.base,.j A.done]);refine S.a8 fun dt=>?_;refine S.ld 1 ?_;refine S.a8 (fun du=>?_) (hs:=by simp[aY,B.ax]) (dl:=by simp[aY,B.ax]);refine S.br (e:=df) (m:=[A]) 6 cx (.lit 1) (by simp;omega) fun c1 cL bC=>?_;have dS:=bC.ax;refine S.e2 0 ?_ (hm:=B.b9);refine S.bE 2 ?_ (hs:=bx.same);refine S.br (e:=bN) (m:=[⟨aC,B.ax⟩]) 7 bx (.lit 0) (by simp;omega) fun c2 cM bH=>?_;have dU:=bH.ax;refine S.fB 2 ?_;refine S.fB 2 ?_;refine S.drop 0 ?_;refine S.drop 0 ?_;refine S.ld 0 ?_;refine S.a8 (fun dq=>?_) (hs:=by simp[aY,Q.ax]) (dl:=by simp[aY,Q.ax]);refine S.ld 1 ?_;refine S.a8 (fun a116=>?_) (hs:=by simp[aY,ac.ax]) (dl:=by simp[aY,ac.ax]);refine S.br (e:=bN) (m:=[⟨av,Q.ax⟩]) 8 cz (.lit 1) (by simp;omega) fun v109 cC bv=>?_;have dQ:=bv.ax;refine S.e2 0 ?_ (hm:=ac.b9);refine S.bE 2 ?_ (hs:=bD.same);refine S.br (e:=bN) (m:=[⟨bS,ac.ax⟩]) 9 bD (.lit 0) (by simp;omega) fun v117 cD bw=>?_;have dR:=bw.ax;refine S.fB 2 ?_;refine S.fB 2 ?_;exact⟨_,.nil,.drop 0 (.drop 0 (.drop 2 (.drop 2 (.done ⟨_,c1,c2,v109,v117,Z,cL,cM,cC,cD,ab,_,_,_,I,by rw[cX];(try rfl),ak,by rw[cX];exact bC,bH,by rw[cX];exact(bM.mono G).snoc B,bv,by rw[cX];exact(bP.mono G).snoc Q,bw,by rw[cX];exact(bR.mono G).snoc ac⟩))))⟩
end Go.Ev
set_option maxHeartbeats 2000000
namespace Go.Ev
variable{F:Nat→Option aP} {O:Fz}
theorem Fin.vq {O:Fz} {d o:List Ob} {P:Fz→List Ob→Prop} (hn:Fin O o P):Fin O (d++o) P:=fun ad h sh=>hn ad h (by
 refine sh.pick (fun j=>j+d.length) (fun j x hj=>?_) (fun _ _ _ _ e=>by omega);rw[bp,db (by omega),qb];exact hj)
theorem S.assert {F:Nat→Option aP} {K:KX} {E:Env} {O:Fz} {R:List Ob} {Q:bz} {rs:List Op} {d:Nat} {x:Od} {t:Nat} {z v:V} (hn:SA F K rs ((d,.aN [v,.bool true])::E) O R Q) (hx:ay E x (.iface t v):=by exact .t rfl):SR F K (.op ⟨some (pa d),uh t z x true,none⟩::Op.aK rs) E O R Q:=fun W h sh=>
 ad.pu .none (fun e he=>by simp only[hx e he,dU,aE];rfl) (S.r hn W h sh)
def mQ:oX:=⟨0,0,[],[]⟩
def B6 (a:Pa) (h wv:V) (d:au) (y:oX) (u6 u7 u8 u9 d2:V) (q6 q7 q8 q9 d4:Option Pa) (m7 m8 m9:List SV):List Ob:=
 [(some a,.cells (js h wv d y.next y.id u6 u7 u8 u9 d2) false),aq.ob d4 y.all,df.ob q6 (y.trees.map (·.root)),bN.ob q7 m7,bN.ob q8 m8,bN.ob q9 m9]
structure rK (ψ:Fz) (y:oX) (u6 u7 u8 u9 d2:V) (q6 q7 q8 q9 d4:Option Pa) (m7 m8 m9:List SV):Prop where
 all:af aq d2 y.all d4
 roots:af df u6 (y.trees.map (·.root)) q6
 ON:af bN u7 m7 q7
 OO:NR bq ψ m7 (y.trees.map (fun t=>t.an.map (·.1)))
 OP:af bN u8 m8 q8
 tC:NR aq ψ m8 (y.trees.map (fun t=>t.an.map (·.2)))
 trees:af bN u9 m9 q9
 nt:NR aG ψ m9 (y.trees.map (·.tree))
theorem rK.no (O:Fz):rK O mQ (.no .sl) (.no .sl) (.no .sl) (.no .sl) (.no .sl) none none none none none [] [] []:=⟨af.nil,af.nil,af.nil,NR.nil _,af.nil,NR.nil _,af.nil,NR.nil _⟩
theorem B7 {d:au}:∀{q:List ah} {o:List gY} {j:List ah} {x:List gY×List ah},j≠[]→iE d q o j=some x→x.2≠[]
 |[],o,j,x,h,e=>by cases e;exact h
 |p::q,o,j,x,h,e=>by
  simp only[iE]at e;split at e
  ·cases e
  ·exact B7 (by simp[h]) e
theorem Nb {d:au} {sum:Int} {y:oX} (h:eR d sum=some y):y.all≠[]:=by
 unfold eR at h;split at h
 ·cases h
 ·split at h
  ·cases h
  ·obtain⟨z,o,aj⟩:=jR.1 h;subst aj;exact B7 (by simp) o
theorem B8 {d:au} {p:ah} {x:gY×List ah} (h:jP d p=some x):x.2.length≤336:=by
 rw[BE]at h;exact Ac (x:=x.1) (l:=x.2) h
theorem Nc [Fx F] (hr:F 215=some (.cA gR)) {ae wv:V} {d:au} {a:Pa} {sum:Int} (hd:cu O [ae,wv,.j d.arm,.bool d.down] d) (aI:d.wait.length≤1000000):
 ai F 76 [.ptr a 0,.j sum] O [(some a,.cells (js ae wv d 0 0 (.no .sl) (.no .sl) (.no .sl) (.no .sl) (.no .sl)) false)] (fun _ ψ R=>∃y u6 u7 u8 u9 d2 q6 q7 q8 q9 d4 m7 m8 m9,eR d sum=some y∧R=B6 a ae wv d y u6 u7 u8 u9 d2 q6 q7 q8 q9 d4 m7 m8 m9∧rK ψ y u6 u7 u8 u9 d2 q6 q7 q8 q9 d4 m7 m8 m9) (rJ (eR d sum=none)):=by
 refine ar ?_;refine S.build ?_;refine S.new aq ?_;refine S.front 1 ?_;refine S.iX 2 (tT hr (bV:=sum) (ge:=-1) hd aI af.nil (by simp)) (fun bP bU bA bd aW=>?_) ?bm
 case bm=>
  intro v ψ aD l h;obtain⟨o,aj⟩:=h;exact⟨by unfold eR;rw[o],aj⟩
 obtain⟨G,bp,bl,aE,rfl,rfl,bj⟩:=aW;have bL:=kd aE;refine S.call (MH (x:=G) (by omega)) fun bR aT bB be aX=>?_;obtain⟨rfl,aP,rfl,L⟩:=aX;have M:eR d sum=(match c0 G with|none=>none|some (next,id,p)=>(iE d p [] [⟨sum,G.gen⟩]).map (fun y=>(⟨next,id,y.1,y.2⟩:oX))):=by unfold eR;rw[aE];(try rfl)
 have aB:∀n i q,c0 G=some (n,i,q)→q.length≤7∧∀z∈q,0≤z.gen:=fun n i q Q=>⟨rh Q,BG Q⟩;generalize c0 G=aA at L M aB⊢;have bh:=bd.trans be;refine S.iX 0 (oZ) (fun bS bW bC bM Y=>?_) ?bn
 case bn=>
  intro v ψ aD l h;obtain⟨o,aj⟩:=h;refine⟨?_,aj⟩;rw[M];cases aA with
  |none=>rfl
  |some y=>cases o
 obtain⟨Y,a6,rfl⟩:=Y;have Y:=Y.symm;subst Y;obtain⟨W,U,q,rfl⟩:∃W U q,aA=some (W,U,q):=by
  cases aA with
  |none=>cases a6
  |some y=>obtain⟨br,bs,bt⟩:=y;exact⟨br,bs,bt,rfl⟩
 change aa aq aT aP q at L;obtain⟨aB,a7⟩:=aB _ _ _ rfl;change eR d sum=(iE d q [] [⟨sum,G.gen⟩]).map (fun y=>(⟨W,U,y.1,y.2⟩:oX))at M;refine S.store (v:=.j W) 0 ?_;refine S.store (v:=.j U) 0 ?_;refine S.len ?_ (hl:=aa.len L);refine SW.new bN ?_;refine SW.new bN ?_;refine SW.new bN ?_;refine SW.new df ?_;refine SW.bF (fun m E ψ R=>∃(j:Nat) (A:List gY) (I:List ah) (aw ay az v9 av:V) (al am ao ap ak:Option Pa) (Z ab ac:List SV),j+m=q.length∧iE d (q.drop j) A I=iE d q [] [⟨sum,G.gen⟩]∧A.length≤j∧I.length≤1+337*j∧aT.Le ψ∧R=[(some a,.cells (js ae wv d W U aw ay az v9 av) false),aq.ob ak I,df.ob al (A.map (·.root)),bN.ob am Z,bN.ob ao ab,bN.ob ap ac]∧af aq av I ak∧af df aw (A.map (·.root)) al∧af bN ay Z am∧NR bq ψ Z (A.map (fun t=>t.an.map (·.1)))∧af bN az ab ao∧NR aq ψ ab (A.map (fun t=>t.an.map (·.2)))∧af bN v9 ac ap∧NR aG ψ ac (A.map (·.tree))∧Sub [(0,.ptr a 0),(32,aP),(33,.j (q.length:Int)),(34,.j (j:Int))] E) (m:=q.length) (.front 5 rfl (.front 5 rfl (.done ⟨0,[],_,.no .sl,.no .sl,.no .sl,.no .sl,bp,none,none,none,none,bl,[],[],[],by omega,rfl,by simp,by simp,.refl _,rfl,bj,af.nil,af.nil,NR.nil _,af.nil,NR.nil _,af.nil,NR.nil _,.r rfl⟩))) ?_;intro bi E ψ R bH a2;obtain⟨j,A,I,aw,ay,az,v9,av,al,am,ao,ap,ak,Z,ab,ac,bG,B,bI,bE,aC,rfl,aO,aJ,aK,aQ,aL,aR,aM,aS,a1⟩:=a2;refine C.sub a1 ?_;refine S.bin ?_;refine C.D (fun aU=>?_) fun aU=>?_
 ·have hj:j<q.length:=by omega
  have aH:=a7 _ (cw hj);obtain⟨y,Q⟩:∃y,y=q[j]:=⟨_,rfl⟩
  rw[←Q]at aH;rw[bQ hj,←Q]at B;simp only[iE]at B;have L:=L.mono aC;have hd:=hd.mono (bh.trans aC);refine S.aF L hj fun bO aV=>?_;rw[←Q]at aV;refine S.bJ ?_ (l:=[.j y.addr,.j y.gen]);refine S.alloc fun a9=>?_;refine S.store 0 ?_;refine S.ag 0 ?_ (l:=[.j y.addr,.j y.gen]);refine S.front 6 ?_;refine S.front 6 ?_;refine S.front 6 ?_;refine S.front 6 ?_;refine S.front 6 ?_;refine S.front 6 ?_;refine S.iX 6 (Na hr hd aI aO (by omega) aH (by omega) aJ aK aQ aL aR aM aS) (fun bT bY bD bg aZ=>?_) ?bo
  case bo=>
   intro v ψ aD l h;obtain⟨o,aj⟩:=h;exact⟨by rw[M,←B,o];(try rfl),aj⟩
  obtain⟨x,u6,u7,u8,u9,d2,bw,bx,bz,z9,bv,m7,m8,m9,hx,rfl,bk,a8,ba,Pk,bb,Pc,bc,O7⟩:=aZ;have bK:=B8 hx;rw[hx]at B;simp only at B;refine S.bin ?_;exact⟨bi-1,by omega,.drop 6 (.done ⟨j+1,A++[x.1],_,u6,u7,u8,u9,d2,bw,bx,bz,z9,bv,m7,m8,m9,by omega,B,by simp;omega,by simp;omega,aC.trans bg,rfl,bk,a8,ba,Pk,bb,Pc,bc,O7,.r rfl⟩)⟩
 ·obtain rfl:j=q.length:=by omega
  rw[b6]at B;simp only[iE]at B;rw[←B]at M;exact⟨_,.nil,.done ⟨⟨W,U,A,I⟩,aw,ay,az,v9,av,al,am,ao,ap,ak,Z,ab,ac,M,rfl,⟨aO,aJ,aK,aQ,aL,aR,aM,aS⟩⟩⟩
theorem Nd [Fx F] (hr:F 215=some (.cA gR)) {cs:List V} {d:au} {sum:Int} (hd:cu O cs d) (U:d.wait.length≤1000000):
 ai F 37 [.agg cs,.j sum] O [] (fun r ψ R=>∃a A wv d' u6 u7 u8 u9 d2 q6 q7 q8 q9 d4 m7 m8 m9,r=.aN [.ptr a 0,.bool (eR d sum).isSome]∧R=B6 a A wv d' ((eR d sum).getD mQ) u6 u7 u8 u9 d2 q6 q7 q8 q9 d4 m7 m8 m9∧rK ψ ((eR d sum).getD mQ) u6 u7 u8 u9 d2 q6 q7 q8 q9 d4 m7 m8 m9∧(((eR d sum).getD mQ).all=[]→d2=.no .sl)) never:=by
 obtain⟨A,wv,rfl,hl,hw,sl,W⟩:=hd.open;refine Jo (d1:=6) (d3:=5) (xs:=[.t (pa 4),.t (pa 5)]) (Fx.h (f:=37) rfl) rfl (Fx.h (f:=75) rfl) rfl rfl ?_;refine SC.w ?_;refine S.box fun L=>?_;refine S.alloc fun a4=>?_;refine S.alloc fun a5=>?_;refine⟨[.ptr a4 0,.ptr a5 0],rfl,?_⟩;refine SC.w ?_;refine S.ag 2 ?_ (l:=[A,wv,.j d.arm,.bool d.down]);refine S.build ?_ (l:=js A wv d 0 0 (.no .sl) (.no .sl) (.no .sl) (.no .sl) (.no .sl));refine S.box (fun a9=>?_) (hs:=by simp[V.cells,js,aY,sl,W,iV,jF,kJ]);refine S.store (v:=.ptr a9 0) 2 ?_;refine S.ld 2 ?_;refine S.iX 1 (Nc hr (a:=a9) (sum:=sum) hd U) (fun ac ae Z ab M=>?_) ?Y
 case Y=>
  intro v ψ I l h;obtain⟨o,rfl⟩:=h;show SW F _ _ ((5,.iface 169 (.agg []))::(0,.ptr a4 0)::(1,.ptr a5 0)::[]) ψ (I++[(some a5,.cells [.bool false] false),(some a4,.cells [.ptr a9 0] false),(some L,.cells [A,wv,.j d.arm,.bool d.down] false)]) _;refine SW.fin (.vq (.done ?_));refine SC.w ?_;refine S.bin ?_ (v:=.bool false) (hv:=rfl);refine C.B (t:=false) (fun c=>by cases c) fun _=>?_;refine S.assert ?_;refine C.B (t:=true) (fun _=>?_) fun c=>by cases c
  refine S.alloc fun a3=>?_;refine S.store (v:=.agg []) 0 ?_;refine S.build ?_ (l:=js (.no .sl) (.no .sl) ⟨[],[],0,false⟩ 0 0 (.no .sl) (.no .sl) (.no .sl) (.no .sl) (.no .sl));refine S.box fun D=>?_;refine S.store (v:=.ptr D 0) 3 ?_;refine S.store (v:=.bool false) 2 ?_;refine⟨_,.eH 3 rfl rfl rfl (.eH 2 rfl rfl rfl .nil),.drop 1 (.drop 1 (.drop 1 (.drop 1 (.new bN (.new bN (.new bN (.new df (.new aq (.front 5 rfl (.done ?_))))))))))⟩;rw[o];exact⟨D,.no .sl,.no .sl,⟨[],[],0,false⟩,_,_,_,_,_,none,none,none,none,none,[],[],[],rfl,rfl,rK.no _,fun _=>rfl⟩
 obtain⟨y,u6,u7,u8,u9,d2,q6,q7,q8,q9,d4,m7,m8,m9,G,rfl,Q⟩:=M;refine S.ld 7 ?_;refine S.store (v:=.ptr a9 0) 7 ?_;refine S.store (v:=.bool true) 6 ?_;refine SC.w ?_;refine S.bin ?_ (v:=.bool true) (hv:=rfl);refine C.B (t:=true) (fun _=>?_) fun c=>by cases c
 refine⟨_,.eH 7 rfl rfl rfl (.eH 6 rfl rfl rfl .nil),.drop 6 (.drop 6 (.drop 6 (.done ?_)))⟩;rw[G];exact⟨a9,A,wv,d,u6,u7,u8,u9,d2,q6,q7,q8,q9,d4,m7,m8,m9,rfl,rfl,Q,fun h=>absurd h (Nb G)⟩
end Go.Ev
namespace Go.Ev
open Go
section
variable{F:Nat→Option aP}
theorem Nf {h:Hp} {f:Nat} {fn:fO} {args:List V} {v0:V} (G:F f=some (.code fn)) (hw:WC F ⟨⟨f,fn.nt,false,none⟩,fun _=>True⟩ fn.body (fT 0 args) h (qS fn.res (fun v _=>v=v0) (fun _ _=>False))):
 ∃n h',run F n (enter fn f args false) [] h []=.done v0 h':=by
 obtain⟨r,o,aj⟩:=hw _ (pF args);have D:enter fn f args false=⟨⟨f,fn.nt,false,none⟩,fP args .z .E,[.code fn.body],[],.run⟩:=rfl;have back:∀(e:T V) (E:Env) (h':Hp) (ms:List Pa) (l:List V) (td:List Item),bY e E→jC ms h'→il E (kill ms h') fn.res l→∀ls,Reach F (.go ⟨⟨f,fn.nt,false,none⟩,e,td,marks ms [],.returning⟩ [] h' ls) (.done (oneOf l) (kill ms h')):=by
  intro e E h' ms l td he ha hl ls;refine(mu (fr:=⟨⟨f,fn.nt,false,none⟩,e,td,[],.returning⟩) ms ha (by intro e;cases e)).trans (.one ?_);show unwind F ⟨⟨f,fn.nt,false,none⟩,e,td,[],.returning⟩ [] (kill ms h') ls=_;simp only[unwind,G,hl e he,doReturn,bw]
 have go:lF r []→∃x,Ends ⟨⟨f,fn.nt,false,none⟩,fun _=>True⟩ [] [] [] [] r x∧Reach F (.go (enter fn f args false) [] h []) x:=fun ho=>by
  obtain⟨x,hx,hr⟩:=aj [] [] [] [] trivial ho;exact⟨x,hx,by rw[D];exact(lG _ _ _ _ _ _ _ _).trans hr⟩
 have fin:∀v h',Reach F (.go (enter fn f args false) [] h []) (.done v h')→v=v0→∃n h',run F n (enter fn f args false) [] h []=.done v0 h':=fun v h' hr hv=>by
  subst hv;obtain⟨n,hn⟩:=hr.run rfl;exact⟨n,h',hn⟩
 cases o with
 | @n e' h' ms B A hq=>
   obtain⟨ha,l,hl,j⟩:=hq;obtain⟨x,hx,hr⟩:=go (fun _ _ _ _ d=>by cases d);cases hx with|n _ _ _ xs _=>
   exact fin _ _ (hr.trans (.trans (.one rfl) (back _ _ _ _ _ _ A ha hl _))) j
 |x _ hq=>exact hq.elim
 | @r e' h' ms B A hq=>
   obtain⟨ha,l,hl,j⟩:=hq;obtain⟨x,hx,hr⟩:=go (fun _ _ _ _ d=>by cases d);cases hx with
   |r _ _ _ td xs _=>exact fin _ _ (hr.trans (back _ _ _ _ _ _ A ha hl _)) j
 |p _ hq=>exact hq.2.elim
theorem SH.start:SH (fun _=>none) hI []:=⟨WF.start,fun _ _ h=>(by cases h),fun i a b h=>(by simp at h),fun i j a b c h=>(by simp at h)⟩
theorem Ng {P:Program} (hN:ou P=true) (O:mr P F) (Z:∀f g,F f≠some (.cA g)) {f:Nat} {fn:fO} (R:F f=some (.code fn)) {args:List V} {ce:List Value} {v:V} (ha:bd (fun _=>none) args ce)
 (hw:SW F ⟨⟨f,fn.nt,false,none⟩,fun _=>True⟩ fn.body (fT 0 args) (fun _=>none) [] (mz fn.res (fun u _ _=>u=v) never)) (w:World):
 Calls P f ce.toArray w fun e w'=>∃c U,e=.returned c∧VR U v c∧Kept w w'∧w'.tape=w.tape∧w.drawn≤w'.drawn:=by
 intro bh;have hc:=O.code f fn R;have ag:WC F ⟨⟨f,fn.nt,false,none⟩,fun _=>True⟩ fn.body (fT 0 args) hI (qS fn.res (fun u _=>u=v) (fun _ _=>False)):=by
  refine WC.mono (Q:=(mz fn.res (fun u _ _=>u=v) never).at (fun _=>none) []) ?_ ?_ ?_ ?_ (hw [] hI (by simpa using SH.start))
  ·rintro B h' ms ⟨ψ,D,o,aj,l,j,d⟩;obtain⟨M,A⟩:=iU ms aj;obtain⟨ak,W,ah,k2,I⟩:=d _ _ A;exact⟨M,l,j _ _ A,I⟩
  ·rintro i B h' ms ⟨ψ,D,o,aj,j⟩;exact j.elim
  ·rintro B h' ms ⟨ψ,D,o,aj,l,j,d⟩;obtain⟨M,A⟩:=iU ms aj;obtain⟨ak,W,ah,k2,I⟩:=d _ _ A;exact⟨M,l,j _ _ A,I⟩
  ·rintro B u h' ms ⟨ψ,D,o,aj,j⟩;exact j.elim
 obtain⟨n,h',ae⟩:=Nf R ag;have ai:aS ⟨P,w,w.heap.size,true⟩ (fun _=>none) (fun _=>False) hI [] w:=by
  have no:∀(a:Pa) (L:Loc),(fun _=>none:AM) a=some L→False:=fun a L h=>by cases h
  exact{fQ:=fun a L h=>(no a L h).elim,aw:=fun a L h=>(no a L h).elim,inj:=fun a _ L _ h=>(no a L h).elim,live:=fun a L _ h=>(no a L h).elim,wr:=fun a L _ h=>(no a L h).elim,
        low:=fun i _=>rfl,size:=aB _,still:=kz.refl _ w,fresh:=fun a _=>by(show T.E.get a=none);cases a<;>rfl,gS:=fun a x h=>by(simp[eX]at h)}
 have G:=pA (C:=⟨P,w,w.heap.size,true⟩) (U:=fun _=>none) (h:=hI) (m:=0) (f:=f) hc (args:=args) (ce:=ce) ha false;have ab:Rel ⟨P,w,w.heap.size,true⟩ bh f (enter fn f args false) [] hI [] (lone (Frame.enter P f ce.toArray .normal) bh w):=
  ⟨_,_,w,0,_,_,rfl,ai,cS _,G.1,by rw[G.2.1,G.2.2];exact .nil 0⟩
 have S:=sx (C:=⟨P,w,w.heap.size,true⟩) (bh:=bh) (f0:=f) F (vo P) ⟨O,fun f g h=>(Z f g h).elim⟩ (vp hN) n ab;rw[ae]at S;obtain⟨co,w',c,ac,am,al,o,aj,j,d,Y⟩:=S;exact⟨.returned c,w',co,⟨c,ac,rfl,Y,⟨d.size,fun i hi=>d.low i hi,d.still.1,d.still.2.1⟩,(d.still.2.2 rfl).1,(d.still.2.2 rfl).2⟩,o,aj,j⟩
end
end Go.Ev
namespace Go.Ev
open Go
def isUnit:Nx→Bool
 |.done v _=>match v with
  |.aN l=>match l with
   |[]=>true
   |_::_=>false
  |_=>false
 |_=>false
theorem Nh {P:Program} (hN:ou P=true) {f:Nat} {fn:fO} (hc:ea P f=some fn) {args:List V} {ce:List Value} (ha:bd (fun _=>none) args ce) {n:Nat} (d:isUnit (run (fun i=>(ea P i).map .code) n (enter fn f args false) [] hI [])=true) (w:World):
 Calls P f ce.toArray w fun e w'=>e=.returned (.tuple #[])∧Kept w w':=by
 intro bh;have L:aS ⟨P,w,w.heap.size,false⟩ (fun _=>none) (fun _=>False) hI [] w:=aS.start P w;have A:=pA (C:=⟨P,w,w.heap.size,false⟩) (U:=fun _=>none) (h:=hI) (m:=0) (f:=f) hc (args:=args) (ce:=ce) ha false;have I:Rel ⟨P,w,w.heap.size,false⟩ bh f (enter fn f args false) [] hI [] (lone (Frame.enter P f ce.toArray .normal) bh w):=
  ⟨_,_,w,0,_,_,rfl,L,cS _,A.1,by rw[A.2.1,A.2.2];exact .nil 0⟩
 have B:=sx (C:=⟨P,w,w.heap.size,false⟩) (bh:=bh) (f0:=f) (fun i=>(ea P i).map .code) (vo P) ((vg P).c rfl) (vp hN) n I;generalize run (fun i=>(ea P i).map .code) n (enter fn f args false) [] hI []=r at d B;cases r with
 |go=>simp[isUnit]at d
 |bad=>simp[isUnit]at d
 |done v h'=>
  simp only[isUnit]at d;cases v<;>simp only at d<;>(try(cases d;done))
  rename_i l;cases l with
  |cons=>cases d
  |nil=>
   obtain⟨co,w',c,ac,O,M,o,aj,D,j,F⟩:=B;cases F with
   |aN _ _ G=>
    cases G;exact⟨.returned (.tuple #[]),w',co,⟨rfl,j.size,fun i hi=>j.low i hi,j.still.1,j.still.2.1⟩,o,aj,D⟩
end Go.Ev
namespace Go.Ev
open Go
noncomputable def B9 (h:Hp):Fz:=fun a=>h.get a
theorem SH.all {h:Hp} (wf:WF h):SH (B9 h) h []:=⟨wf,fun _ _ h=>h,fun i a b h=>(by simp at h),fun i j a b c h=>(by simp at h)⟩
theorem Ni {h:Hp} {a:Pa} {l:List V} (hc:h.cells a=some l):∃b,h.get a=some b∧b.rd=some l:=by
 unfold bn.cells at hc;cases j:h.get a with
 |none=>rw[j]at hc;cases hc
 |some b=>
  rw[j]at hc;refine⟨b,rfl,?_⟩;cases b with
  |cells m d=>cases d<;>simp_all [ak.rd]
  |ro m=>simp_all [ak.rd]
  |map es c=>simp at hc
  |loop r=>simp at hc
  |c4 l=>simp at hc
theorem FS.Nj {h:Hp} {v:V} {k n:Nat} {cs:List V} (hs:Sl h v k n cs) (hc:y3 v k):FS (B9 h) v k n cs:=by
 refine⟨hs.1,?_⟩;rcases hs.2 with o|⟨a,I,c,rfl,l,aj,d⟩
 ·exact .inl o
 ·obtain⟨b,j,A⟩:=Ni aj;refine .inr ⟨a,I,c,b,l,rfl,j,A,d,?_⟩;cases c<;>exact hc
theorem Nk {P:Program} {F:Nat→Option aP} (hN:ou P=true) (L:mr P F) {f:Nat} {fn:fO} (M:F f=some (.code fn)) {args:List V} {ce:List Value} {w:World} {U:AM} {Λ:Pa→Prop} {h0:Hp} {O:Fz}
 (S:aS ⟨P,w,w.heap.size,false⟩ U Λ h0 [] w) (ha:bd U args ce) (sh:SH O h0 [])
 (hw:SW F ⟨⟨f,fn.nt,false,none⟩,fun _=>True⟩ fn.body (fT 0 args) O [] (mz fn.res (fun u _ _=>u=.bool true) never)):
 Calls P f ce.toArray w fun e w'=>e=.returned (.bool true)∧Kept w w':=by
 refine FY hN L M S ha (WC.mono (Q:=(mz fn.res (fun u _ _=>u=.bool true) never).at O []) ?_ ?_ ?_ ?_ (hw [] h0 (by simpa using sh)))
 ·rintro j h' ms ⟨ψ,A,o,aj,l,d,B⟩;obtain⟨G,h⟩:=iU ms aj;obtain⟨W,I,R,k2,D⟩:=B _ _ h;exact⟨G,l,d _ _ h,D⟩
 ·rintro i j h' ms ⟨ψ,A,o,aj,d⟩;exact d.elim
 ·rintro j h' ms ⟨ψ,A,o,aj,l,d,B⟩;obtain⟨G,h⟩:=iU ms aj;obtain⟨W,I,R,k2,D⟩:=B _ _ h;exact⟨G,l,d _ _ h,D⟩
 ·rintro j u h' ms ⟨ψ,A,o,aj,d⟩;exact d.elim
end Go.Ev
