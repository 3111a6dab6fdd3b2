/- A part of the proof of glacislaw15.SegUsed (made short by a program). -/
import Derived.Test.YtebhegkangheiaaGreatDoorUJ
namespace Go.Ev
variable{F:Nat→Option aP} {O:Fz}
theorem A8 {q:cy} {a m:Int} (ha:0≤a) (_hb:a≤4294967296) (hm:0<m):b0 .rem q (.j a) (.j m)=some (.j (a%m)):=by
 show(bif cr .i64 .i64 then(bif gh m 0 then none else some (V.j (a.tmod m)))else none)=_;have aj:gh m 0=false:=by rw[h3];simp;omega
 rw[show cr .i64 .i64=true from rfl,aj,aE,bw,xu ha]
theorem LB {q:cy} (a b:UInt8):b0 .add q (cz a) (cz b)=some (cz (a+b)):=by
 show some (V.int .u8 (ek .u8 (qp (a.toNat:Int) (b.toNat:Int))))=some (V.int .u8 (Int.ofNat (a+b).toNat));have h:ek .u8 ((a.toNat:Int)+(b.toNat:Int))=(((a.toNat+b.toNat)%256:Nat):Int):=by rw[nr];simp[IntKind.wrap,IntKind.signed,IntKind.bits]
 rw[uE,h];congr 2
theorem gb (l:Bs) (n:Nat) {m:Int} (hm:0<m):0≤(aM l n m).1∧(aM l n m).1<m:=by
 unfold aM;split
 ·exact⟨ej 0,hm⟩
 ·exact⟨Int.emod_nonneg _ (by omega),Int.emod_lt_of_pos _ hm⟩
namespace G
variable{F:Nat→Option aP} {K:KX} {E:Env} {O:Fz} {R:List Ob} {Q:bz} {rs:List Op} {d:Nat} {g:Option (Pa×Bool)} {b:Bool}
theorem LC [eY K] {n:Nat} {xs:List Od} {vs:List V} {v:V} {I:Ob} (hi:R[0]? =some I) (hc:b=true→ai F n vs O [I] (fun r ψ R=>ψ=O∧r=v∧R=[I]) never) (hn:SA F K rs ((d,gv b v)::E) O R Q) (j:Gd E g b:=by first|exact .y rfl|exact .n rfl|exact .yg rfl|exact .ng rfl) (hx:nE E b xs vs:=by repeat(first|exact .nil|refine .cons (.g rfl) ?_|refine .cons (.gl rfl) ?_|refine .cons (.u (.t rfl)) ?_|refine .cons (.u .c) ?_)):SR F K (.op ⟨some (pa d),aI n xs,g⟩::Op.aK rs) E O R Q:=by
 cases b with
 |false=>exact S.no j hn
 |true=>
  intro W h sh;rcases hc rfl (R.eraseIdx 0++W) h (by simpa using sh.front hi)with⟨r,h',o,ψ,B,aj,A,rfl,rfl,rfl⟩|⟨_,_,_,_,_,_,_,h⟩
  ·refine ad.call j (hx.is rfl) o (S.r hn W h' ?_);cases R with
   |nil=>cases hi
   |cons p R=>simp only[gd,aL]at hi;subst hi;simpa using A
  ·exact h.elim
end G
def gH (a:Pa) (d:V) (n:Nat):Ob:=(some a,.cells [d,.j (n:Int)] false)
theorem A9 [Fx F] {d:V} (hs:isScalar d=true):ai F 9 [d] O [] (fun r ψ R=>ψ=O∧∃a,r=.ptr a 0∧R=[gH a d 0]) never:=by
 refine ar ?_;refine S.build ?_ (l:=[d,.j 0]);refine S.box fun a5=>?_;exact⟨_,.t rfl .nil,.done ⟨rfl,a5,rfl,rfl⟩⟩
theorem LD [Fx F] {d:V} {l:Bs} {a:Pa} {n:Nat} (hl:aa aU O d l) (h:l.length≤1000):ai F 34 [.ptr a 0] O [gH a d n] (fun r ψ R=>ψ=O∧r=.bool (decide (l.length≤n))∧R=[gH a d n]) never:=by
 have sl:=hl.ax;refine ar ?_;refine S.ld 0 ?_;refine S.ld 0 ?_;refine S.len ?_ (hl:=aa.len hl);refine S.bin ?_;refine⟨_,.t rfl .nil,.done ⟨rfl,?_,rfl⟩⟩;show V.bool (decide ((l.length:Int)≤(n:Int)))=_;rw[show decide ((l.length:Int)≤(n:Int))=decide (l.length≤n)from decide_eq_decide.2 (by omega)]
theorem iC [Fx F] {d:V} {l:Bs} {a:Pa} {n:Nat} {m:Int} (hl:aa aU O d l) (A:l.length≤1000):ai F 73 [.ptr a 0,.j m] O [gH a d n] (fun r ψ R=>ψ=O∧r=.j (aM l n m).1∧R=[gH a d (aM l n m).2]) never:=by
 have sl:=hl.ax;refine ar ?_;refine S.ld 0 ?_;refine S.ld 0 ?_;refine S.len ?_ (hl:=aa.len hl);refine S.bin ?_;refine G.mv ?_;refine G.bin ?_;refine G.or ?_;refine C.B (fun OY=>?_) fun OY=>?_
 ·have e:aM l n m=(0,n):=by
   unfold aM;rw[ae];simp at OY;rcases OY with h|h
   ·exact .inl h
   ·exact .inr h
  rw[e];exact⟨_,.t rfl .nil,.done ⟨rfl,rfl,rfl⟩⟩
 ·simp at OY;have hn:n<l.length:=by omega
  have e:aM l n m=(((l[n]).toNat:Int)%m,n+1):=by
   unfold aM;rw[ab (by omega),bj hn];(try rfl)
  rw[e];refine S.ld 0 ?_;refine S.bin ?_ (v:=.j ((n+1:Nat):Int)) (hv:=by rw[dz (by omega) (by omega)];(try rfl));refine S.store 0 ?_;refine S.ld 0 ?_;refine S.ld 0 ?_;refine S.bin ?_ (v:=.j (n:Int)) (hv:=by rw[fU (by omega) (by omega),show(((n+1:Nat):Int)-1)=(n:Int) by omega]);refine S.aF hl hn fun D o=>?_;refine S.a1 ?_;refine S.iY ?_;refine S.bin ?_ (hv:=A8 (by omega) (by have:=o7 l[n];omega) (by omega));exact⟨_,.t rfl .nil,.done ⟨rfl,rfl,rfl⟩⟩
theorem wQ [Fx F] {o:V} {l:Bs} {a:Pa} {n:Nat} (hl:aa aU O o l) (G:l.length≤1000):ai F 74 [.ptr a 0] O [gH a o n] (fun r ψ R=>ψ=O∧r=.str (fk l n).1∧R=[gH a o (fk l n).2]) never:=by
 have sl:=hl.ax;refine ai.same (ar ?_);refine S.pO (e:=dA) p3 fun v3 Y I B=>?_;have hl:=hl.mono I;refine S.ba 0 rfl (iC (n:=n) (m:=15) hl G) fun v5 Z L U d=>?_;obtain⟨d,rfl,rfl⟩:=d;have d:=d.symm;subst d;obtain⟨h,A⟩:∃j:Nat,(aM l (n) 15).1=(j:Int):=⟨(aM l (n) 15).1.toNat,by have:=(gb l (n) (m:=15) (by omega)).1;omega⟩
 have D:=(gb l (n) (m:=15) (by omega)).2;rw[A]at D⊢;refine S.aF B (j:=h) (by show h<15;omega) fun W M=>?_;refine S.a1 ?_;have Q:p3.length=15:=rfl;have e:fk l n=(p3[h]'(by omega),(aM l n 15).2):=by unfold fk;rw[A,hC,bj (by omega)];(try rfl)
 rw[e];exact⟨_,.t rfl .nil,.done ⟨rfl,rfl⟩⟩
end Go.Ev
set_option maxHeartbeats 1000000
namespace Go.Ev
variable{F:Nat→Option aP} {O:Fz}
def wR:List Int:=nO.map Int.ofNat
theorem Ba {j:Nat} (h:j<nO.length):nO[j]≤121:=by
 have:∀x∈nO,x≤121:=by decide
 exact this _ (cw h)
theorem LF [Fx F] {B:V} {l:Bs} {a:Pa} {n:Nat} (hl:aa aU O B l) (U:l.length≤1000):ai F 97 [.ptr a 0] O [gH a B n] (fun r ψ R=>ψ=O∧r=.str (kS l n).1∧R=[gH a B (kS l n).2]) never:=by
 have sl:=hl.ax;refine ai.same (ar ?_);refine S.pO (e:=bt) wR fun aH am ak ab=>?_;have hl:=hl.mono ak;refine S.ba 0 rfl (iC (n:=n) (m:=8) hl U) fun v9 aJ ao aB o=>?_;obtain⟨o,rfl,rfl⟩:=o;have o:=o.symm;subst o;obtain⟨A,Q⟩:∃j:Nat,(aM l (n) 8).1=(j:Int):=⟨(aM l (n) 8).1.toNat,by have:=(gb l (n) (m:=8) (by omega)).1;omega⟩
 have ah:=(gb l (n) (m:=8) (by omega)).2;rw[Q]at ah⊢;have az:nO.length=8:=rfl;obtain⟨k,hk⟩:∃k,k=nO[A]'(by omega):=⟨_,rfl⟩
 have aw:k≤121:=by rw[hk];exact Ba (by omega)
 have aj:wR[A]'(by show A<8;omega)=(k:Int):=by rw[hk];simp[wR]
 refine S.aF ab (j:=A) (by show A<8;omega) fun aD au=>?_;refine S.a1 ?_;rw[aj];refine S.oE (e:=aU) (0:UInt8) (n:=k) (by omega) (by omega) fun d aC=>?_;refine S.ba 1 rfl (iC (n:=(aM l n 8).2) (m:=26) hl U) fun aE aI an aA h=>?_;obtain⟨h,rfl,rfl⟩:=h;have h:=h.symm;subst h;have hc:=gb l (aM l n 8).2 (m:=26) (by omega);refine S.bin ?_;refine S.mH ?_;obtain⟨G,W⟩:∃G,G=(aM l (aM l n 8).2 26).2:=⟨_,rfl⟩
 obtain⟨cc,M⟩:∃cc,cc=bM (97+(aM l (aM l n 8).2 26).1):=⟨_,rfl⟩
 rw[←W,←M];refine SW.bF (fun m E ψ R=>∃(j:Nat) (out:List UInt8),j+m=k∧out.length=k∧(∀i:Nat,i<j→out[i]? =some (cc+bM ((i%3:Nat):Int)))∧am=ψ∧R=[gH a B G,aU.ob (some d) out]∧Sub [(3,.j (k:Int)),(4,.sl d 0 k (.ex k)),(5,cz cc),(6,.j (j:Int))] E) (m:=k) (.done ⟨0,_,by omega,by simp,fun i hi=>absurd hi (by omega),rfl,rfl,.r rfl⟩) ?_;intro al E ψ R ay ag;obtain⟨j,out,av,I,Y,rfl,rfl,ac⟩:=ag;refine C.sub ac ?_;refine S.bin ?_;refine C.D (fun Pb=>?_) fun Pb=>?_
 ·have hj:j<k:=by omega
  have L:af aU (.sl d 0 k (.ex k)) out (some d):=af.new I;refine S.bin ?_ (v:=.j ((j%3:Nat):Int)) (hv:=by rw[A8 (by omega) (by omega) (by omega)];(try rfl));refine S.mH ?_;refine S.bin ?_ (v:=cz (cc+bM ((j%3:Nat):Int))) (hv:=LB _ _);refine S.ct L (by omega) (fun ap Z=>?_) (j:=j);cases Z;refine S.kK (e:=aU) (l:=out) (j:=j) (cc+bM ((j%3:Nat):Int)) 1 ?_;refine S.bin ?_;exact⟨al-1,by omega,.done ⟨j+1,_,by omega,by rw[pb];exact I,fun i hi=>by
   rw[kn];split
   ·rename_i he;subst he;rw[ae (by omega)]
   ·exact Y i (by omega),rfl,rfl,.r rfl⟩⟩
 ·obtain rfl:j=k:=by omega
  have L:af aU (.sl d 0 j (.ex j)) out (some d):=af.new I;have e:kS l n=(out,G):=by
   unfold kS;simp only[Q,hC];rw[bj (by omega),←W];simp only[kq];rw[←hk];have:out=tG j (aM l (aM l n 8).2 26).1:=by
    refine qc fun i=>?_;unfold tG;rw[←M];by_cases hi:i<j
    ·rw[Y i hi];simp[hi]
    ·rw[o4 (by omega),o4 (by simp;omega)]
   rw[this]
  rw[e];refine S.hM 1 L ?_;exact⟨_,.t rfl .nil,.only 0 ⟨rfl,rfl⟩⟩
end Go.Ev
set_option maxHeartbeats 4000000
namespace Go.Ev
variable{F:Nat→Option aP} {O:Fz}
theorem rE {l:List Int} {j:Nat} (h:j<l.length):(l[j]?).getD 0=l[j]:=by rw[bj h];(try rfl)
theorem LG [Fx F] {an:V} {l:Bs} {a:Pa} {n:Nat} (hl:aa aU O an l) (h:l.length≤1000):ai F 56 [.ptr a 0] O [gH a an n] (fun r ψ R=>ψ=O∧r=.agg (kU (mM l n).1 (.no .sl))∧R=[gH a an (mM l n).2]) never:=by
 have sl:=hl.ax;refine ar ?_;refine S.alloc fun aw=>?_;refine S.a8 fun a4=>?_;refine S.alloc fun a3=>?_;refine S.ba 3 rfl (iC (n:=n) (m:=12) hl h) fun bI bS bd bw aj=>?_;obtain⟨aj,rfl,rfl⟩:=aj;have aj:=aj.symm;subst aj;obtain⟨G,aD⟩:∃j:Nat,(aM l (n) 12).1=(j:Int):=⟨(aM l (n) 12).1.toNat,by have:=(gb l (n) (m:=12) (by omega)).1;omega⟩
 have aQ:=(gb l (n) (m:=12) (by omega)).2;rw[aD]at aQ⊢;have bi:nP.length=12:=rfl;refine S.gZ 1 ?_;refine S.e2 2 ?_;have aT:af bt (.sl a4 0 12 (.ex 12)) nP (some a4):=af.new rfl;refine S.ct aT (j:=G) (by show G<12;omega) fun bg aJ=>?_;cases aJ;refine S.eJ (e:=bt) (l:=nP) (j:=G) 0 2 ?_ (hj:=by show G<12;omega);refine S.ba 0 rfl (wQ (n:=(aM l n 12).2) hl h) fun bx bJ aW bk L=>?_;obtain⟨L,rfl,rfl⟩:=L;have L:=L.symm;subst L;refine S.bE 2 ?_ (hu:=pL (e:=bt) nP G 0 _ rfl);refine S.gZ 1 ?_;refine S.e2 2 ?_;refine S.build ?_;obtain⟨K,az⟩:∃K,K=nP[G]'(by omega):=⟨_,rfl⟩
 obtain⟨P,aA⟩:∃P,P=(fk l (aM l n 12).2).1:=⟨_,rfl⟩
 obtain⟨d,aE⟩:∃d,d=(fk l (aM l n 12).2).2:=⟨_,rfl⟩
 have aF:mM l n=gG l K P d:=by unfold mM;rw[aD,hC,rE (by omega),←az,←aA,←aE]
 rw[aF];rw[←az,←aA,←aE];refine S.store 1 ?_;refine S.ld 1 ?_;refine S.bin ?_;refine C.B (fun O0=>?_) fun O0=>?_
 ·have o:K=1:=by simpa using O0
  refine S.ba 0 rfl (iC (n:=d) (m:=2) hl h) fun bz bK aX bl M=>?_;obtain⟨M,rfl,rfl⟩:=M;have M:=M.symm;subst M;have bh:=gb l d (m:=2) (by omega);refine S.bin ?_;refine S.store 1 ?_;refine S.ba 0 rfl (iC (n:=(aM l d 2).2) (m:=12) hl h) fun bA bL aZ bm Q=>?_;obtain⟨Q,rfl,rfl⟩:=Q;have Q:=Q.symm;subst Q;refine S.bin ?_;refine C.D (fun O2=>?_) fun O2=>?_
  ·have e:gG l K P d=(⟨K,0,0,(aM l (aM l (aM l d 2).2 12).2 4).1,0,P,[],[]⟩,(aM l (aM l (aM l d 2).2 12).2 4).2):=by unfold gG;rw[ae o,ae O2]
   rw[e];refine S.ba 0 rfl (iC (n:=(aM l (aM l d 2).2 12).2) (m:=4) hl h) fun bB bM a1 bn U=>?_;obtain⟨U,rfl,rfl⟩:=U;have U:=U.symm;subst U;refine S.store 1 ?_;refine S.ag 1 ?_;refine S.store 3 ?_;exact⟨_,.cN 3 rfl rfl rfl rfl .nil,.only 0 ⟨rfl,rfl,rfl⟩⟩
  ·have e:gG l K P d=(⟨K,0,0,1+(aM l d 2).1,0,P,[],[]⟩,(aM l (aM l d 2).2 12).2):=by unfold gG;rw[ae o,ab O2]
   rw[e];refine S.ag 1 ?_;refine S.store 3 ?_;exact⟨_,.cN 3 rfl rfl rfl rfl .nil,.only 0 ⟨rfl,rfl,rfl⟩⟩
 ·have o:¬K=1:=by simpa using O0
  refine S.bin ?_;refine SW.oB (fun E ψ R=>∃c:Bool,c=decide (K=2∨K=4)∧O=ψ∧R=[gH a an d,(some a3,.cells [.j K,.j 0,.j 0,.j 0,.j 0,.str P,.str [],.str [],.no .sl] false),(some aw,.cells [.j 0,.j 0,.j 0,.j 0,.j 0,.str [],.str [],.str [],.no .sl] false)]∧Sub [(0,.ptr a 0),(2,.ptr aw 0),(3,.ptr a3 0),(13,.j K),(26,.bool c)] E) ?_ ?_
  ·refine C.B (fun Pj=>?_) fun Pj=>?_
   ·exact .drop 2 (.done ⟨_,by simp at Pj;simp[Pj],rfl,rfl,.r rfl⟩)
   ·refine S.bin ?_;exact .drop 2 (.done ⟨_,by simp at Pj;simp[Pj],rfl,rfl,.r rfl⟩)
  intro E ψ R bj aL;obtain⟨c,hc,rfl,rfl,aK⟩:=aL;refine C.sub aK ?_;refine C.B (fun I=>?_) fun I=>?_
  ·have k2:K=2∨K=4:=by rw[hc]at I;simpa using I
   have e:gG l K P d=(⟨K,0,0,0,0,P,(fk l d).1,[]⟩,(fk l d).2):=by unfold gG;rw[ab o,ae k2]
   rw[e];refine S.ba 0 rfl (wQ (n:=d) hl h) fun bC bN a2 bo W=>?_;obtain⟨W,rfl,rfl⟩:=W;have W:=W.symm;subst W;refine S.store 1 ?_;refine S.ag 1 ?_;refine S.store 2 ?_;exact⟨_,.cN 2 rfl rfl rfl rfl .nil,.only 0 ⟨rfl,rfl,rfl⟩⟩
  ·have k2:¬(K=2∨K=4):=by rw[hc]at I;simpa using I
   refine S.bin ?_;refine C.B (fun ao=>?_) fun ao=>?_
   ·have al:K=5:=by simpa using ao
    refine S.a8 fun ay=>?_;refine S.ba 1 rfl (iC (n:=d) (m:=8) hl h) fun bD bO a6 bp Y=>?_;obtain⟨Y,rfl,rfl⟩:=Y;have Y:=Y.symm;subst Y;obtain⟨A,aB⟩:∃j:Nat,(aM l (d) 8).1=(j:Int):=⟨(aM l (d) 8).1.toNat,by have:=(gb l (d) (m:=8) (by omega)).1;omega⟩
    have aO:=(gb l (d) (m:=8) (by omega)).2;rw[aB]at aO⊢;refine S.e2 1 ?_;have aS:af bt (.sl ay 0 8 (.ex 8)) oS (some ay):=af.new rfl;refine S.ct aS (j:=A) (by show A<8;omega) fun a37 aH=>?_;cases aH;refine S.eJ (e:=bt) (l:=oS) (j:=A) 0 1 ?_ (hj:=by show A<8;omega);refine S.ba 0 rfl (LF (n:=(aM l d 8).2) hl h) fun bF bP a7 br Z=>?_;obtain⟨Z,rfl,rfl⟩:=Z;have Z:=Z.symm;subst Z;refine S.bE 1 ?_ (hu:=pL (e:=bt) oS A 0 _ rfl);refine S.e2 1 ?_;refine S.drop 1 ?_;have aR:oS.length=8:=rfl;have e:gG l K P d=(⟨K,0,0,0,oS[A]'(by omega),P,[],(kS l (aM l d 8).2).1⟩,(kS l (aM l d 8).2).2):=by unfold gG;rw[ab o,ab k2,ae al,aB,hC,rE (by omega)]
    rw[e];refine S.store 1 ?_;refine S.store 1 ?_;refine S.ag 1 ?_;refine S.store 2 ?_;exact⟨_,.cN 2 rfl rfl rfl rfl .nil,.only 0 ⟨rfl,rfl,rfl⟩⟩
   ·have al:¬K=5:=by simpa using ao
    refine S.bin ?_;refine C.B (fun ap=>?_) fun ap=>?_
    ·have am:K=6:=by simpa using ap
     refine S.a8 fun a45=>?_;refine S.ba 1 rfl (iC (n:=d) (m:=8) hl h) fun bG bQ bb bs ac=>?_;obtain⟨ac,rfl,rfl⟩:=ac;have ac:=ac.symm;subst ac;obtain⟨ak,aC⟩:∃j:Nat,(aM l (d) 8).1=(j:Int):=⟨(aM l (d) 8).1.toNat,by have:=(gb l (d) (m:=8) (by omega)).1;omega⟩
     have aP:=(gb l (d) (m:=8) (by omega)).2;rw[aC]at aP⊢;have aV:af bt (.sl a45 0 8 (.ex 8)) p4 (some a45):=af.new rfl;refine S.ct aV (j:=ak) (by show ak<8;omega) fun be aI=>?_;cases aI;refine S.eJ (e:=bt) (l:=p4) (j:=ak) 0 1 ?_ (hj:=by show ak<8;omega);refine S.drop 1 ?_;have aR:p4.length=8:=rfl;have e:gG l K P d=(⟨K,0,0,0,p4[ak]'(by omega),P,[],[]⟩,(aM l d 8).2):=by unfold gG;rw[ab o,ab k2,ab al,ae am,aC,hC,rE (by omega)]
     rw[e];refine S.store 1 ?_;refine S.ag 1 ?_;refine S.store 2 ?_;exact⟨_,.cN 2 rfl rfl rfl rfl .nil,.only 0 ⟨rfl,rfl,rfl⟩⟩
    ·have am:¬K=6:=by simpa using ap
     refine S.bin ?_;refine C.B (fun au=>?_) fun au=>?_
     ·have av:K=7:=by simpa using au
      have e:gG l K P d=(⟨K,0,0,(aM l d 256).1,0,P,[],[]⟩,(aM l d 256).2):=by unfold gG;rw[ab o,ab k2,ab al,ab am,ae av]
      rw[e];refine S.ba 0 rfl (iC (n:=d) (m:=256) hl h) fun bH bR bc bv ah=>?_;obtain⟨ah,rfl,rfl⟩:=ah;have ah:=ah.symm;subst ah;refine S.store 1 ?_;refine S.ag 1 ?_;refine S.store 2 ?_;exact⟨_,.cN 2 rfl rfl rfl rfl .nil,.only 0 ⟨rfl,rfl,rfl⟩⟩
     ·have av:¬K=7:=by simpa using au
      have e:gG l K P d=(⟨K,0,0,0,0,P,[],[]⟩,d):=by unfold gG;rw[ab o,ab k2,ab al,ab am,ab av]
      rw[e];refine S.ag 1 ?_;refine S.store 2 ?_;exact⟨_,.cN 2 rfl rfl rfl rfl .nil,.only 0 ⟨rfl,rfl,rfl⟩⟩
end Go.Ev
set_option maxHeartbeats 4000000
namespace Go.Ev
variable{F:Nat→Option aP} {O:Fz}
theorem LH [Fx F] {ag:V} {l:Bs} {a:Pa} {n:Nat} (hl:aa aU O ag l) (h:l.length≤1000):ai F 36 [.ptr a 0] O [gH a ag n] (fun r ψ R=>ψ=O∧r=.agg (kU (lU l n).1 (.no .sl))∧R=[gH a ag (lU l n).2]) never:=by
 have sl:=hl.ax;refine ar ?_;refine S.alloc fun aH=>?_;refine S.ba 1 rfl (iC (n:=n) (m:=20) hl h) fun v5 bd aF aS W=>?_;obtain⟨W,rfl,rfl⟩:=W;have W:=W.symm;subst W;obtain⟨k,hk⟩:∃k,k=(aM l n 20).1:=⟨_,rfl⟩
 obtain⟨d,al⟩:∃d,d=(aM l n 20).2:=⟨_,rfl⟩
 have am:lU l n=iB l k d:=by unfold lU;rw[←hk,←al]
 rw[am];rw[←hk,←al];refine S.bin ?_;refine C.B (fun Pe=>?_) fun Pe=>?_
 ·have A:k<12:=by simpa using Pe
  have e:iB l k d=mM l d:=by unfold iB;rw[ae A]
  rw[e];refine S.ba 0 rfl (LG (n:=d) hl h) fun aT a1 az aK G=>?_;obtain⟨G,rfl,rfl⟩:=G;have G:=G.symm;subst G;refine S.store (v:=.agg (kU (mM l d).1 (.no .sl))) 1 ?_;exact⟨_,.cN 1 rfl rfl rfl rfl .nil,.only 0 ⟨rfl,rfl,rfl⟩⟩
 ·have A:¬k<12:=by simpa using Pe
  refine S.bin ?_;refine C.B (fun Pg=>?_) fun Pg=>?_
  ·have k2:k<15:=by simpa using Pg
   have e:iB l k d=(stepOf 11 0 [],d):=by unfold iB;rw[ab A];rw[ae k2]
   rw[e];refine S.build ?_;refine S.store 1 ?_;exact⟨_,.cN 1 rfl rfl rfl rfl .nil,.only 0 ⟨rfl,rfl,rfl⟩⟩
  ·have k2:¬k<15:=by simpa using Pg
   refine S.bin ?_;refine C.B (fun OX=>?_) fun OX=>?_
   ·have Y:k<17:=by simpa using OX
    have e:iB l k d=(stepOf 12 0 [],d):=by unfold iB;rw[ab A];rw[ab k2];rw[ae Y]
    rw[e];refine S.build ?_;refine S.store 1 ?_;exact⟨_,.cN 1 rfl rfl rfl rfl .nil,.only 0 ⟨rfl,rfl,rfl⟩⟩
   ·have Y:¬k<17:=by simpa using OX
    refine S.bin ?_;refine C.B (fun OZ=>?_) fun OZ=>?_
    ·have Z:k=17:=by simpa using OZ
     refine S.a8 fun a22=>?_;refine S.ba 1 rfl (iC (n:=d) (m:=2) hl h) fun aV a2 aA aL I=>?_;obtain⟨I,rfl,rfl⟩:=I;have I:=I.symm;subst I;obtain⟨D,aj⟩:∃j:Nat,(aM l (d) 2).1=(j:Int):=⟨(aM l (d) 2).1.toNat,by have:=(gb l (d) (m:=2) (by omega)).1;omega⟩
     have au:=(gb l (d) (m:=2) (by omega)).2;rw[aj]at au⊢;refine S.e2 1 ?_;have aw:af bt (.sl a22 0 2 (.ex 2)) nQ (some a22):=af.new rfl;refine S.ct aw (j:=D) (by show D<2;omega) fun a25 an=>?_;cases an;refine S.eJ (e:=bt) (l:=nQ) (j:=D) 0 1 ?_ (hj:=by show D<2;omega);refine S.ba 0 rfl (iC (n:=(aM l d 2).2) (m:=4) hl h) fun aW a6 aB aO L=>?_;obtain⟨L,rfl,rfl⟩:=L;have L:=L.symm;subst L;have aJ:=gb l (aM l d 2).2 (m:=4) (by omega);refine S.bE 1 ?_ (hu:=pL (e:=bt) nQ D 0 _ rfl);refine S.e2 1 ?_;refine S.bin ?_;refine S.build ?_;have ap:nQ.length=2:=rfl;have e:iB l k d=(stepOf (nQ[D]'(by omega)) (1+(aM l (aM l d 2).2 4).1) [],(aM l (aM l d 2).2 4).2):=by unfold iB;rw[ab A,ab k2,ab Y,ae Z,aj,hC,rE (by omega)]
     rw[e];refine S.store 2 ?_;exact⟨_,.cN 2 rfl rfl rfl rfl .nil,.only 0 ⟨rfl,rfl,rfl⟩⟩
    ·have Z:¬k=17:=by simpa using OZ
     refine S.bin ?_;refine C.B (fun Pp=>?_) fun Pp=>?_
     ·have ac:k=18:=by simpa using Pp
      have e:iB l k d=(stepOf 15 0 [],d):=by unfold iB;rw[ab A];rw[ab k2];rw[ab Y];rw[ab Z];rw[ae ac]
      rw[e];refine S.build ?_;refine S.store 1 ?_;exact⟨_,.cN 1 rfl rfl rfl rfl .nil,.only 0 ⟨rfl,rfl,rfl⟩⟩
     ·have ac:¬k=18:=by simpa using Pp
      refine S.a8 fun ah=>?_;refine S.ba 1 rfl (iC (n:=d) (m:=3) hl h) fun v37 a7 aC aP M=>?_;obtain⟨M,rfl,rfl⟩:=M;have M:=M.symm;subst M;obtain⟨o,ak⟩:∃j:Nat,(aM l (d) 3).1=(j:Int):=⟨(aM l (d) 3).1.toNat,by have:=(gb l (d) (m:=3) (by omega)).1;omega⟩
      have av:=(gb l (d) (m:=3) (by omega)).2;rw[ak]at av⊢;refine S.e2 1 ?_;have ay:af bt (.sl ah 0 3 (.ex 3)) mN (some ah):=af.new rfl;refine S.ct ay (j:=o) (by show o<3;omega) fun aI ao=>?_;cases ao;refine S.eJ (e:=bt) (l:=mN) (j:=o) 0 1 ?_ (hj:=by show o<3;omega);refine S.ba 0 rfl (wQ (n:=(aM l d 3).2) hl h) fun aX bb aD aQ Q=>?_;obtain⟨Q,rfl,rfl⟩:=Q;have Q:=Q.symm;subst Q;refine S.bE 1 ?_ (hu:=pL (e:=bt) mN o 0 _ rfl);refine S.e2 1 ?_;refine S.ba 0 rfl (iC (n:=(fk l (aM l d 3).2).2) (m:=3) hl h) fun aZ bc aE aR U=>?_;obtain⟨U,rfl,rfl⟩:=U;have U:=U.symm;subst U;refine S.bE 1 ?_ (hu:=pL (e:=bt) mN o 0 _ rfl);refine S.e2 1 ?_;refine S.build ?_;have ap:mN.length=3:=rfl;have e:iB l k d=(stepOf (mN[o]'(by omega)) (aM l (fk l (aM l d 3).2).2 3).1 (fk l (aM l d 3).2).1,(aM l (fk l (aM l d 3).2).2 3).2):=by unfold iB;rw[ab A,ab k2,ab Y,ab Z,ab ac,ak,hC,rE (by omega)]
      rw[e];refine S.store 2 ?_;exact⟨_,.cN 2 rfl rfl rfl rfl .nil,.only 0 ⟨rfl,rfl,rfl⟩⟩
def zeroV:aV:=⟨⟨[],[],0,false⟩,0,0,0,0,0,0,0,[]⟩
theorem LI (O:Fz):bR O (bf (.no .sl) (.no .sl) (.no .sl) zeroV) zeroV:=⟨_,_,_,rfl,aa.nil _,aa.nil _,hf.nil _⟩
theorem LJ [Fx F] {cs:List V} {D:V} {v:aV} {s:eC} {eq:List Bool} (hv:bR O cs v) (ao:VG v) (hk:aa lJ O D eq) (A:rA s) (au:1≤s.kind) (av:s.kind≤15):
 ai F 35 [.agg cs,.agg (kU s D)] O [] (fun r ψ R=>R=[]∧∃cs' l,r=.aN [.agg cs',.agg l]∧bR ψ cs' (eP v s)∧p5 ψ l) never:=by
 obtain⟨G,wv,I,rfl,hl,hw,ht,sl,aK,st,hd⟩:=hv.open;have aJ:=hk.ax;refine ar ?_;refine S.box fun aC=>?_;refine S.box fun a3=>?_;refine S.alloc fun a4=>?_;refine S.alloc fun a5=>?_;refine S.store 2 ?_;refine S.ag 3 ?_ (l:=bf G wv I v);refine S.build ?_;refine S.build ?_ (l:=bf G wv I v++[.no .sl,.no .sl,.j 0,.bool false,.j 0,.j 0,.j 0,.j 0,.j 0,.j 0,.j 0,.no .sl]) (dl:=by simp[aY,V.cells,bf,iV,kI,jF,kJ, *]);refine S.build ?_ (l:=fH G wv I v (.no .sl) (.no .sl) (.no .sl) zeroV []) (dl:=by simp[aY,V.cells,bf,iV,kI,jF,kJ, *]);refine S.ag 2 ?_ (l:=kU {s with v:=0} D);refine S.call (LA (s:={s with v:=0}) (w:=[]) hv ao (LI O) hk ⟨A.path,A.dst,A.text,A.off⟩ rfl au av) fun aL aM aB aF am=>?_;obtain⟨rfl,d,h,ty,aH,rfl,ac,hz,ha⟩:=am;obtain⟨Y,U⟩:∃Y,Y=eP v {s with v:=0}:=⟨_,rfl⟩
 have an:eP v s=Y:=U.symm;rw[←U]at ac⊢;rw[an];obtain⟨aw,az,ay,o,W,ab,Z⟩:=ac;obtain⟨rfl,rfl,rfl⟩:d=aw∧h=az∧ty=ay:=by simp only[bf,nV]at o;exact⟨o.1,o.2.1,o.2.2.2.2.2.2.2.2.2.2.2.1⟩
 have ah:=W.ax;have ak:=ab.ax;have aj:=Z.ax;obtain⟨Q,al,a0,L,Pq,M,f0,ae,aA,n0,rfl,B⟩:=ha;have aI:=B.ax;have ap:=rD (v:=Y) (x:=zeroV) (w:=[]) (lx:=.no .sl) (wx:=.no .sl) (tx:=.no .sl) ah ak aj rfl rfl rfl;refine S.alloc fun aD=>?_;refine S.alloc fun aE=>?_;refine S.store (v:=.agg (fH d h ty Y (.no .sl) (.no .sl) (.no .sl) zeroV [])) 1 ?_ (hs:=ap);refine S.store (v:=.agg [.j Q,.str al,.j a0,.j L,.j Pq,.j M,.j f0,ae,.j n0]) 0 ?_;refine S.pH (j:=0) (by omega) ?_;refine S.ag 1 ?_ (l:=bf d h ty Y);refine S.ag 0 ?_;refine S.store (v:=.agg (bf d h ty Y)) 3 ?_ (hs:=cp ah ak aj);refine S.dg 0 ?_ (hs:=by simp[same,b9,e0,fx,B.c7]);refine S.store (v:=.agg [.j Q,.str al,.j a0,.j L,.j Pq,.j M,.j f0,ae,.j n0]) 2 ?_;exact⟨_,.cN 3 rfl rfl rfl rfl (.cN 2 rfl rfl rfl rfl .nil),.none ⟨rfl,_,_,rfl,⟨d,h,ty,rfl,W,ab,Z⟩,_,_,_,_,_,_,_,_,_,_,rfl,B⟩⟩
end Go.Ev
namespace Go.Ev
structure VK (K:Nat) (v:aV):Prop where
 wait:v.d.wait.length≤101*K
 last:v.d.last.length≤1000
 arm:v.d.arm≤1000
 jM:0≤v.seq
 seq1:v.seq≤K
 lT:0≤v.sum
 jk:v.sum≤10000
 jl:0≤v.aJ
 jm:v.aJ≤100
 gF:0≤v.pos
 kh:v.pos≤64
 n0:0≤v.n
 n1:v.n≤K
 trees:v.trees.length≤K
 may:∀h∈v.trees,bH h.t=true
 rB:0≤v.id
 rC:v.id≤1000
 oT:0≤v.next
theorem VK.le {K L:Nat} {v:aV} (h:VK K v) (hl:K≤L):VK L v:={h with wait:=by have:=h.wait;have:=Nat.mul_le_mul_left 101 hl;omega,seq1:=by have:=h.seq1;omega,n1:=by have:=h.n1;omega,trees:=by have:=h.trees;omega}
theorem VK.LK {K:Nat} {v:aV} (h:VK K v) (hk:K≤900):VG v:=
 {b:={wait:=by have:=h.wait;omega,last:=by have:=h.last;omega,arm:=by have:=h.arm;omega,jM:=h.jM,seq1:=by have:=h.seq1;omega,lT:=h.lT,jk:=by have:=h.jk;omega,jl:=h.jl,jm:=by have:=h.jm;omega,gF:=h.gF,kh:=by have:=h.kh;omega,n0:=h.n0,n1:=by have:=h.n1;omega,trees:=by have:=h.trees;omega,cP:=fun x hx=>⟨ry (h.may x hx),by have:=AX x.t;omega⟩}
  may:=h.may,A5:=by have:=h.trees;omega,rB:=h.rB,rC:=by have:=h.rC;omega,oT:=h.oT}
theorem VK.rF {K:Nat} {v w:aV} (h:VK K v) (hd:DB v w):VK (K+1) {v with d:=w.d}:=
 {h.le (ks K)with wait:=by have:=h.wait;have:=hd.2.1;show w.d.wait.length≤_;omega,last:=by rw[show({v with d:=w.d}:aV).d.last.length=w.d.last.length from rfl,hd.1];exact h.last,arm:=by have:=h.arm;have:=hd.2.2;show w.d.arm≤_;omega}
theorem VK.wS {K L:Nat} {v:aV} (h:VK K v) (hl:K≤L) {l:List bC} (o:l.length≤L) (aj:∀x∈l,bH x.t=true):VK L {v with trees:=l}:={h.le hl with trees:=o,may:=aj}
theorem Bb {d:au} {sum bv s:Int} (h:ke d sum bv=some s):0≤s∧s<(bK d:Nat):=by
 have:=wE bv 0 (ga d sum) s h;rw[rk]at this;omega
theorem Bc {K:Nat} {st v:aV} {gen:Int} {p:List aT×List ah} (j:VK K st) (hv:VK (K+1) v) (d:DB st (hh st v gen p).1) (hp:v.pos+p.1.length+1≤64) (D:gen=st.seq+1):VK (K+1) (hh st v gen p).1:=by
 have o:=VK.rF j d;unfold hh at d o⊢;simp only at d o⊢;split
 ·rename_i hc;rw[ae hc]at o;exact o
 ·rename_i hc;rw[ab hc]at o d;split
  ·rename_i h;rw[ae h]at o;exact o
  ·rename_i h;rw[ab h]at o d;have hs:=j.seq1;have G:=j.jM;have A:=rp (s:=v.aJ) hv.jl (by have:=hv.jm;omega);have B:bB v.aJ≤6402:=by unfold bB;have:=hv.jm;split<;>omega
   have F:=hv.gF;exact{hv with wait:=o.wait,last:=o.last,arm:=o.arm,jM:=by show 0≤gen;omega,seq1:=by show gen≤_;omega,lT:=by show 0≤bB v.aJ+v.pos+p.1.length;omega,jk:=by show bB v.aJ+v.pos+p.1.length≤_;omega,gF:=by show 0≤v.pos+p.1.length+1;omega,kh:=by show v.pos+p.1.length+1≤_;omega}
theorem wT {K:Nat} {v:aV} {lo hi:Int} (h:VK K v):VK (K+1) (cq v lo hi).1:=by
 have j:=ru (v:=v) (lo:=lo) (hi:=hi) h.gF;have h':=h.le (ks K);unfold cq at j⊢;split
 ·exact h'
 ·rename_i eH;rw[ab eH]at j;split
  ·exact h'
  ·rename_i Pf;rw[ab Pf]at j;split
   ·exact h'
   ·rename_i Pm;rw[ab Pm]at j;split
    ·exact h'
    ·rename_i p hp;rw[hp]at j;simp only at j⊢;split
     ·exact h'
     ·rename_i O9;rw[ab O9]at j;split
      ·rename_i Po;rw[ae Po]at j;unfold writeNew at j⊢;split
       ·exact h'
       ·rename_i aJ o;rw[o]at j;simp only at j;have B:=Bb o;have F:bK v.d≤100:=by have:=h.last;unfold bK;omega
        split
        ·exact h'
        ·rename_i Pe;rw[ab Pe]at j;split
         ·exact h'
         ·rename_i D A;rw[A]at j;simp only at j;split
          ·exact h'
          ·rename_i Pk;rw[ab Pk]at j;have hs:=rq v.d ⟨v.n+1,v.seq,v.sum,aJ,0⟩;simp only at j⊢;have aj:=VK.rF h (w:={v with d:=(gu v.d ⟨v.n+1,v.seq,v.sum,aJ,0⟩).1}) ⟨hs.1,by show(gu _ _).1.wait.length≤_;omega,hs.2.2⟩;split
           ·exact aj
           ·rename_i Pc;rw[ab Pc]at j;refine Bc h {aj with n0:=by have:=h.n0;show 0≤v.n+1;omega,n1:=by have:=h.n1;show v.n+1≤_;omega,jl:=B.1,jm:=by show aJ≤100;omega,gF:=ej 0,kh:=by show(0:Int)≤64;omega} j (by show 0+(D.1.length:Int)+1≤64;omega) rfl
      ·rename_i Po;rw[ab Po]at j;exact Bc h h' j (by omega) rfl
theorem wU {K:Nat} {v x:aV} (h:VK K v) (hx:VK K x) (hd:x.d=v.d):VK (K+1) (dK v x).1:=by
 have o:=wT (lo:=0) (hi:=0) hx;have j:=ru (v:=x) (lo:=0) (hi:=0) hx.gF;unfold dK;simp only;split
 ·exact VK.rF h (by unfold DB at j⊢;rw[hd]at j;exact j)
 ·split
  ·exact h.le (ks K)
  ·exact o
theorem Bd {l:List bC} {h:bC} (hl:∀x∈l,bH x.t=true) (d:bH h.t=true):(dX l h).length≤l.length+1∧∀x∈dX l h,bH x.t=true:=by
 refine⟨?_,fun x hx=>?_⟩
 ·unfold dX;rw[AB];have:=wu (l:=l) (k:=h.r.kind) (i:=h.r.id);omega
 ·rcases AN hx with o|o
  ·rw[o];exact d
  ·exact hl x o
theorem Be {l:List bC} {t:ao} (hl:∀x∈l,bH x.t=true):(jj l t).length≤l.length+1∧∀x∈jj l t,bH x.t=true:=by
 unfold jj;split
 ·rename_i h;exact Bd hl h
 ·exact⟨ks _,hl⟩
theorem Bf {k i:Int}:∀{l r:List bC},fF l k i=some r→r.length≤l.length∧∀x∈r,x∈l
 |[],_,h=>by cases h
 |a::l,r,h=>by
  simp only[fF]at h;split at h
  ·cases h;exact⟨by simp,fun x hx=>cR _ hx⟩
  ·obtain⟨z,j,A⟩:=jR.1 h;subst A;obtain⟨B,d⟩:=Bf j;refine⟨by simp;omega,fun x hx=>?_⟩;rcases bS.1 hx with o|o
   ·rw[o];exact dc
   ·exact cR _ (d x o)
theorem VK.head {K:Nat} {v:aV} (h:VK K v):bH (dD v.trees)=true:=wI (P:=fun t=>bH t=true) wP h.may
theorem LL {K:Nat} {v:aV} (h:VK K v):VK (K+2) (hR v).1:=by
 unfold hR;split
 ·exact h.le (by omega)
 ·obtain⟨o,aj⟩:=Bd (h:=⟨⟨3,v.next,v.id*65536+v.next,0,0⟩,dD v.trees⟩) h.may h.head;have hx:VK (K+1) {v with trees:=dX v.trees ⟨⟨3,v.next,v.id*65536+v.next,0,0⟩,dD v.trees⟩,next:=v.next+1}:={h.le (ks K)with trees:=by have:=h.trees;show(dX _ _).length≤_;omega,may:=aj,oT:=by have:=h.oT;show 0≤v.next+1;omega}
  have:=wU (h.le (ks K)) hx rfl;simp only;split<;>exact this
theorem LM {K:Nat} {v:aV} (h:VK K v) (s:eC):VK (K+2) (fG v s):=by
 unfold fG;split
 ·exact(wU h h rfl).le (by omega)
 ·split
  ·exact LL h
  ·split
   ·unfold kf;split
    ·exact h.le (by omega)
    ·rename_i l hl;obtain⟨o,aj⟩:=Bf hl;exact(wU h (x:={v with trees:=l}) (h.wS (aB K) (by have:=h.trees;omega) (fun x hx=>h.may x (aj x hx))) rfl).le (by omega)
   ·split
    ·unfold kg;split
     ·exact h.le (by omega)
     ·rename_i x hx;obtain⟨o,aj⟩:=Be (t:=x.t) h.may;exact h.wS (by omega) (by have:=h.trees;omega) aj
    ·unfold jN;split
     ·exact h.le (by omega)
     ·rename_i s hs;have o:=wT (lo:=bB s) (hi:=bB s+64) h;have d:=ru (v:=v) (lo:=bB s) (hi:=bB s+64) h.gF;simp only;split
      ·exact(h.rF d).le (by omega)
      ·split
       ·exact h.le (by omega)
       ·exact o.le (by omega)
theorem tH {K:Nat} {v:aV} (h:VK K v) (s:eC):VK (K+2) (eP v s):=by
 unfold eP;split
 ·split
  ·exact h.le (by omega)
  ·obtain⟨o,aj⟩:=Be (t:=(e4 (dD v.trees) s).1) h.may;exact h.wS (by omega) (by have:=h.trees;omega) aj
 ·split
  ·exact h.le (by omega)
  ·exact LM h s
theorem LN {ap:Nat} {id:Int} (h:ap≤15) (h0:0≤id) (o:id≤1000):VK 1 (eB ap id):={wait:=by show 0≤101*1;omega,last:=by show(List.replicate _ _).length≤1000;rw[k0];omega,arm:=by show(0:Int)≤1000;omega,jM:=ej 0,seq1:=by show(0:Int)≤1;omega,lT:=ej 0,jk:=by show(0:Int)≤10000;omega,jl:=ej 0,jm:=by show(0:Int)≤100;omega,gF:=ej 0,kh:=by show(0:Int)≤64;omega,n0:=ej 0,n1:=by show(0:Int)≤1;omega,trees:=by show 1≤1;omega,may:=fun x hx=>by rw[hB.1 hx];exact wP,rB:=h0,rC:=o,oT:=by show(0:Int)≤1;omega}
theorem tI {ap:Nat} {id:Int} (h:ap≤15) (h0:0≤id) (o:id≤1000):VK 3 (mK ap id).1:=by
 have aj:=wT (lo:=0) (hi:=0) (LN (ap:=ap) h h0 o);obtain⟨Y,A⟩:∃Y,Y=(cq (eB ap id) 0 0).1:=⟨_,rfl⟩
 show VK 3 {(cq (eB ap id) 0 0).1 with d:=(nM (cq (eB ap id) 0 0).1).1,n:=1};rw[←A]at aj⊢;have hs:=rq Y.d ⟨1,Y.seq,Y.sum,Y.aJ,Y.pos⟩;have j:=VK.rF aj (w:={Y with d:=(nM Y).1}) ⟨hs.1,by show(gu _ _).1.wait.length≤_;omega,hs.2.2⟩;exact{j with n0:=by show(0:Int)≤1;omega,n1:=by show(1:Int)≤3;omega}
theorem Bg {l:Bs}:∀(k n K:Nat) {v:aV},VK K v→VK (K+2*k) (kT l k n v)
 |0,n,K,v,h=>h
 |k+1,n,K,v,h=>by
  simp only[kT];split
  ·exact h.le (by omega)
  ·exact(Bg k _ (K+2) (tH h _)).le (by omega)
theorem LO:∀x∈p3,x.length≤10:=by decide
theorem wV (l:Bs) (n:Nat):(fk l n).1.length≤10:=by
 unfold fk;simp only;cases h:p3[(aM l n 15).1.toNat]? with
 |none=>exact cS _
 |some x=>exact LO x (km h)
theorem LP (l:Bs) (n:Nat):(kS l n).1.length≤121:=by
 unfold kS tG;simp only[hS,List.length_range];cases h:nO[(aM l n 8).1.toNat]? with
 |none=>exact cS _
 |some x=>obtain⟨o,aj⟩:=dS.1 h;show x≤121;rw[←aj];exact Ba o
theorem Bh {l:List Int} {j:Nat} {B:Int} (h:∀x∈l,x≤B) (d:0≤B):(l[j]?).getD 0≤B:=by
 cases hx:l[j]? with
 |none=>exact d
 |some x=>exact h x (km hx)
def tJ (s:eC):Prop:=rA s∧1≤s.kind∧s.kind≤15
theorem LQ {l:Bs} {kind:Int} {path:Bs} {n:Nat} (o:1≤kind) (aj:kind≤15) (hp:path.length≤10):tJ (gG l kind path n).1:=by
 have hd:=wV l n;have ht:=LP l (aM l n 8).2;have ho:=Bh (l:=oS) (j:=(aM l n 8).1.toNat) (B:=1000) (by decide) (by decide);have hc:=Bh (l:=p4) (j:=(aM l n 8).1.toNat) (B:=1000) (by decide) (by decide);unfold gG
 repeat' split
 all_goals exact⟨⟨by show path.length≤1000;omega,by first|(show 0≤1000;omega)|(show(fk l n).1.length≤1000;omega),by first|(show 0≤1000;omega)|(show(kS _ _).1.length≤1000;omega),by first|(show(0:Int)≤1000000;omega)|exact Int.le_trans ho (by decide)|exact Int.le_trans hc (by decide)⟩,o,aj⟩
theorem LR (l:Bs) (n:Nat):tJ (mM l n).1:=by
 have hk:=gb l n (m:=12) (by omega);unfold mM;have key:∀j<12,1≤(nP[j]?).getD 0∧(nP[j]?).getD 0≤15:=by decide
 have:=key (aM l n 12).1.toNat (by omega);exact LQ this.1 this.2 (wV l _)
theorem rG {k i:Int} {p:Bs} (o:1≤k) (aj:k≤15) (hp:p.length≤10):tJ (stepOf k i p):=⟨⟨by show p.length≤1000;omega,by show 0≤1000;omega,by show 0≤1000;omega,by show(0:Int)≤1000000;omega⟩,o,aj⟩
theorem LS (l:Bs) (n:Nat):tJ (lU l n).1:=by
 unfold lU iB;have d:([]:Bs).length≤10:=cS _;split
 ·exact LR _ _
 ·split
  ·exact rG (by decide) (by decide) d
  ·split
   ·exact rG (by decide) (by decide) d
   ·split
    ·have hk:=gb l (aM l n 20).2 (m:=2) (by omega);have key:∀j<2,1≤(nQ[j]?).getD 0∧(nQ[j]?).getD 0≤15:=by decide
     have:=key (aM l (aM l n 20).2 2).1.toNat (by omega);exact rG this.1 this.2 d
    ·split
     ·exact rG (by decide) (by decide) d
     ·have hk:=gb l (aM l n 20).2 (m:=3) (by omega);have key:∀j<3,1≤(mN[j]?).getD 0∧(mN[j]?).getD 0≤15:=by decide
      have:=key (aM l (aM l n 20).2 3).1.toNat (by omega);exact rG this.1 this.2 (wV _ _)
end Go.Ev
set_option maxHeartbeats 4000000
namespace Go.Ev
variable{F:Nat→Option aP} {O:Fz}
def jo (l:Bs) (ap dr:Nat):aV:=kT l dr 0 (mK ap 1).1
theorem Bi (l:Bs) {ap:Nat} (dr:Nat) (h:ap≤15):VK (3+2*dr) (jo l ap dr):=Bg dr 0 3 (tI h (by decide) (by decide))
theorem Bj [Fx F] {I:V} {l:Bs} {a:Pa} {ap dr:Nat} (hl:aa aU O I l) (al:l.length≤1000) (az:4≤ap) (av:ap≤12) (hm:dr≤400):
 ai F 10 [.ptr a 0,.j (ap:Int),.j (dr:Int)] O [gH a I 0] (fun r ψ R=>∃cs n,r=.agg cs∧bR ψ cs (jo l ap dr)∧R=[gH a I n]) never:=by
 have sl:=hl.ax;refine ar ?_;refine S.alloc fun aj=>?_;refine S.call (K2 (ap:=ap) (id:=1) az av (by decide) (by decide)) fun bi bl aR aI aw=>?_;obtain⟨rfl,aW,rfl,am⟩:=aw;have hl:=hl.mono aI;obtain⟨ao,au,ty,rfl,a8,be,bc,aL,aQ,aO,a1⟩:=am.open;have L:=tI (ap:=ap) (id:=1) (by omega) (by decide) (by decide);refine S.alloc fun ak=>?_;refine S.store (v:=.agg (bf ao au ty (mK ap 1).1)) 0 ?_ (hs:=cp aL aQ aO);refine SW.bF (fun m E ψ R=>∃(i n:Nat) (v:aV) (h A o:V),i+m=dr∧kT l m n v=jo l ap dr∧VK (3+2*i) v∧bR ψ (bf h A o v) v∧aa aU ψ I l∧R=[gH a I n,(some ak,.cells (bf h A o v) false),(some aj,.cells [.no .sl,.no .sl,.j 0,.bool false,.j 0,.j 0,.j 0,.j 0,.j 0,.j 0,.j 0,.no .sl] false)]∧Sub [(0,.ptr a 0),(2,.j (dr:Int)),(6,.ptr aj 0),(7,.ptr ak 0),(9,.j (i:Int))] E) (m:=dr) (.front 2 rfl (.done ⟨0,0,_,ao,au,ty,by omega,rfl,L,am,hl,rfl,.r rfl⟩)) ?_;intro Z E ψ R a6 aB;obtain⟨i,n,v,h,A,o,a2,M,L,hv,hl,rfl,aA⟩:=aB;refine C.sub aA ?_;refine S.bin ?_;refine G.mv ?_;refine G.LC rfl (fun _=>LD hl al) ?_;refine G.un ?_;refine G.and ?_;refine C.B (fun O2=>?_) fun O2=>?_
 ·simp at O2;obtain⟨k,rfl⟩:∃k,Z=k+1:=⟨Z-1,by omega⟩
  simp only[kT]at M;rw[ab (by omega)]at M;obtain⟨aH,aE,aF⟩:=LS l n;have aD:=L.LK (by omega);have aC:=tH L (lU l n).1;obtain⟨Y,ah,ac,d,Q,W,U⟩:=id hv;obtain⟨rfl,rfl,rfl⟩:h=Y∧A=ah∧o=ac:=by simp only[bf,nV]at d;exact⟨d.1,d.2.1,d.2.2.2.2.2.2.2.2.2.2.2.1⟩
  refine S.ag 1 ?_ (l:=bf h A o v);refine S.ba 0 rfl (LH (n:=n) hl al) fun bj bm aS bg D=>?_;obtain⟨D,rfl,rfl⟩:=D;have D:=D.symm;subst D;refine S.dg 1 ?_ (hs:=tD Q W U);refine S.call (LJ (eq:=[]) hv aD (aa.nil _) aH aE aF) fun bk bn aT aJ ay=>?_;obtain⟨rfl,aX,bh,rfl,an,ha⟩:=ay;obtain⟨lx,wx,tx,rfl,a7,bd,bb,aK,aP,aM,aZ⟩:=an.open;have hl:=hl.mono aJ;refine S.store (v:=.agg (bf lx wx tx (eP v (lU l n).1))) 1 ?_ (hs:=cp aK aP aM);refine S.bin ?_;exact⟨k,by omega,.done ⟨i+1,_,_,lx,wx,tx,by omega,M,aC.le (by omega),an,hl,rfl,.r rfl⟩⟩
 ·simp at O2;have e:v=jo l ap dr:=by
   rw[←M];cases Z with
   |zero=>rfl
   |succ k=>simp only[kT];rw[ae (O2 (by omega))]
  obtain⟨Y,ah,ac,d,Q,W,U⟩:=id hv;obtain⟨rfl,rfl,rfl⟩:h=Y∧A=ah∧o=ac:=by simp only[bf,nV]at d;exact⟨d.1,d.2.1,d.2.2.2.2.2.2.2.2.2.2.2.1⟩
  rw[←e];refine S.ag 1 ?_ (l:=bf h A o v);refine S.store (v:=.agg (bf h A o v)) 2 ?_ (hs:=cp Q.ax W.ax U.ax);exact⟨_,.cN 2 rfl rfl rfl rfl .nil,.only 0 ⟨_,n,rfl,hv,rfl⟩⟩
end Go.Ev
namespace Go.Ev
def jO (t:ao) (i:Int):cj:=if i<1∨(t.length:Int)<i then ef else nodeAt t i
def p6 (n:cj):Bool:=decide (0≤n.mode)&&decide (n.mode≤255)
def eQ (n:cj):Bool:=if n.kind=0 then decide (n=ef)else if n.kind=1 then decide (n.body.length≤120)&&p6 n else if n.kind=2 then(cv n.body).isSome&&p6 n else false
def oV (t:ao):Nat→Nat→List Int→List Int
 |0,_,nm=>nm
 |f+1,i,nm=>oV t f (i+1) ((aW t i).foldl bump nm)
def jq (t:ao):List Int:=oV t t.length 1 (List.replicate 10 0)
theorem tK (t:ao) (i:Int):aW t i=e3 (jO t i):=by
 unfold aW jO e3;by_cases h:i<1∨(t.length:Int)<i
 ·rw[ae h,ae (by omega)];(try rfl)
 ·rw[ab h];by_cases hk:(nodeAt t i).kind=2
  ·rw[ab (by omega),ae hk]
  ·rw[ae (by omega),ab hk]
theorem Bk:∀{l:List aX} {p:Option Bs} {s b:Bs},eu p s l=some b→b.length≤120
 |[],p,s,b,h=>by
  simp only[eu]at h;split at h
  ·cases h
  ·cases h;omega
 |e::l,p,s,b,h=>by
  simp only[eu]at h;split at h
  ·cases h
  ·exact Bk h
theorem LU {b:Bs} {l:List aX} (h:cv b=some l):b.length≤120:=by
 unfold cv at h;split at h
 ·cases h
 ·split at h
  ·rename_i aj;exact Bk aj
  ·cases h
theorem tL (n:cj):p6 n=true↔¬(n.mode<0∨255<n.mode):=by
 unfold p6;simp only[be,aR];omega
theorem LV (nm:List Int) (n:cj):ff nm n=if eQ n=true then some ((e3 n).foldl bump nm)else none:=by
 unfold ff eQ e3;by_cases h0:n.kind=0
 ·have hk:¬n.kind=2:=by omega
  rw[ae h0,ae h0,ab hk];by_cases hn:n=ef
  ·rw[ae hn,ae (by simpa using hn)];(try rfl)
  ·rw[ab hn,ab (by simpa using hn)]
 ·rw[ab h0,ab h0];by_cases o:n.kind=1
  ·have hk:¬n.kind=2:=by omega
   rw[ae o,ae o,ab hk];unfold j6;by_cases d:n.mode<0∨255<n.mode∨120<n.body.length
   ·rw[ae d,ab];intro h;simp only[be,aR,tL]at h;omega
   ·rw[ab d,ae]
    ·rfl
    ·simp only[be,aR,tL];omega
  ·rw[ab o,ab o];by_cases aj:n.kind=2
   ·rw[ae aj,ae aj,ae aj];cases hd:cv n.body with
    |none=>simp
    |some l=>
     have hl:=LU hd;simp only;unfold j6;by_cases d:n.mode<0∨255<n.mode∨120<n.body.length
     ·rw[ae d,ab];intro h;simp only[be,tL]at h;omega
     ·rw[ab d,ae]
      ·rfl
      ·simp only[be,tL];exact⟨rfl,by omega⟩
   ·rw[ab aj,ab aj,ab aj];simp
theorem Bl (t:ao):∀(f i:Nat) (nm:List Int),oV t (f+1) i nm=(aW t ((i+f:Nat):Int)).foldl bump (oV t f i nm)
 |0,i,nm=>rfl
 |f+1,i,nm=>by
  show oV t (f+1) (i+1) _=_;rw[Bl t f (i+1)];rw[show i+1+f=i+(f+1) by omega];(try rfl)
theorem Bm (t:ao):∀(l:List cj) (i:Nat) (nm:List Int),l=t.drop i→j7 l nm=if l.all eQ=true then some (oV t l.length (i+1) nm)else none
 |[],i,nm,_=>rfl
 |n::r,i,nm,h=>by
  have hi:i<t.length:=by
   apply Decidable.byContradiction;intro aj;rw[jS (by omega)]at h;cases h
  rw[bQ hi]at h;obtain⟨o,aj⟩:=List.cons.inj h;have hd:e3 n=aW t ((i+1:Nat):Int):=by
   rw[tK];unfold jO;rw[ab (by omega),ti hi,o]
  simp only[j7];rw[LV,k4];by_cases d:eQ n=true
  ·rw[ae d,d,gL];simp only;rw[Bm t r (i+1) _ aj,hd,b7];(try rfl)
  ·rw[ab d];have:eQ n=false:=by simpa using d
   rw[this];(try rfl)
theorem Bn (t:ao):pP t=if t.all eQ=true then some (jq t)else none:=Bm t t 0 _ rfl
def iD (s s':List Bool):Prop:=s.length=s'.length∧∀i:Nat,(s[i]?).getD false=true→(s'[i]?).getD false=true
theorem iD.refl (s:List Bool):iD s s:=⟨rfl,fun _ h=>h⟩
theorem iD.trans {a b c:List Bool} (h:iD a b) (k:iD b c):iD a c:=⟨h.1.trans k.1,fun i x=>k.2 i (h.2 i x)⟩
theorem iD.count:∀{s s':List Bool},iD s s'→s.count true≤s'.count true∧(s.count true=s'.count true→s=s')
 |[],[],_=>⟨aB _,fun _=>rfl⟩
 |[],_::_,h=>by cases h.1
 |_::_,[],h=>by cases h.1
 |a::s,b::s',h=>by
  have h0:=h.2 0;have hs:iD s s':=⟨by have:=h.1;simpa using this,fun i hi=>by have:=h.2 (i+1);simp at this;exact this hi⟩
  obtain⟨d,k2⟩:=hs.count;cases a<;>cases b<;>simp at h0⊢
  ·exact⟨d,k2⟩
  ·exact⟨by omega,by omega⟩
  ·exact⟨d,k2⟩
theorem Bo (s:List Bool) (e:aX):iD s (mark s e):=by
 unfold mark;refine⟨by simp,fun i hi=>?_⟩;rw[kn];split
 ·split
  ·rfl
  ·rename_i o aj;subst o;rw[o4 (by omega)]at hi;cases hi
 ·exact hi
theorem wW:∀(l:List aX) (s:List Bool),iD s (l.foldl mark s)
 |[],s=>.refl s
 |e::l,s=>(Bo s e).trans (wW l _)
theorem Bp:∀(l:List aX) (s:List Bool) (e:aX),e∈l→e.ino.toNat<s.length→((l.foldl mark s)[e.ino.toNat]?).getD false=true
 |[],s,e,he,_=>by cases he
 |a::l,s,e,he,hl=>by
  rw[gK];rcases bS.1 he with rfl|he
  ·refine(wW l _).2 _ ?_;unfold mark;rw[kn,ae rfl,ae hl];(try rfl)
  ·exact Bp l _ e he (by rw[←(Bo s a).1];exact hl)
theorem wX (t:ao) (s:List Bool) (i:Nat):iD s (jb t s i):=by
 unfold jb;split
 ·exact wW _ _
 ·exact .refl s
theorem wY (t:ao):∀(l:List Nat) (s:List Bool),iD s (l.foldl (jb t) s)
 |[],s=>.refl s
 |i::l,s=>(wX t s i).trans (wY t l _)
theorem Bq (t:ao):∀(l:List Nat) (s:List Bool) (i:Nat) (e:aX),i∈l→(s[i]?).getD false=true→e∈aW t i→s.length=10→((l.foldl (jb t) s)[e.ino.toNat]?).getD false=true
 |[],_,_,_,hi,_,_,_=>by cases hi
 |k::l,s,i,e,hi,hs,he,hl=>by
  rw[gK];have o:=kM e he;rcases bS.1 hi with rfl|hi
  ·refine(wY t l _).2 _ ?_;unfold jb;rw[ae hs];exact Bp _ _ e he (by omega)
  ·exact Bq t l _ i e hi ((wX t s k).2 i hs) he (by rw[←(wX t s k).1];exact hl)
theorem Br (t:ao) (s:List Bool):iD s (iw t s):=wY t _ s
theorem wZ (t:ao):∀(k:Nat) (s:List Bool),iD s (jI t k s)
 |0,s=>.refl s
 |k+1,s=>(Br t s).trans (wZ t k _)
theorem LW (t:ao) (k:Nat) (s:List Bool) (h:iw t s=s):jI t k s=s:=by
 induction k with
 |zero=>rfl
 |succ k d=>simp only[jI];rw[h];exact d
theorem Bt (t:ao):∀(k:Nat) (s:List Bool),iw t (jI t k s)=jI t k s∨s.count true+k≤(jI t k s).count true
 |0,s=>.inr (aB _)
 |k+1,s=>by
  by_cases h:iw t s=s
  ·left;rw[LW t (k+1) s h];exact h
  ·obtain⟨eH,Pf⟩:=(Br t s).count;have:s.count true≠(iw t s).count true:=fun e=>h (Pf e).symm;rcases Bt t k (iw t s)with o|o
   ·exact .inl o
   ·right;show _≤(jI t k (iw t s)).count true;omega
theorem w1 (t:ao):(eg t).length=10:=by
 have:=(wZ t 9 ((List.replicate 10 false).set 1 true)).1;unfold eg;rw[←this];simp
theorem Bu:∀(s:List Bool),s.length≤s.count true→∀i:Nat,i<s.length→(s[i]?).getD false=true
 |[],_,i,h=>by simp at h
 |a::s,h,i,hi=>by
  have:=s.count_le_length (a:=true);cases a
  ·simp at h;omega
  ·cases i with
   |zero=>rfl
   |succ i=>simp at h hi⊢;have:=Bu s h i hi;simpa using this
theorem LX (t:ao):iw t (eg t)=eg t∨10≤(eg t).count true:=by
 have h:=Bt t 9 ((List.replicate 10 false).set 1 true);have e:((List.replicate 10 false).set 1 true).count true=1:=by decide
 rw[e]at h;unfold eg;exact h
theorem oW {i:Nat}:i∈[1,2,3,4,5,6,7,8,9]↔1≤i∧i≤9:=by
 simp only[bS,tZ,or_false];omega
theorem LY {t:ao} {i:Nat} {e:aX} (o:1≤i) (d:i≤9) (hs:((eg t)[i]?).getD false=true) (he:e∈aW t i):((eg t)[e.ino.toNat]?).getD false=true:=by
 have j:=kM e he;rcases LX t with h|h
 ·have:=Bq t [1,2,3,4,5,6,7,8,9] (eg t) i e (oW.2 ⟨o,d⟩) hs he (w1 t);change ((iw t (eg t))[e.ino.toNat]?).getD false=true at this
  rwa [h]at this
 ·exact Bu _ (by rw[w1];exact h) _ (by rw[w1];omega)
theorem Bv (t:ao):((eg t)[1]?).getD false=true:=by
 have:=(wZ t 9 ((List.replicate 10 false).set 1 true)).2 1 (by decide);exact this
theorem Bw {t:ao}:∀{n:Nat} {i:Int},Dn t n i→1≤i∧i≤9∧((eg t)[i.toNat]?).getD false=true
 |_,_,.root=>⟨by omega,by omega,Bv t⟩
 |_,_,.step (p:=p) hp he=>by
  obtain⟨o,h,hs⟩:=Bw hp;have d:=kM _ he;refine⟨d.1,d.2,?_⟩;have:((p.toNat:Nat):Int)=p:=by omega
  exact LY (i:=p.toNat) (by omega) (by omega) hs (by rw[this];exact he)
theorem Bx {t:ao} {i:Nat}:((eg t)[i]?).getD false=true↔∃n,Dn t n i:=
 ⟨fun h=>let⟨n,_,aj⟩:=A1 i h;⟨n,aj⟩,fun⟨n,h⟩=>by have:=(Bw h).2.2;rwa [hC]at this⟩
inductive Rf (t:ao) (i:Int):Int→Prop
 |refl:Rf t i i
 |step {p:Int} {e:aX}:Rf t i p→e∈aW t p→Rf t i e.ino
theorem Rf.trans {t:ao} {a b:Int} (h:Rf t a b):∀{c:Int},Rf t b c→Rf t a c
 |_,.refl=>h
 |_,.step hp he=>.step (h.trans hp) he
theorem Rf.By {t:ao}:∀{i:Int},Rf t 1 i→∃n,Dn t n i
 |_,.refl=>⟨0,.root⟩
 |_,.step hp he=>let⟨n,h⟩:=hp.By;⟨n+1,.step h he⟩
def left (S:List Int):Nat:=([1,2,3,4,5,6,7,8,9].filter (fun x:Int=>!decide (x∈S))).length
theorem w2 {p q:Int→Bool} (h:∀x,q x=true→p x=true):∀l:List Int,(l.filter q).length≤(l.filter p).length∧(∀x∈l,p x=true→q x=false→(l.filter q).length<(l.filter p).length)
 |[]=>⟨aB _,fun x hx=>by cases hx⟩
 |a::l=>by
  obtain⟨o,aj⟩:=w2 h l;rw[qf,qf];have ha:=h a;refine⟨?_,fun x hx hp hq=>?_⟩
  ·cases j:q a<;>cases d:p a<;>simp[j,d]at ha⊢<;>omega
  ·rcases bS.1 hx with rfl|hx
   ·rw[hp,hq];simp;omega
   ·have:=aj x hx hp hq;cases j:q a<;>cases d:p a<;>simp[j,d]at ha⊢<;>omega
theorem LZ {S S':List Int} (h:∀x∈S,x∈S'):left S'≤left S:=(w2 (fun x hx=>by simp at hx⊢;exact fun hm=>hx (h x hm)) _).1
theorem L0 {S:List Int} {i:Int} (o:1≤i) (d:i≤9) (hi:i∉S):left (S++[i])<left S:=
 (w2 (fun x hx=>by simp at hx⊢;exact hx.1) _).2 i (by simp only[bS];omega) (by simpa using hi) (by simp)
structure Rd (t:ao) (i:Int) (S S':List Int):Prop where
 sub:∀x∈S,x∈S'
 at_:i∈S'
 rH:∀x∈S',x∉S→∀e∈aW t x,e.ino∈S'
 fr:∀x∈S',x∈S∨Rf t i x
theorem Rd.there {t:ao} {i:Int} {S:List Int} (h:i∈S):Rd t i S S:=⟨fun _ h=>h,h,fun _ o aj=>absurd o aj,fun _ h=>.inl h⟩
structure Rs (t:ao) (i:Int) (S S1:List Int) (j:Nat):Prop where
 sub:∀x∈S,x∈S1
 at_:i∈S1
 rH:∀x∈S1,x∉S→x≠i→∀e∈aW t x,e.ino∈S1
 fr:∀x∈S1,x∈S∨Rf t i x
 go:∀e∈(aW t i).take j,e.ino∈S1
theorem Rs.start {t:ao} {i:Int} {S:List Int}:Rs t i S (S++[i]) 0:=
 ⟨fun x h=>List.mem_append_left _ h,by simp,fun x o aj d=>by simp at o;rcases o with o|o;exact absurd o aj;exact absurd o d,fun x h=>by simp at h;rcases h with h|h;exact .inl h;subst h;exact .inr .refl,fun e he=>by simp at he⟩
theorem Rs.step {t:ao} {i:Int} {S S1 d:List Int} {j:Nat} (h:Rs t i S S1 j) (hj:j<(aW t i).length) (aj:Rd t (aW t i)[j].ino S1 d):Rs t i S d (j+1):=by
 refine⟨fun x hx=>aj.sub x (h.sub x hx),aj.sub _ h.at_,fun x hx A hi e he=>?_,fun x hx=>?_,fun e he=>?_⟩
 ·by_cases o:x∈S1
  ·exact aj.sub _ (h.rH x o A hi e he)
  ·exact aj.rH x hx o e he
 ·rcases aj.fr x hx with o|o
  ·exact h.fr x o
  ·exact .inr (Rf.trans (.step .refl (cw hj)) o)
 ·rw[fm hj]at he;rcases fK.1 he with he|he
  ·exact aj.sub _ (h.go e he)
  ·simp at he;subst he;exact aj.at_
theorem Rs.done {t:ao} {i:Int} {S S1:List Int} {j:Nat} (h:Rs t i S S1 j) (hj:(aW t i).length≤j):Rd t i S S1:=by
 refine⟨h.sub,h.at_,fun x hx d e he=>?_,h.fr⟩;by_cases hi:x=i
 ·subst hi;exact h.go e (by rw[kk hj];exact he)
 ·exact h.rH x hx d hi e he
theorem Rd.root {t:ao} {S:List Int} (h:Rd t 1 [] S) (i:Nat):decide ((i:Int)∈S)=((eg t)[i]?).getD false:=by
 rw[kp,aR,Bx];constructor
 ·intro hi;rcases h.fr _ hi with o|o
  ·cases o
  ·exact o.By
 ·rintro⟨n,hn⟩;have key:∀{n:Nat} {i:Int},Dn t n i→i∈S:=by
   intro n;induction n with
   |zero=>intro i hd;cases hd;exact h.at_
   |succ n d=>intro i hd;cases hd with|step hp he=>exact h.rH _ (d hp) (by simp) _ he
  exact key hn
def lV (t:ao) (i:Nat):Bool:=
 let there:=!decide ((nodeAt t i).kind=0)
 let n:=((jq t)[i]?).getD 0
 (there !=((eg t)[i]?).getD false)||(!there&&decide (0<n))||(decide ((nodeAt t i).kind=2)&&decide (1<i)&&!decide (n=1))
theorem Bz (t:ao) (h:t.all eQ=true) {c:Nat} (hc:c<10):((jq t)[c]?).getD 0=(((t.map (fun n=>iA c (e3 n))).sum:Nat):Int):=by
 have hn:=Bn t;rw[ae h]at hn;have:=wK t (c:=c) (nm:=List.replicate 10 0) (by rw[k0];exact hc) hn;rw[this];rw[tY,ae hc];simp
theorem BA {f:cj→Nat}:∀{t:List cj} {i:Nat} (hi:i<t.length),1≤f t[i]→1≤(t.map f).sum
 |[],i,hi,_=>absurd hi (by simp)
 |a::t,i,hi,h=>by
  rw[eD,ql];cases i with
  |zero=>have h':1≤f a:=h;omega
  |succ i=>have:=BA (f:=f) (t:=t) (i:=i) (by simpa using hi) (by simpa using h);omega
theorem BB (t:ao):bH t=(decide (t.length=9)&&decide ((nodeAt t 1).kind=2)&&t.all eQ&&([1,2,3,4,5,6,7,8,9].all (fun i=>!lV t i))&&decide (((jq t)[1]?).getD 0=0)):=by
 unfold bH;by_cases o:t.length=9∧(nodeAt t 1).kind=2
 ·rw[ae o,Bn];by_cases d:t.all eQ=true
  ·rw[ae d,d];simp only[o.1,o.2,decide_true,gL];have D:∀c:Nat,c<10→0≤((jq t)[c]?).getD 0:=fun c hc=>by rw[Bz t d hc];omega
   have F:∀i:Nat,2≤i→i≤9→((eg t)[i]?).getD false=true→0<((jq t)[i]?).getD 0:=fun i aj j hs=>by
    obtain⟨n,hn⟩:=Bx.1 hs;generalize hz:(i:Int)=z at hn;cases hn with
    |root=>omega
    |step hp he=>
     obtain⟨k,hk,_,hd,_⟩:=rz he;rw[Bz t d (by omega)];have:=BA (f:=fun n=>iA i (e3 n)) hk (tE hd (by omega));omega
   have A:∀i:Nat,1≤i→i≤9→(jJ t (jq t) (eg t) i=false↔lV t i=false∧(i=1→((jq t)[i]?).getD 0=0)):=by
    intro i I j;have hp:=D i (by omega);have hs:=F i;have hr:i=1→((eg t)[i]?).getD false=true∧(nodeAt t i).kind=2:=fun e=>by subst e;exact⟨Bv t,o.2⟩
    unfold jJ lV;generalize ((jq t)[i]?).getD 0=n at*;generalize ((eg t)[i]?).getD false=G at*;generalize (nodeAt t i).kind=k at*;simp only[cg,iF,bD,du,c3,aR,bne_eq_false_iff_eq];by_cases B:k=0<;>cases G<;>simp[B]at*<;>omega
   rw[kp];simp only[eU,be,c3,aR];constructor
   ·intro h;exact⟨fun i hi=>((A i (oW.1 hi).1 (oW.1 hi).2).1 (h i hi)).1,((A 1 (by omega) (by omega)).1 (h 1 (by simp))).2 rfl⟩
   ·intro h i hi;exact(A i (oW.1 hi).1 (oW.1 hi).2).2 ⟨h.1 i hi,fun e=>by subst e;exact h.2⟩
  ·rw[ab d];have:t.all eQ=false:=by simpa using d
   rw[this];simp
 ·rw[ab o];by_cases j:t.length=9
  ·have:(nodeAt t 1).kind≠2:=fun h=>o ⟨j,h⟩;simp[this]
  ·simp[j]
end Go.Ev
namespace Go.Ev
def recAt (d:au) (h:bA) (p:ah):Option bA:=match(bP d p.addr p.gen).bind eh with
 |none=>none
 |some r=>if r.ino≠h.ino∨r.idx≠h.idx then none else some r
def e5 (d:au):List ah→List bO→Option (List bO)
 |[],an=>some an
 |q::r,an=>match(bP d q.addr q.gen).bind dp with
  |none=>none
  |some l=>e5 d r (an++l)
def fI (d:au):List bO→List bA→Option (List bA)
 |[],h=>some h
 |i::l,h=>match recAt d i.1 i.2 with
  |none=>none
  |some r=>fI d l (h++[r])
def jP (d:au) (p:ah):Option (gY×List ah):=match(bP d p.addr p.gen).bind dJ with
 |none=>none
 |some (r,q)=>match e5 d q []with
  |none=>none
  |some an=>match fI d an []with
   |none=>none
   |some cP=>match ei cP with
    |none=>none
    |some t=>some (⟨r,an,t⟩,q++an.map (·.2))
theorem BC (d:au):∀(l:List bO) (h:List bA),kb d l h=fI d l h
 |[],h=>rfl
 |i::l,h=>by
  simp only[kb,fI];unfold recAt;cases (bP d i.2.addr i.2.gen).bind eh with
  |none=>rfl
  |some r=>
   simp only;split
   ·rfl
   ·exact BC d l _
theorem w3 (d:au) (b:List bO):∀(a:List bO) (h:List bA),fI d (a++b) h=(fI d a h).bind (fI d b)
 |[],h=>rfl
 |i::a,h=>by
  simp only[k3,fI];cases recAt d i.1 i.2 with
  |none=>rfl
  |some r=>exact w3 d b a _
theorem w4 (d:au):∀(q:List ah) (an:List bO),e5 d q an=(e5 d q []).map (an++·)
 |[],an=>by simp[e5]
 |p::q,an=>by
  simp only[e5];cases (bP d p.addr p.gen).bind dp with
  |none=>rfl
  |some l=>
   simp only;rw[w4 d q (an++l),w4 d q ([]++l)];cases e5 d q []with
   |none=>rfl
   |some m=>simp
theorem BD (d:au):∀(q:List ah) (an:List bO) (cP:List bA),eN d q an cP=(e5 d q []).bind (fun l=>(fI d l cP).map (fun rs=>(an++l,rs)))
 |[],an,cP=>by simp[eN,e5,fI]
 |p::q,an,cP=>by
  simp only[eN,e5];cases (bP d p.addr p.gen).bind dp with
  |none=>rfl
  |some l=>
   simp only;rw[BC,w4 d q ([]++l)];cases hr:fI d l cP with
   |none=>
    simp only;cases e5 d q []with
    |none=>rfl
    |some m=>simp[w3,hr]
   |some h=>
    simp only;rw[BD d q];cases e5 d q []with
    |none=>rfl
    |some m=>
     simp only[l3,dM,fo,w3,hr];cases fI d m h with
     |none=>rfl
     |some z=>simp
theorem BE (d:au) (p:ah):jP d p=lR d p:=by
 unfold jP lR;cases (bP d p.addr p.gen).bind dJ with
 |none=>rfl
 |some x=>
  obtain⟨r,q⟩:=x;simp only;rw[BD];cases e5 d q []with
  |none=>rfl
  |some an=>
   simp only[l3];cases fI d an []with
   |none=>rfl
   |some cP=>rfl
theorem tM {d:au} {a g:Int} {x:aT} (h:bP d a g=some x) (o:0≤g):x.gen=g:=by
 unfold bP at h;split at h
 ·split at h
  ·cases h
  ·split at h
   ·cases h
   ·rename_i aj;cases h;apply Decidable.byContradiction;intro j;exact aj ⟨o,j⟩
 ·cases h
theorem w5 {p:ah} (h:dI p=true):0≤p.gen:=(wM h).1
theorem BF {x:aT} {r:cK} {q:List ah} (h:dJ x=some (r,q)):∀p∈q,0≤p.gen:=by
 unfold dJ at h;split at h
 ·rename_i o;cases h;by_cases hr:kQ x.gen (fj x.load).1 (fj x.load).2.1=true
  ·unfold kQ at hr;simp only[be]at hr;intro p hp;exact w5 (eU.1 hr.2 p hp)
  ·have d:=o.2.2;unfold ey at d;rw[ab hr]at d;have:=o.1;rw[←d]at this;cases this
 ·cases h
theorem BG {x:aT} {n i:Int} {q:List ah} (h:c0 x=some (n,i,q)):∀p∈q,0≤p.gen:=by
 unfold c0 at h;split at h
 ·rename_i o;cases h;by_cases hr:kR x.gen (dC x.load).1 (dC x.load).2.1 (dC x.load).2.2.1=true
  ·unfold kR at hr;simp only[be]at hr;intro p hp;exact w5 (eU.1 hr.2 p hp)
  ·have d:=o.2.2;unfold eM at d;rw[ab hr]at d;have:=o.1;rw[←d]at this;cases this
 ·cases h
theorem L1 {gen:Int} {x:aT}:∀{f:Nat} {l:List bO},l.length≤f→gC gen f l=[x]→l.length≤6∧gW gen l=x
 |0,l,hl,h=>by cases l with
  |nil=>cases h
  |cons a l=>simp at hl
 |f+1,[],hl,h=>by cases h
 |f+1,a::l,hl,h=>by
  simp only[gC,nV]at h;have d:(a::l).length≤6:=by
   apply Decidable.byContradiction;intro hc;have hd:((a::l).drop 6).length≠0:=by rw[bW];omega
   cases hq:(a::l).drop 6 with
   |nil=>rw[hq]at hd;exact hd rfl
   |cons b m=>
    rw[hq]at h;cases f with
    |zero=>simp at hl;subst hl;simp at hc
    |succ f=>simp[gC]at h
  exact⟨d,by rw[←h.1,kk d]⟩
theorem BH {x:aT} {l:List bO} (h:dp x=some l):l.length≤6∧∀i∈l,0≤i.2.gen:=by
 unfold dp at h;split at h
 ·rename_i o;split at h
  ·rename_i aj;cases h;obtain⟨j,k2⟩:=L1 (aB _) aj.2;refine⟨j,?_⟩;unfold gW at k2;split at k2
   ·rename_i d;simp only[be]at d;intro i hi;have:=eU.1 d.2 i hi;unfold kP at this;simp only[be]at this;exact w5 this.2
   ·have:=o.1;rw[←k2]at this;cases this
  ·cases h
 ·cases h
theorem w6 {d:au}:∀{q:List ah} {an j:List bO},e5 d q an=some j→j.length≤an.length+6*q.length∧((∀i∈an,0≤i.2.gen)→∀i∈j,0≤i.2.gen)
 |[],an,j,h=>by cases h;exact⟨aB _,id⟩
 |p::q,an,j,h=>by
  simp only[e5]at h;split at h
  ·cases h
  ·rename_i l hl;obtain⟨b,_,A⟩:=gf.1 hl;obtain⟨B,k2⟩:=BH A;obtain⟨o,aj⟩:=w6 h;rw[c2]at o;refine⟨by rw[b7];omega,fun ha=>aj fun i hi=>?_⟩;rcases fK.1 hi with hi|hi
   ·exact ha i hi
   ·exact k2 i hi
theorem L2 {x:aT} {r:bA} (h:eh x=some r):0≤r.idx:=by
 unfold eh at h;split at h
 ·split at h
  ·cases h;unfold lQ;exact Int.natCast_nonneg _
  ·cases h
 ·cases h
theorem L3 {d:au} {h:bA} {p:ah} {r:bA} (hr:recAt d h p=some r):r.load.length≤60∧0≤r.idx:=by
 unfold recAt at hr;split at hr
 ·cases hr
 ·rename_i y A;split at hr
  ·cases hr
  ·cases hr;obtain⟨b,o,j⟩:=gf.1 A;have:=Aa j;have:=kd o;exact⟨by omega,L2 j⟩
def iE (d:au):List ah→List gY→List ah→Option (List gY×List ah)
 |[],j,h=>some (j,h)
 |p::r,j,h=>match jP d p with
  |none=>none
  |some (x,l)=>iE d r (j++[x]) (h++p::l)
structure oX where
 next:Int
 id:Int
 trees:List gY
 all:List ah
def eR (d:au) (sum:Int):Option oX:=match bP d sum (-1)with
 |none=>none
 |some x=>match c0 x with
  |none=>none
  |some (next,id,p)=>(iE d p [] [⟨sum,x.gen⟩]).map (fun y=>⟨next,id,y.1,y.2⟩)
end Go.Ev
set_option maxHeartbeats 1000000
namespace Go.Ev
variable{F:Nat→Option aP} {O:Fz}
theorem L4 {q:cy} {x:Int} {k:Nat} (h0:0≤x) (o:x<256) (hk:k≤3):b0 .shl q (.j x) (.j (8*(k:Int)))=some (.j (x*256^k)):=by
 show nc true .i64 x (8*(k:Int))=_;have hl:gM (8*(k:Int)) 0=false:=by rw[mf];simp;omega
 simp only[nc,hl,bw,aE];have d:(8*(k:Int)).toNat=8*k:=by omega
 have A:min (8*k) (IntKind.bits .i64)=8*k:=by simp[IntKind.bits];omega
 have B:(2:Int)^(8*k)=256^k:=by
  have:(256:Nat)^k=2^(8*k):=by rw[Nat.pow_mul]
  have h:=congrArg (fun(n:Nat)=>(n:Int)) this;simp only[rX]at h;exact h.symm
 rw[d,A,B];have hw:∀z:Int,0≤z→z<4294967296→IntKind.wrap .i64 z=z:=fun z a b=>by
  rw[←nr];exact qT (by omega) (by omega)
 have hp:(256:Int)^k≤16777216:=by
  have:k=0∨k=1∨k=2∨k=3:=by omega
  rcases this with rfl|rfl|rfl|rfl<;>decide
 have D:(0:Int)<256^k:=Int.pow_pos (by decide);have hm:x*256^k≤255*16777216:=Int.mul_le_mul (by omega) hp (by omega) (by omega);rw[hw _ (Int.mul_nonneg h0 (by omega)) (by omega)]
theorem L5 {q:cy} {a b:Nat} {k:Nat} (ha:a<256^k) (B:b<256) (hk:k≤3):b0 .or q (.j (a:Int)) (.j ((b:Int)*256^k))=some (.j ((a+b*256^k:Nat):Int)):=by
 show(if cr .i64 .i64 then some (V.j (IntKind.wrap .i64 (BitVec.ofInt 64 (a:Int)|||BitVec.ofInt 64 ((b:Int)*256^k)).toNat))else none)=_;rw[ae (show cr .i64 .i64=true from rfl)];have h:((b:Int)*256^k)=((b*256^k:Nat):Int):=by simp
 have d:(256:Nat)^k=2^(8*k):=by rw[Nat.pow_mul]
 have A:(256:Nat)^k≤16777216:=by
  have:k=0∨k=1∨k=2∨k=3:=by omega
  rcases this with rfl|rfl|rfl|rfl<;>decide
 have hm:b*256^k≤255*16777216:=nW (by omega) A;rw[h,BitVec.ofInt_natCast,BitVec.ofInt_natCast];have o:(BitVec.ofNat 64 a|||BitVec.ofNat 64 (b*256^k)).toNat=a+b*256^k:=by
  rw[BitVec.toNat_or,BitVec.toNat_ofNat,BitVec.toNat_ofNat,qd (by omega),qd (by omega),Nat.or_comm,d,Nat.mul_comm,←Nat.two_pow_add_eq_or_of_lt (by rw[←d];exact ha)];omega
 rw[o,←nr,sQ .i64 (show a+b*256^k≤9223372036854775807 by omega)]
theorem aa.nil? {U:Type} {e:bG U} {v:V} {b:List U} (h:aa e O v b):∃q,b0 .eql .slice v (.no .sl)=some (.bool q)∧(q=true→b=[]):=by
 rcases h.2 with⟨rfl,hn⟩|⟨a,I,c,_,_,rfl,_⟩
 ·exact⟨true,rfl,fun _=>e8 hn⟩
 ·exact⟨false,rfl,fun h=>by cases h⟩
theorem BI [Fx F] {d:V} {b:Bs} (h:aa aU O d b) (I:b.length≤1000000):ai F 218 [d] O [] (fun r ψ R=>ψ=O∧∃s,R=[aU.ob s (b)]∧af aU r (b) s) never:=by
 obtain⟨q,j,o⟩:=h.nil?;refine ai.same (ar ?_);refine S.bin ?_ (v:=.bool q) (hv:=j);refine C.B (fun O9=>?_) fun O9=>?_
 ·obtain rfl:=o O9;exact⟨_,.t rfl .nil,.new aU (.done ⟨none,rfl,af.nil⟩)⟩
 ·refine S.a8 fun a5=>?_;have A:af aU (.sl a5 0 0 (.ex 0)) [] (some a5):=af.new rfl;refine S.br 0 A (.f h) (by simp;omega) fun L G D=>?_;exact⟨_,.t rfl .nil,.only 0 ⟨G,rfl,D⟩⟩
theorem rI [Fx F] {I h:V} {b:Bs} {n:Nat} {l:List Int} (M:aa aU O I b) (hl:aa bt O h l) (hn:1≤n) (an:n≤4) (al:b.length+l.length*n≤1000000) (am:l.length≤1000000):ai F 170 [I,.j (n:Int),h] O [] (fun r ψ R=>ψ=O∧∃s,R=[aU.ob s (b++bo n l)]∧af aU r (b++bo n l) s) never:=by
 refine ai.same (ar ?_);refine S.call (BI M (by omega)) fun ae au ah ao d=>?_;obtain⟨d,ab,rfl,Y⟩:=d;have d:=d.symm;subst d;refine S.bin ?_;refine G.mv ?_;refine G.bin ?_;refine G.or ?_;refine C.B (fun O1=>?_) fun O1=>?_
 ·exfalso;simp at O1;omega
 ·refine S.len ?_ (hl:=aa.len hl);refine SW.bF (fun m E ψ R=>∃(j:Nat) (v:V) (s:Option Pa),j+m=l.length∧O=ψ∧R=[aU.ob s (b++bo n (l.take j))]∧af aU v (b++bo n (l.take j)) s∧Sub [(0,v),(1,.j (n:Int)),(19,h),(20,.j (l.length:Int)),(21,.j (j:Int))] E) (m:=l.length) (.done ⟨0,ae,ab,by omega,rfl,by simp[bo],by simpa[bo]using Y,.r rfl⟩) ?_;intro U E ψ R Q A;obtain⟨j,v,s,hj,rfl,rfl,ho,o⟩:=A;refine C.sub o ?_;refine S.bin ?_;refine C.D (fun O2=>?_) fun O2=>?_
  ·have hc:j<l.length:=by omega
   have L:b.length+(j+1)*n≤1000000:=by have:=o6 n (show j+1≤l.length from hc);omega
   have hlen:(b++bo n (l.take j)).length=b.length+j*n:=by rw[c2,fW,cE,hD (by omega)]
   rw[iH,pd]at L;refine S.aF hl hc fun ap ak=>?_;refine S.a1 ?_;refine SW.bF (fun m E ψ R=>∃(i:Nat) (v:V) (s:Option Pa),i+m=n∧O=ψ∧R=[aU.ob s (b++bo n (l.take j)++le i l[j])]∧af aU v (b++bo n (l.take j)++le i l[j]) s∧Sub [(0,v),(1,.j (n:Int)),(8,.j l[j]),(19,h),(20,.j (l.length:Int)),(21,.j (j:Int)),(25,.j (n:Int)),(26,.j (i:Int))] E) (m:=n) (.done ⟨0,v,s,by omega,rfl,by simp[le],by simpa[le]using ho,.r rfl⟩) ?_;intro W E ψ R Q A;obtain⟨i,v,s,hi,rfl,rfl,ho,o⟩:=A;refine C.sub o ?_;refine S.bin ?_;refine C.D (fun Pd=>?_) fun Pd=>?_
   ·refine S.bin ?_;refine S.bin ?_ (hv:=zi (by omega));refine S.mH ?_;refine S.a8 fun aj=>?_;refine S.br (m:=[bM (l[j]/256^i)]) 1 ho (.lit 0) (by rw[c2,hlen,fz];simp;omega) fun ag ac Z=>?_;refine S.drop 0 ?_;refine S.mv ?_;refine S.bin ?_;refine⟨W-1,by omega,.done ⟨i+1,ag,ac,by omega,rfl,by rw[s9,←bp]<;>rfl,by rw[s9,←bp];exact Z,.r rfl⟩⟩
   ·refine S.bin ?_;obtain rfl:i=n:=by omega
    refine⟨U-1,by omega,.done ⟨j+1,v,s,by omega,rfl,?_,?_,.r rfl⟩⟩
    ·rw[tj hc,ta,←bp]
    ·rw[tj hc,ta,←bp];exact ho
  ·obtain rfl:j=l.length:=by omega
   rw[dT]at ho⊢;exact⟨_,.t rfl .nil,.only 0 ⟨s,rfl,ho⟩⟩
theorem tN [Fx F] {d:V} {b:Bs} {n:Nat} (A:aa aU O d b) (hn:n≤1000) (ak:b.length≤1000000):bm F 164 [d,.j (n:Int)] O (.aN [.j (cf b n).1,.bool (cf b n).2]):=by
 refine ai.al (ar ?_);refine S.bin ?_;refine G.mv ?_;refine G.bin ?_;refine G.or ?_;refine G.mv ?_;refine G.len ?_ (hl:=aa.len A);refine G.mv ?_;refine G.bin ?_;refine G.or ?_;refine C.B (fun Pb=>?_) fun Pb=>?_
 ·have e:cf b n=(0,false):=by unfold cf;simp only[cx,aR]at Pb;exact ae (by omega)
  rw[e];exact⟨_,.t rfl (.t rfl .nil),.done rfl⟩
 ·simp only[cg,bD]at Pb;have e:cf b n=(dB (b.take n),true):=by unfold cf;exact ab (by omega)
  obtain⟨Z,o⟩:∃Z,Z=dB (b.take n):=⟨_,rfl⟩
  rw[e,←o];have an:(b.take n).length=n:=by rw[cE];omega
  obtain⟨w,hw,h⟩:=aa.hi A (j:=n) (by omega);refine S.slice hw ?_;refine S.len ?_ (hl:=aa.len h);refine SW.bF (fun m E ψ R=>∃k a:Nat,k+m=n∧dB ((b.take n).take k)=(a:Int)∧O=ψ∧R=[]∧Sub [(6,.j (a:Int)),(23,w),(24,.j ((b.take n).length:Int)),(25,.j (k:Int))] E) (m:=n) (.done ⟨0,0,by omega,rfl,rfl,rfl,.r rfl⟩) ?_;intro ag E ψ R am M;obtain⟨k,a,hk,ha,rfl,rfl,L⟩:=M;refine C.sub L ?_;refine S.bin ?_;refine C.D (fun Pj=>?_) fun Pj=>?_
  ·have hj:k<(b.take n).length:=by omega
   have U:=vH ((b.take n).take k);have I:((b.take n).take k).length=k:=by rw[cE];omega
   rw[I,ha]at U
   have W:a<256^k:=by
                      have aj:(256:Int)^k=((256^k:Nat):Int):=by rw[rX];(try rfl)
                      omega
   have ac:dB ((b.take n).take (k+1))=(a:Int)+(((b.take n)[k]).toNat:Int)*256^k:=by rw[fm hj,Jt,I,ha]
   refine S.aF h hj fun ao ah=>?_;refine S.a1 ?_;refine S.iY ?_;refine S.bin ?_;refine S.bin ?_ (hv:=L4 (k:=k) (by omega) (by have:=o7 (b.take n)[k];omega) (by omega));refine S.bin ?_ (hv:=L5 W (o7 _) (by omega));refine S.bin ?_;refine⟨ag-1,by omega,.done ⟨k+1,a+((b.take n)[k]).toNat*256^k,by omega,by rw[ac];simp,rfl,rfl,.r rfl⟩⟩
  ·have Y:k=n:=by omega
   have Q:Z=(a:Int):=by rw[o,←ha,Y,List.take_take,Nat.min_self]
   subst Q;refine⟨_,.t rfl (.t rfl .nil),.done ?_⟩;rfl
theorem BJ [Fx F] {h:V} {b tx:Bs} (o:aa aU O h b) (Q:b.length≤500000) (hs:tx.length≤500000):ai F 214 [h,.str tx] O [] (fun r ψ R=>ψ=O∧∃s,R=[aU.ob s (gp b tx)]∧af aU r (gp b tx) s) never:=by
 refine ai.same (ar ?_);refine S.call (BI o (by omega)) fun ac ag L U d=>?_;obtain⟨d,I,rfl,j⟩:=d;have d:=d.symm;subst d;refine S.cb ?_;refine S.bin ?_;refine C.D (fun O7=>?_) fun O7=>?_
 ·have e:gp b tx=b:=by unfold gp;exact ae (by omega)
  rw[e];exact⟨_,.t rfl .nil,.only 0 ⟨I,rfl,j⟩⟩
 ·refine S.cb ?_;refine S.mH ?_;refine S.a8 fun M=>?_;refine S.br (m:=[bM (tx.length:Int)]) 1 j (.lit 0) (by simp;omega) fun Y W A=>?_;refine S.drop 0 ?_;refine S.mv ?_;refine S.br 0 A (.s tx) (by simp;omega) fun Z G B=>?_;have e:gp b tx=b++[bM (tx.length:Int)]++tx:=by unfold gp;rw[ab (by omega)];(try rfl)
  rw[e];exact⟨_,.t rfl .nil,.only 0 ⟨G,rfl,B⟩⟩
end Go.Ev
set_option maxHeartbeats 1000000
namespace Go.Ev
variable{F:Nat→Option aP} {O:Fz}
def lW (b:Bs):Bs×Nat×Bool:=match b with
 |[]=>([],0,false)
 |c::r=>if r.length<c.toNat then([],0,false)else(r.take c.toNat,1+c.toNat,true)
theorem BK:∀(l:List aX) (p:Option Bs) (s:Bs),120<s.length→eu p s l=none
 |[],p,s,h=>by simp only[eu];rw[ae h]
 |e::l,p,s,h=>by
  simp only[eu];rw[ae];unfold mE;simp[h]
def oY (p:Option Bs) (e:aX):Bool:=!et e.name||decide (e.ino<1)||decide (9<e.ino)||(match p with|some p=>!iu p e.name|none=>false)
theorem BL (p:Option Bs) (e:aX) (s:Bs):mE p e s=(oY p e||decide (120<s.length)):=by unfold mE oY;cases p<;>rfl
theorem L6 {p:Option Bs} {e:aX} {r:List aX} {s:Bs} (h:oY p e=false):eu p s (e::r)=eu (some e.name) (s++oG e) r:=by
 by_cases hs:120<s.length
 ·rw[BK _ _ _ hs,BK _ _ _ (by rw[c2];omega)]
 ·simp only[eu];rw[ab];rw[BL,h];simp[hs]
theorem L7 {p:Option Bs} {e:aX} {r:List aX} {s:Bs} (h:oY p e=true):eu p s (e::r)=none:=by
 simp only[eu];rw[ae];rw[BL,h];(try rfl)
def e6:Nat→Bs→List aX→Option (List aX)
 |_,[],d=>some d
 |0,_::_,_=>none
 |f+1,c::r,d=>if r.length<c.toNat+1 then none else e6 f (r.drop (c.toNat+1)) (d++[⟨r.take c.toNat,((r[c.toNat]?).getD 0).toNat⟩])
theorem BM:∀(f:Nat) (b:Bs) (d l:List aX),e6 f b d=some l→∀e∈d,e∈l
 |0,b,d,l,h=>by cases b with
  |nil=>simp only[e6,aL]at h;subst h;exact fun e he=>he
  |cons c r=>simp[e6]at h
 |f+1,b,d,l,h=>by cases b with
  |nil=>simp only[e6,aL]at h;subst h;exact fun e he=>he
  |cons c r=>
   simp only[e6]at h;split at h
   ·cases h
   ·exact fun e he=>BM f _ _ l h e (List.mem_append_left _ he)
theorem BN:∀(f:Nat) (b:Bs) (d:List aX),gr f b d=e6 f b d∨(gr f b d=none∧∀l,e6 f b d=some l→∃e∈l,6<e.name.length)
 |0,b,d=>by cases b<;>exact .inl rfl
 |f+1,b,d=>by
  cases b with
  |nil=>exact .inl rfl
  |cons c r=>
   simp only[gr,e6];by_cases o:r.length<c.toNat+1
   ·rw[ae (.inr o),ae o];exact .inl rfl
   ·rw[ab o];by_cases aj:6<c.toNat
    ·rw[ae (.inl aj)];refine .inr ⟨rfl,fun l hl=>⟨⟨r.take c.toNat,((r[c.toNat]?).getD 0).toNat⟩,BM f _ _ l hl _ (List.mem_append_right _ (hB.2 rfl)),?_⟩⟩;show 6<(r.take c.toNat).length;rw[cE];omega
    ·rw[ab (by omega)];exact BN f _ _
theorem BO:∀(l:List aX) (p:Option Bs) (s b:Bs),eu p s l=some b→∀e∈l,e.name.length≤6
 |[],_,_,_,_,e,he=>by cases he
 |a::l,p,s,b,h,e,he=>by
  simp only[eu]at h;split at h
  ·cases h
  ·rename_i d;rcases bS.1 he with rfl|he
   ·simp only[mE,cx,not_or,c3,Bool.not_eq_false]at d;have:=d.1.1.1.1;unfold et at this;simp only[be,aR]at this;omega
   ·exact BO l _ _ b h e he
theorem BP (b:Bs):cv b=match e6 b.length b []with
 |none=>none
 |some l=>if eK l=some b then some l else none:=by
 unfold cv;rcases BN b.length b []with h|⟨o,aj⟩
 ·rw[h];cases e6 b.length b []<;>rfl
 ·rw[o];cases hx:e6 b.length b []with
  |none=>rfl
  |some l=>
   obtain⟨e,he,hl⟩:=aj l hx;simp only;rw[ab];intro hp;have:=BO l none [] b hp e he;omega
theorem BQ [Fx F] {o:V} {b:Bs} (d:aa aU O o b) (M:b.length≤1000000):bm F 165 [o] O (.aN [.str (lW b).1,.j ((lW b).2.1:Int),.bool (lW b).2.2]):=by
 refine ai.al (ar ?_);refine S.len ?_ (hl:=aa.len d);refine S.bin ?_;refine G.mv ?_;refine G.len ?_ (hl:=aa.len d);refine G.mv ?_;refine G.aF d (j:=0) (z:=(b[0]?).getD 0) (fun Q I=>?_) (hj:=fun h=>by
  simp at h;rw[bj (by cases b with|nil=>exact absurd rfl h|cons a l=>simp)];(try rfl))
 refine G.a1 ?_;refine G.mw ?_ (n:=(((b[0]?).getD 0).toNat:Int)) (j:=.u8);rw[vJ];refine G.bin ?_;refine G.or ?_;refine C.B (fun O3=>?_) fun O3=>?_
 ·have e:lW b=([],0,false):=by
   unfold lW;cases b with
   |nil=>rfl
   |cons c r=>
    simp at O3;simp only;rw[ae (by omega)]
  rw[e];refine⟨_,.t rfl (.t rfl (.t rfl .nil)),.done ?_⟩;rfl
 ·obtain⟨c,r,rfl⟩:∃c r,b=c::r:=by
   cases b with
   |nil=>simp at O3
   |cons c r=>exact⟨c,r,rfl⟩
  simp at O3;have e:lW (c::r)=(r.take c.toNat,1+c.toNat,true):=by unfold lW;simp only;rw[ab (by omega)]
  rw[e];have hc:=o7 c;obtain⟨w,hw,D⟩:=aa.both d (i:=1) (j:=1+c.toNat) (by omega) (by simp;omega);refine S.aF d (j:=0) (by simp) fun R L=>?_;refine S.a1 ?_;refine S.iY ?_ (b:=c);refine S.bin ?_ (v:=.j ((1+c.toNat:Nat):Int)) (hv:=by rw[dz (by omega) (by omega)];(try rfl));refine S.slice hw ?_;refine S.tg D ?_;have A:(List.drop 1 (c::r)).take (1+c.toNat-1)=r.take c.toNat:=by rw[mV];(try rfl)
  rw[A];exact⟨_,.t rfl (.t rfl (.t rfl .nil)),.done rfl⟩
theorem L8 [Fx F] {s:Bs} (hs:s.length≤1000000):bm F 243 [.str s] O (.bool (et s)):=by
 refine ai.al (ar ?_);refine S.jH fun M Q Z h=>?_;refine S.len ?_ (hl:=aa.len h);refine SW.bF (fun m E ψ R=>∃j:Nat,j+m=s.length∧(s.take j).all (fun c=>!oF c)=true∧Q=ψ∧R=[]∧Sub [(0,.str s),(6,M),(7,.j (s.length:Int)),(8,.j (j:Int))] E) (m:=s.length) (.done ⟨0,by omega,rfl,rfl,rfl,.r rfl⟩) ?_;intro L E ψ R Y I;obtain⟨j,hj,ha,rfl,rfl,A⟩:=I;refine C.sub A ?_;refine S.bin ?_;refine C.D (fun O7=>?_) fun O7=>?_
 ·have d:j<s.length:=by omega
  have W:(s[j])=s[j]:=rfl;refine S.aF h d fun ab U=>?_;refine S.a1 ?_;refine S.bin ?_;refine G.mv ?_;refine G.bin ?_;refine G.or ?_;refine G.mv ?_;refine G.gy (j:=0) (c:=47) (hj:=fun _=>rfl) ?_;refine G.bin ?_;refine G.or ?_;refine C.B (fun O2=>?_) fun O2=>?_
  ·have o:et s=false:=by
    unfold et;rw[iF];left;rw[List.all_eq_false];exact⟨s[j],cw d,by rw[show oF s[j]=true from O2];simp⟩
   rw[o];refine⟨_,.t rfl .nil,.done ?_⟩;rfl
  ·refine S.bin ?_;refine⟨L-1,by omega,.done ⟨j+1,by omega,?_,rfl,rfl,.r rfl⟩⟩;rw[tl _ d,ha,gL,show oF s[j]=false from O2];(try rfl)
 ·have o:j=s.length:=by omega
  rw[o,dT]at ha;have aj:et s=(decide ((1:Int)≤(s.length:Int))&&decide ((s.length:Int)≤6)):=by unfold et;rw[ha,gL]
  rw[aj];refine S.cb ?_;refine S.bin ?_;refine G.mv ?_;refine G.cb ?_;refine G.bin ?_;refine G.and ?_;refine⟨_,.t rfl .nil,.done ?_⟩;rfl
end Go.Ev
set_option maxHeartbeats 4000000
namespace Go.Ev
variable{F:Nat→Option aP} {O:Fz}
theorem L9 {l:List aX} {j:Nat} (hj:j<l.length) (z:aX) (hz:0<j→l[j-1]? =some z):
 (!et (l[j]).name||(decide ((0:Int)<(j:Int))&&!iu z.name (l[j]).name)||decide ((l[j]).ino<1)||decide (9<(l[j]).ino))=oY (nI l j) l[j]:=by
 unfold oY nI;by_cases h0:j=0
 ·subst h0;simp
 ·rw[ab h0,hz (by omega),decide_eq_true (show(0:Int)<(j:Int) by omega),gL];simp only[kq];cases !et (l[j]).name<;>cases (!iu z.name (l[j]).name)<;>cases decide ((l[j]).ino<1)<;>cases decide (9<(l[j]).ino)<;>rfl
theorem Ma [Fx F] {A:V} {l:List aX} (hl:aa cC O A l) (hlen:l.length≤10000) (am:∀e∈l,e.name.length≤100000):bm F 216 [A] O (.aN [.str ((eK l).getD []),.bool (eK l).isSome]):=by
 refine ai.al (ar ?_);refine S.len ?_ (hl:=aa.len hl);refine SW.new aU ?_;refine SW.bF (fun m E ψ R=>∃(j:Nat) (s:Bs) (v:V) (q:Option Pa),j+m=l.length∧eK l=eu (nI l j) s (l.drop j)∧s.length≤8*j∧aa cC ψ A l∧R=[aU.ob q s]∧af aU v s q∧Sub [(4,v),(7,A),(0,A),(8,.j (l.length:Int)),(9,.j (j:Int))] E) (m:=l.length) (.done ⟨0,[],.no .sl,none,by omega,rfl,by simp,hl,rfl,af.nil,.r rfl⟩) ?_;intro ao E ψ R aC ak;obtain⟨j,s,v,q,hm,d,aI,hl,rfl,ho,aj⟩:=ak;refine C.sub aj ?_;refine S.bin ?_;refine C.D (fun OU=>?_) fun OU=>?_
 ·have hj:j<l.length:=by omega
  rw[bQ hj]at d;have aH:=am _ (cw hj);have hz:0<j→l[j-1]? =some ((l[j-1]?).getD ⟨[],0⟩):=fun h=>by rw[bj (show j-1<l.length by omega)];(try rfl)
  refine S.aF hl hj fun aJ aA=>?_;refine S.bJ ?_ (l:=[.str (l[j]).name,.j (l[j]).ino]);refine S.alloc fun az=>?_;refine S.store 0 ?_;refine S.ld 0 ?_;refine S.al (L8 (s:=(l[j]).name) (by omega)) ?_;refine S.un ?_;refine G.mv ?_;refine G.bin ?_;refine G.mv ?_;refine G.mv ?_;refine G.mv ?_;refine G.bin ?_ (hv:=fun o=>vI (by simp at o;omega) (by omega));refine G.aF hl (fun aK Y=>?_) (hj:=fun o=>hz (by simp at o;omega));refine G.bl Y fun aL aB=>?_;refine G.a1 ?_;refine G.aD ?_;refine G.ld 0 ?_;refine G.bin ?_ (hv:=fun _=>zk);refine G.fV ?_;refine G.or ?_;refine G.aD ?_;refine G.ld 0 ?_;refine G.bin ?_;refine G.or ?_;refine G.aD ?_;refine G.ld 0 ?_;refine G.bin ?_;refine G.or ?_;rw[L9 hj _ hz];refine C.B (fun I=>?_) fun I=>?_
  ·rw[L7 I]at d;rw[d];exact⟨_,.t rfl (.t rfl .nil),.none rfl⟩
  ·rw[L6 I]at d;have o:=I;unfold oY at o;simp only[cg,du,bD]at o;have aE:(l[j]).name.length≤6:=by
    have:=o.1.1.1;unfold et at this;simp only[be,aR]at this;omega
   refine S.ld 0 ?_;refine S.ld 0 ?_;refine S.a8 fun M=>?_;have ap:af bt (.sl M 0 1 (.ex 1)) [(l[j]).ino] (some M):=af.new rfl;refine S.jL 2 ho (fun ψ Q L=>BJ (tx:=(l[j]).name) L (by omega) (by omega)) fun v46 aw ac=>?_;obtain⟨aM,rfl,U⟩:=ac;have Z:gp s (l[j]).name=s++le 1 ((l[j]).name.length:Int)++(l[j]).name:=by unfold gp;rw[ab (by omega)]
   rw[Z]at U⊢;refine S.e2 1 ?_;refine S.bE 2 ?_;refine S.cd 1 ap fun aO an ag=>?_;refine S.jL 0 U (fun ψ Q L=>rI (n:=1) L (ag.mono Q) (by omega) (by omega) (by simp[fz];omega) (by simp)) fun v50 ay ah=>?_;obtain⟨av,rfl,au⟩:=ah;refine S.bin ?_;refine⟨ao-1,by omega,.drop 1 (.done ⟨j+1,s++oG l[j],v50,av,by omega,?_,?_,hl.mono an,?_,?_,.r rfl⟩)⟩
   ·rw[d,zy hj]
   ·unfold oG;simp[fz];omega
   ·unfold oG;simp[bo]
   ·unfold oG;simpa[bo]using au
 ·have hj:j=l.length:=by omega
  subst hj;rw[b6]at d;simp only[eu]at d;refine S.len ?_ (hl:=af.len ho);refine S.bin ?_;refine C.D (fun W=>?_) fun W=>?_
  ·rw[ae (by omega)]at d;rw[d];exact⟨_,.t rfl (.t rfl .nil),.none rfl⟩
  ·rw[ab (by omega)]at d;rw[d];refine S.hM 0 ho ?_;exact⟨_,.t rfl (.t rfl .nil),.none rfl⟩
theorem BS:∀(f g:Nat) (b:Bs) (d:List aX),b.length≤f→b.length≤g→e6 f b d=e6 g b d
 |0,g,b,d,h,_=>by
  have:b=[]:=e8 (by omega);subst this;cases g<;>rfl
 |f+1,g,b,d,o,aj=>by
  cases b with
  |nil=>cases g<;>rfl
  |cons c r=>
   cases g with
   |zero=>simp at aj
   |succ g=>
    simp only[e6];split
    ·rfl
    ·simp only[b7]at o aj;exact BS f g _ _ (by rw[bW];omega) (by rw[bW];omega)
theorem BT [Fx F] {b:Bs} (aQ:b.length≤10000):
 ai F 168 [.str b] O [] (fun r ψ R=>R=[]∧∃v,r=.aN [v,.bool (cv b).isSome]∧aa cC ψ v ((cv b).getD [])) never:=by
 refine ar ?_;refine S.jH fun aL aW aS aw=>?_;refine SW.new cC ?_;refine SW.bF (fun m E ψ R=>∃(I:Bs) (U:V) (d:List aX) (v:V) (q:Option Pa),m=I.length∧e6 b.length b []=e6 I.length I d∧d.length+I.length≤b.length∧(∀e∈d,e.name.length≤1000)∧aa aU ψ U I∧R=[cC.ob q d]∧af cC v d q∧Sub [(0,.str b),(4,v),(5,U)] E) (m:=b.length) (.done ⟨b,aL,[],.no .sl,none,rfl,rfl,by simp,(fun e he=>by cases he),aw,rfl,af.nil,.r rfl⟩) ?_;intro aV E ψ R aR az;obtain⟨I,U,d,v,q,hm,Y,am,an,Q,rfl,ho,ay⟩:=az;refine C.sub ay ?_;refine S.len ?_ (hl:=aa.len Q);refine S.bin ?_;refine C.D (fun O1=>?_) fun O1=>?_
 ·obtain⟨c,r,rfl⟩:∃c r,I=c::r:=by
   cases I with
   |nil=>simp at O1
   |cons c r=>exact⟨c,r,rfl⟩
  simp only[b7]at am hm;have hc:=o7 c;refine S.al (BQ Q (by simp;omega)) ?_;obtain⟨T,ak⟩:∃T,T=lW (c::r):=⟨_,rfl⟩
  have M:T=if r.length<c.toNat then([],0,false)else(r.take c.toNat,1+c.toNat,true):=ak;have aE:T.2.1≤(c::r).length:=by rw[M];split<;>simp;omega
  rw[←ak];obtain⟨w,hw,ac⟩:=aa.lo Q (j:=T.2.1) aE;refine S.slice hw ?_;refine S.al (tN (n:=1) ac (by omega) (by simp;omega)) ?_;refine S.un ?_;refine G.mv ?_;refine G.bin ?_;refine G.or ?_;refine C.B (fun A=>?_) fun A=>?_
  ·have e:e6 (c::r).length (c::r) d=none:=by
    simp only[b7,e6];rw[ae];rw[M]at A;by_cases o:r.length<c.toNat
    ·omega
    ·rw[ab o]at A;have W:(c::r).drop (1+c.toNat)=r.drop c.toNat:=by rw[qn];(try rfl)
     simp only[W]at A;unfold cf at A;by_cases aj:(r.drop c.toNat).length<1
     ·rw[bW]at aj;omega
     ·rw[ab (by omega)]at A;simp at A;omega
   have ao:cv b=none:=by rw[BP,Y,e]
   rw[ao];exact⟨_,.t rfl (.t rfl .nil),.none ⟨rfl,_,rfl,aa.nil _⟩⟩
  ·have aA:¬r.length<c.toNat:=by
    intro o;rw[M,ae o]at A;simp at A
   have aC:T=(r.take c.toNat,1+c.toNat,true):=by rw[M,ab aA]
   obtain rfl:=aC;have W:(c::r).drop (1+c.toNat)=r.drop c.toNat:=by rw[qn];(try rfl)
   simp only[W]at A ac⊢;have aD:¬r.length<c.toNat+1:=by
    intro aj;unfold cf at A;rw[ae (by rw[bW];omega)]at A;simp at A
   have au:(cf (r.drop c.toNat) 1).1=(((r[c.toNat]?).getD 0).toNat:Int):=by
    unfold cf;rw[ab (by rw[bW];omega)];rw[bQ (show c.toNat<r.length by omega)];simp only[List.take_succ_cons,nX,dB];rw[bj (show c.toNat<r.length by omega)];simp
   rw[au];have av:e6 (c::r).length (c::r) d=e6 (r.drop (c.toNat+1)).length (r.drop (c.toNat+1)) (d++[⟨r.take c.toNat,((r[c.toNat]?).getD 0).toNat⟩]):=by
    simp only[b7,e6];rw[ab aD];exact BS _ _ _ _ (by rw[bW];omega) (aB _)
   obtain⟨aO,aI,ag⟩:=aa.lo Q (j:=1+c.toNat+1) (by simp;omega);have ap:(c::r).drop (1+c.toNat+1)=r.drop (c.toNat+1):=by rw[show 1+c.toNat+1=(c.toNat+1)+1 by omega];(try rfl)
   rw[ap]at ag;refine S.build ?_;refine S.a8 fun aP=>?_;refine S.br (m:=[⟨r.take c.toNat,((r[c.toNat]?).getD 0).toNat⟩]) 1 ho (.lit 0) (by simp;omega) fun aM aK aJ=>?_;refine S.drop 0 ?_;refine S.mv ?_;refine S.bin ?_ (v:=.j ((1+c.toNat+1:Nat):Int)) (hv:=by rw[dz (by omega) (by omega)];(try rfl));refine S.slice aI ?_;refine⟨_,?_,.done ⟨_,aO,_,aM,aK,rfl,Y.trans av,by simp;omega,?_,ag,rfl,aJ,.r rfl⟩⟩
   ·simp;omega
   ·intro e he;rw[fK,hB]at he;rcases he with he|rfl
    ·exact an e he
    ·show(r.take c.toNat).length≤1000;rw[cE];omega
 ·obtain rfl:I=[]:=by
   cases I with
   |nil=>rfl
   |cons c r=>simp at O1
  have aH:e6 b.length b []=some d:=Y;refine S.cd 0 ho fun aZ aT ah=>?_;have aF:d.length≤10000:=by simp at am;omega
  refine S.al (Ma ah aF (fun e he=>by have:=an e he;omega)) ?_;have Z:cv b=if eK d=some b then some d else none:=by rw[BP,aH]
  refine S.un ?_;refine G.mv ?_;refine G.mv ?_;refine G.bin ?_;refine G.or ?_;refine C.B (fun L=>?_) fun L=>?_
  ·have e:cv b=none:=by
    rw[Z,ab];intro h;rw[h]at L;simp at L
   rw[e];exact⟨_,.t rfl (.t rfl .nil),.none ⟨rfl,_,rfl,aa.nil _⟩⟩
  ·have e:cv b=some d:=by
    rw[Z,ae];cases hp:eK d with
    |none=>rw[hp]at L;simp at L
    |some x=>rw[hp]at L;simp at L;rw[L]
   rw[e];exact⟨_,.t rfl (.t rfl .nil),.none ⟨rfl,_,rfl,ah⟩⟩
end Go.Ev
namespace Go.Ev
namespace S
variable{F:Nat→Option aP} {K:KX} {E:Env} {O:Fz} {R:List Ob} {Q:bz} {rs:List Op} {d:Nat} {g:Option (Pa×Bool)}
theorem Mb {x:Od} {v:V} {n:Nat} {s:List UInt8} (hs:∀W h,SH O h (R++W)→Sl h v 1 n (s.map cz)) (hn:SA F K rs E O R Q) (hd:lk d E=some (.str s):=by rfl) (hx:ay E x v:=by first|exact .t rfl|exact .c) (hw:aA E g .yes:=by first|exact .none|exact .yes rfl):
 SR F K (.bX ⟨some (pa d),dk x,g⟩::Op.aK rs) E O R Q:=
 vZ (fun W h sh e he=>by
  have o:=hs W h sh;rcases o.2 with⟨rfl,rfl⟩|⟨a,I,c,rfl,hc⟩
  ·have:s=[]:=by simpa using o.1
   subst this;simp only[hx e he]
  ·have aj:=hc.all (n:=n) (by rw[o.1,Nat.mul_one]);simp only[hx e he,aj,yV]) hn hd (tc _) hw
theorem Mc {x:Od} {v:V} {l:Bs} {s:Option Pa} (i:Nat) (ho:af aU v l s) (hn:SA F K rs E O R Q) (hi:R[i]? =some (aU.ob s l):=by rfl) (hd:lk d E=some (.str l):=by rfl) (hx:ay E x v:=by exact .t rfl) (hw:aA E g .yes:=by first|exact .none|exact .yes rfl):SR F K (.bX ⟨some (pa d),dk x,g⟩::Op.aK rs) E O R Q:=
 Mb (fun _ _ sh=>ho.bytes hi sh) hn hd hx hw
end S
theorem ai.kept {F:Nat→Option aP} {O:Fz} {n:Nat} {vs:List V} {U:Type} {e:bG U} {l:List U} (hc:ai F n vs O [] (fun r ψ R=>ψ=O∧∃s,R=[e.ob s l]∧af e r l s) never):ai F n vs O [] (fun r ψ R=>R=[]∧aa e ψ r l) never:=fun ad h sh=>by
 rcases hc ad h sh with⟨r,h',o,ψ,G,aj,d,rfl,s,rfl,ho⟩|⟨_,_,_,_,_,_,_,h⟩
 ·obtain⟨D,I,j,k2,A,B⟩:=Fin.bL (P:=fun ψ R=>R=[]∧aa e ψ r l) (R:=[e.ob s l]) 0 rfl ho (fun ψ o aj=>.done ⟨rfl,aj⟩) ad h' d;subst A;exact .inl ⟨r,h',o,D,[],aj.trans j,k2,rfl,B⟩
 ·exact h.elim
theorem aa.dW {O:Fz} {U:Type} {e:bG U} {a:Pa} {l:List U} {n:Nat} (h:O a=some (.cells (e.fl l) false)) (hn:l.length=n):aa e O (.sl a 0 n (.ex n)) l:=
 OV.fs (af.new (e:=e) (a:=a) hn) rfl (fun b d=>by cases d;exact h)|>fun h=>by unfold aa;rw[hn];subst hn;exact h
theorem w7 {z xs:List V} (h:xs.length=z.length):cT 0 z xs=some xs:=by
 have:=s4 z [] xs h;rw[e9,e9]at this;exact this
namespace G
variable{F:Nat→Option aP} {K:KX} {E:Env} {O:Fz} {R:List Ob} {Q:bz} {rs:List Op} {d:Nat} {g:Option (Pa×Bool)} {b:Bool}
theorem Md {U:Type} {e:bG U} {x:Od} {u:V} {z:List V} {k:Nat} (z0:U) (hn:∀a ψ,O.Le ψ→(b=true→ψ a=some (.cells (e.f z0) false))→SA F K rs ((d,gv b (.sl a 0 1 (.ex 1)))::E) ψ R Q) (hu:u.cells=e.f z0:=by rfl) (hz:z.length=e.k:=by rfl) (hk:k=e.k:=by rfl)
 (j:Gd E g b:=by first|exact .y rfl|exact .n rfl|exact .yg rfl|exact .ng rfl) (hx:da E x b u:=by first|exact .g rfl|exact .gl rfl|exact .u (.t rfl)|exact .u .c):SR F K (.op ⟨some (pa d),aH z 1 [(0,k,x)],g⟩::Op.aK rs) E O R Q:=by
 subst hk;cases b with
 |false=>exact S.no j (hn .z O (.refl O) (fun h=>by cases h))
 |true=>
  intro W h sh;have o:kG E [(0,e.k,x)] z (e.f z0):=.cons (hx rfl) (by rw[hu,e.len];exact dU _) (by rw[hu];exact e.sc z0) (by rw[hu];exact w7 (by rw[e.len,hz])) .nil;have B:SH O (h.alloc (.cells (e.f z0) false)) ([(some h.next,.cells (e.f z0) false)]++(R++W)):=sh.alloc _;obtain⟨D,A⟩:=B.freeze (i:=0) rfl;exact WR.up A (ad.a8 j o (e.sc z0) (S.r (hn h.next _ A (fun _=>by simp[Fz.put])) W _ D))
theorem Me {U:Type} {e:bG U} {x:Od} {u:V} {z:List V} {k:Nat} {a:Pa} (z0:U) (A:b=true→O a=some (.cells (e.f z0) false)) (hn:SA F K rs E O R Q) (hm:b9 (e.f z0) (e.f z0)=true) (hd:lk d E=some (gv b (.sl a 0 1 (.ex 1))):=by rfl) (hu:u.cells=e.f z0:=by rfl) (hz:z.length=e.k:=by rfl) (hk:k=e.k:=by rfl)
 (j:Gd E g b:=by first|exact .y rfl|exact .n rfl|exact .yg rfl|exact .ng rfl) (hx:da E x b u:=by first|exact .g rfl|exact .gl rfl|exact .u (.t rfl)|exact .u .c):SR F K (.bX ⟨some (pa d),aH z 1 [(0,k,x)],g⟩::Op.aK rs) E O R Q:=by
 subst hk;cases b with
 |false=>exact S.sT j hd hn
 |true=>
  intro W h sh;have o:kG E [(0,e.k,x)] z (e.f z0):=.cons (hx rfl) (by rw[hu,e.len];exact dU _) (by rw[hu];exact e.sc z0) (by rw[hu];exact w7 (by rw[e.len,hz])) .nil;exact ad.y6 j hd o (e.sc z0) (sh.jE _ _ (A rfl)) hm (S.r hn W h sh)
end G
end Go.Ev
set_option maxHeartbeats 2000000
namespace Go.Ev
variable{F:Nat→Option aP} {O:Fz}
theorem BU (c:UInt8):∀n,nn [c] n=List.replicate n c
 |0=>rfl
 |n+1=>by show[c]++nn [c] n=_;rw[BU c n,rP];(try rfl)
theorem Mf (hr:F 215=some (.cA gR)) {s:Bs} {n:Nat} (hn:n≤1000000) (hs:s.length≤1000000):bm F 215 [.str s,.j (n:Int)] O (.str (nn s n)):=fun ad h sh=>by
 refine .inl ⟨_,h,vr hr ?_,O,[],.refl O,sh,rfl,rfl,rfl⟩;have o:Nat.ble n 9223372036854775807=true:=hA (by omega);have aj:s.length*n≤1000000*1000000:=nW hs hn;have d:Nat.ble (Nat.mul s.length n) 140737488355328=true:=hA (show s.length*n≤_ by omega);show(bif Nat.ble n 9223372036854775807 then bif Nat.ble (Nat.mul s.length n) 140737488355328 then some (V.str (nn s n),h)else none else none)=_;rw[o,d];(try rfl)
def kV (s:Bs):aT:=⟨((s[0]?).getD 0).toNat,dB ((s.drop 1).take 4),(lW (s.drop 5)).1⟩
theorem Mg {x:aT} (h:jG x=true):(dn x)[5]? =some (bM (x.load.length:Int)):=by
 have hl:x.load.length≤55:=by unfold jG at h;simp only[be,aR]at h;omega
 unfold dn;rw[ae h];unfold gq gp;rw[ab (by omega)];(try rfl)
theorem Mh (s:Bs):er s=if s.length=64 then(if dn (kV s)=s then some (kV s)else none)else none:=by
 unfold er;by_cases h0:s.length=64
 ·rw[ae h0,ae h0];have j:s[5]? =some s[5]:=bj (by omega);have hd:s.drop 5=s[5]::s.drop 6:=bQ (by omega);have o:∀x:aT,dn x=s→s[5].toNat=x.load.length∧x.load.length≤55:=by
   intro x hx;have hm:jG x=true:=by
    cases hm:jG x with
    |true=>rfl
    |false=>unfold dn at hx;rw[hm]at hx;simp at hx;rw[hx]at h0;cases h0
   have d:=Mg hm;rw[hx,j]at d;have hl:x.load.length≤55:=by unfold jG at hm;simp only[be,aR]at hm;omega
   simp only[aL]at d;rw[d];refine⟨?_,hl⟩;unfold bM;rw[UInt8.toNat_ofNat'];omega
  by_cases hs:s[5].toNat≤55
  ·have e:kV s=lM s:=by
    unfold kV lM;rw[hd,j];unfold lW;simp only[kq];rw[ab (by rw[bW];omega),hD hs]
   rw[e]
  ·rw[ab (fun h=>hs (by have:=o _ h;omega)),ab (fun h=>hs (by have:=o _ h;omega))]
 ·rw[ab h0,ab h0]
theorem Mi [Fx F] {x:aT}:bm F 213 [.agg [.j x.kind,.j x.gen,.str x.load]] O (.bool (jG x)):=by
 refine ai.al (ar ?_);refine S.box fun d=>?_;refine S.ld 0 ?_;refine S.bin ?_;refine G.aD ?_;refine G.ld 0 ?_;refine G.bin ?_;refine G.and ?_;refine G.aD ?_;refine G.ld 0 ?_;refine G.bin ?_;refine G.and ?_;refine G.aD ?_;refine G.ld 0 ?_;refine G.bin ?_;refine G.and ?_;refine G.aD ?_;refine G.ld 0 ?_;refine G.cb ?_;refine G.bin ?_;refine G.and ?_;refine⟨_,.t rfl .nil,.done ?_⟩;show V.bool _=V.bool _;unfold jG;rfl
theorem Mj [Fx F] (hr:F 215=some (.cA gR)) {x:aT}:bm F 166 [.agg [.j x.kind,.j x.gen,.str x.load]] O (.str (dn x)):=by
 refine ai.al (ar ?_);refine S.box fun ah=>?_;refine S.ag 0 ?_ (l:=[.j x.kind,.j x.gen,.str x.load]);refine S.al (Mi) ?_;refine S.un ?_;refine C.B (fun Pe=>?_) fun Pe=>?_
 ·have e:dn x=[]:=by unfold dn;rw[ab (by simpa using Pe)]
  rw[e];refine⟨_,.t rfl .nil,.done ?_⟩;rfl
 ·have hm:jG x=true:=by simpa using Pe
  have ak:x.load.length≤55:=by unfold jG at hm;simp only[be,aR]at hm;omega
  have e:dn x=gq x++List.replicate (64-(gq x).length) 0:=by unfold dn;rw[ae hm]
  rw[e];refine S.ld 0 ?_;refine S.a8 fun a9=>?_;have W:af bt (.sl a9 0 1 (.ex 1)) [x.kind] (some a9):=af.new rfl;refine S.cd 0 W fun aC ao M=>?_;refine S.aD ?_;refine S.ld 0 ?_;refine S.a8 fun A=>?_;have R:af bt (.sl A 0 1 (.ex 1)) [x.gen] (some A):=af.new rfl;refine S.ld 1 ?_;refine S.call (rI (n:=1) (aa.nil _) M (by omega) (by omega) (by simp) (by simp)) fun aw aA Y am d=>?_;obtain⟨d,ap,rfl,Q⟩:=d;have d:=d.symm;subst d;refine S.bE 2 ?_;refine S.e2 1 ?_;refine S.bE 2 ?_;refine S.cd 1 R fun aB an G=>?_;refine S.jL 0 Q (fun ψ l o=>rI (n:=4) o (G.mono l) (by omega) (by omega) (by simp[fW]) (by simp)) fun ay Z I=>?_;obtain⟨au,rfl,U⟩:=I;refine S.bE 1 ?_;refine S.jL 0 U (fun ψ l o=>BJ (tx:=x.load) o (by simp[fW]) (by omega)) fun az ac L=>?_;obtain⟨av,rfl,h⟩:=L;have D:gp ([]++bo 1 [x.kind]++bo 4 [x.gen]) x.load=gq x:=by unfold gq;simp[bo]
  rw[D]at h⊢;have aj:(gq x).length≤61:=by unfold gq gp;split<;>simp[fz];omega
  refine S.hM 0 h ?_;refine S.len ?_ (hl:=af.len h);refine S.bin ?_ (v:=.j ((64-(gq x).length:Nat):Int)) (hv:=by rw[fU (by omega) (by omega)];congr 2;omega);refine S.al (Mf hr (s:=[0]) (n:=64-(gq x).length) (by omega) (by simp)) ?_;rw[BU];refine S.Mc 0 h ?_;refine S.bin ?_ (hv:=my (by simp;omega));refine⟨_,.t rfl .nil,.done ?_⟩;rfl
theorem Mk [Fx F] (hr:F 215=some (.cA gR)) {s:Bs}:bm F 101 [.str s] O (.aN [.agg (bu.f ((er s).getD fA)),.bool (er s).isSome]):=by
 have ht:=Mh s;refine ai.al (ar ?_);refine S.alloc fun Q=>?_;refine S.cb ?_;refine S.bin ?_;refine C.B (fun Pc=>?_) fun Pc=>?_
 ·have I:¬s.length=64:=by simp at Pc;omega
  rw[ab I]at ht;rw[ht];refine S.build ?_;refine S.store 0 ?_;exact⟨_,.cN 0 rfl rfl rfl rfl (.t rfl .nil),.none rfl⟩
 ·have hlen:s.length=64:=by simp at Pc;omega
  have hs:s.length≤1000000:=by omega
  rw[ae hlen]at ht;refine S.alloc fun a4=>?_;refine S.jH fun U Z R h=>?_;obtain⟨W,L,D⟩:=aa.lo h (j:=1) (by omega);obtain⟨Y,M,G⟩:=aa.lo h (j:=5) (by omega);refine S.al (tN (n:=1) h (by omega) hs) ?_;have o:(cf s 1).1=(((s[0]?).getD 0).toNat:Int):=by
   unfold cf;rw[ab (by omega)];cases s with
   |nil=>cases hlen
   |cons c r=>simp[dB]
  rw[o];refine S.store 0 ?_;refine S.slice L ?_;refine S.al (tN (n:=4) D (by omega) (by rw[bW];omega)) ?_;have A:(cf (s.drop 1) 4).1=dB ((s.drop 1).take 4):=by unfold cf;rw[ab (by rw[bW];omega)]
  rw[A];refine S.store 0 ?_;refine S.slice M ?_;refine S.al (BQ G (by rw[bW];omega)) ?_;refine S.store 0 ?_;refine S.ag 0 ?_ (l:=[.j (kV s).kind,.j (kV s).gen,.str (kV s).load]);refine S.al (Mj hr (x:=kV s)) ?_;refine S.bin ?_;refine C.B (fun d=>?_) fun d=>?_
  ·rw[ab (by simpa using d)]at ht;rw[ht];refine S.build ?_;refine S.store 1 ?_;exact⟨_,.cN 1 rfl rfl rfl rfl (.t rfl .nil),.none rfl⟩
  ·rw[ae (by simpa using d)]at ht;rw[ht];refine S.ag 0 ?_ (l:=[.j (kV s).kind,.j (kV s).gen,.str (kV s).load]);refine S.store 1 ?_;exact⟨_,.cN 1 rfl rfl rfl rfl (.t rfl .nil),.none rfl⟩
end Go.Ev
set_option maxHeartbeats 4000000
namespace Go.Ev
variable{F:Nat→Option aP} {O:Fz}
theorem Ml [Fx F] {h wv:V} {d:au} {a:Pa} {i:Int} (hl:aa dA O h d.last):ai F 162 [.ptr a 0,.j i] O [(some a,.cells [h,wv,.j d.arm,.bool d.down] false)] (fun r ψ R=>ψ=O∧r=.bool (d.has i)∧R=[(some a,.cells [h,wv,.j d.arm,.bool d.down] false)]) never:=by
 refine ar ?_;refine S.ld 0 ?_;refine S.un ?_;refine G.mv ?_;refine G.bin ?_;refine G.and ?_;refine G.mv ?_;refine G.mv ?_;refine G.nil? ?_;refine G.aD ?_;refine G.aD ?_;refine G.ld 0 ?_;refine G.len ?_ (hl:=aa.len hl);refine G.bin ?_;refine G.and ?_;exact⟨_,.t rfl .nil,.done ⟨rfl,rfl,rfl⟩⟩
theorem Mm [Fx F] {wv:V} (hs:isScalar wv=true):ai F 163 [wv] O [] (fun r ψ R=>ψ=O∧∃a,r=.fn 212 [.ptr a 0]∧R=[(some a,.cells [wv] false)]) never:=by
 have d:wv.cells=[wv]:=gV hs;refine ar ?_;refine S.box (v:=wv) (fun h=>?_) (hs:=by rw[d];simp[aY,hs]);rw[d];refine S.sK ?_;exact⟨_,.t rfl .nil,.done ⟨rfl,h,rfl,rfl⟩⟩
theorem Mn {wl:List lK} {wv:V} {A l:Pa} {a b:IC ak} {nt:Nat} {R:List Ob} {P:bz} (d:Nat→Fz→List Ob→Prop) (D:Fz→List Ob→Prop) (hw:aa j5 O wv wl) (ac:wl.length≤1000000) (h0:d wl.length O R) (I:∀j ψ R,d j ψ R→R[1]? =some (some A,.cells [wv] false))
 (Z:∀(j:Nat) (hj:j<wl.length) (ψ:Fz) (R:List Ob),O.Le ψ→d (j+1) ψ R→oD F (pN 212 nt l a b) l [.j (j:Int),.agg (j5.f wl[j])] ψ R (fun q G o=>(q=true→d j G o)∧(q=false→D G o)))
 (hn:∀E ψ R,O.Le ψ→d 0 ψ R→P.n E ψ R) (hd:∀E ψ R,O.Le ψ→D ψ R→P.r E ψ R):SW F (pN 212 nt l a b) B.y9.den [(0,.fp l),(1,.ptr A 0)] O R P:=by
 refine SC.w ?_;refine S.ld 1 ?_ (hi:=I _ _ _ h0);refine S.len ?_ (hl:=aa.len hw);refine S.bin ?_;refine SW.loop (fun m E ψ R=>O.Le ψ∧m≤wl.length∧d m ψ R∧Sub [(0,.fp l),(1,.ptr A 0),(3,.j ((m:Int)-1))] E) (m:=wl.length) ⟨.refl O,aB _,h0,.r rfl⟩ ?_;intro m E ψ R ae ⟨h,ag,hi,Q⟩;refine C.sub Q ?_;refine S.bin ?_;refine C.D (fun Pc=>?_) fun Pc=>?_
 ·obtain⟨j,rfl⟩:∃j,m=j+1:=⟨m-1,by omega⟩
  have hj:j<wl.length:=by omega
  have M:(((j+1:Nat):Int)-1)=(j:Int):=by omega
  rw[M];refine S.ld 1 ?_ (hi:=I _ _ _ hi);refine S.aF (hw.mono h) hj fun ah ab=>?_;refine S.bJ ?_ (l:=j5.f wl[j]);refine S.yield (Z j hj ψ R h hi) fun q G o L hq=>?_;refine S.un ?_;refine C.B (fun OY=>?_) fun OY=>?_
  ·have W:q=false:=by simpa using OY
   exact hd _ _ _ (h.trans L) (hq.2 W)
  ·have Y:q=true:=by simpa using OY
   refine S.bin ?_;exact⟨j,by omega,h.trans L,by omega,hq.1 Y,.r rfl⟩
 ·have U:m=0:=by omega
  subst U;show P.n _ _ _;exact hn _ _ _ h hi
def BV (e:T V) (fn nt:Nat) (l o a5 a4 a3 h d:Pa) (st:LoopState) (A:Option k6) (s:Bs) (ok:Bool) (i:Int) (wv:V) (D:List V):List Ob:=
 [(some l,.loop {state:=st,pending:=A,fn:=fn,nt:=nt,env:=e,params:=[pa 19,pa 20]}),(some o,.cells [wv] false),(some d,.cells D false),(some a5,.cells [.bool ok] false),(some a4,.cells [.str s] false),(some a3,.cells [.j i] false),(some h,.cells D false)]
theorem Mo [Fx F] {cs:List V} {d:au} {i:Int} (hd:cu O cs d) (an:d.wait.length≤1000000):bm F 100 [.agg cs,.j i] O (.aN [.str (d.read i).1,.bool (d.read i).2]):=by
 obtain⟨L,wv,rfl,hl,hw,sl,ap⟩:=hd.open;refine ai.al (ar ?_);refine S.box fun ac=>?_;refine S.box fun a3=>?_;refine S.alloc fun a4=>?_;refine S.alloc fun a5=>?_;refine S.ag 3 ?_ (l:=[L,wv,.j d.arm,.bool d.down]);refine S.build ?_ (l:=[L,wv,.j d.arm,.bool d.down]);refine S.box fun Y=>?_;refine S.ld 3 ?_;refine S.ba 0 rfl (Ml (wv:=wv) (i:=i) hl) fun aC aE av az o=>?_;obtain⟨o,rfl,rfl⟩:=o;have o:=o.symm;subst o;refine S.un ?_;refine C.B (fun OX=>?_) fun OX=>?_
 ·have e:d.read i=([],false):=by unfold au.read;rw[ab (by intro h;rw[h]at OX;cases OX)]
  rw[e];refine S.store 2 ?_;refine S.store 1 ?_;exact⟨_,.eH 2 rfl rfl rfl (.eH 1 rfl rfl rfl .nil),.none rfl⟩
 ·have U:d.has i=true:=by simpa using OX
  refine S.ld 4 ?_;refine S.call (Mm ap) fun aD aH aw aA A=>?_;obtain⟨A,Z,rfl,rfl⟩:=A;have A:=A.symm;subst A;have hw:=hw;refine SW.ze (Fx.h (f:=212) rfl) rfl fun l e he=>?_;refine Mn (wl:=d.wait) (fun j ψ R=>O.Le ψ∧(d.wait.drop j).all (fun p=>!decide (p.at_=i))=true∧R=BV e 100 32 l Z a5 a4 a3 ac Y .ready none [] false i wv [L,wv,.j d.arm,.bool d.down]) (fun ψ R=>O.Le ψ∧∃s,d.read i=(s,true)∧R=BV e 100 32 l Z a5 a4 a3 ac Y .done (some .ret) s true i wv [L,wv,.j d.arm,.bool d.down]) hw an ⟨.refl O,by rw[b6];(try rfl),rfl⟩ (fun j ψ R h=>by obtain⟨_,_,rfl⟩:=h;rfl) ?ao ?hn ?hd
  case hd=>
   intro ak ψ W aj am;obtain⟨I,s,M,D⟩:=am;subst D;refine⟨_,_,rfl,(by intro h;cases h),.inr ⟨rfl,?_⟩⟩;exact⟨_,.eH 3 rfl rfl rfl (.eH 2 rfl rfl rfl .nil),.none (by rw[M];(try rfl))⟩
  case ao=>
   intro j hj ψ W aj Q;obtain⟨I,G,D⟩:=Q;subst D;refine oD.round (r:={state:=.ready,pending:=none,fn:=100,nt:=32,env:=e,params:=[pa 19,pa 20]}) rfl rfl ((he.set 19 _).set 20 _) ?_;refine SC.w ?_;refine S.alloc fun dL=>?_;refine S.store 0 ?_;refine SC.w ?_;refine S.ld 0 ?_;refine S.ld 5 ?_;refine S.bin ?_;refine SW.sS (.t rfl) (fun O8=>SC.w ?_) fun O8=>SW.fin (.drop 0 (.done (SW.skip ?_)))
   ·refine S.ld 0 ?_;refine S.drop 0 ?_;refine S.store 3 ?_;refine S.store 2 ?_;have M:d.read i=((d.wait[j]).b,true):=by unfold au.read;rw[ae U,zp hj G O8];(try rfl)
    exact⟨fun h=>(by cases h),fun _=>⟨I,(d.wait[j]).b,M,rfl⟩⟩
   ·exact⟨fun _=>⟨I,zr hj G (by simpa using O8),rfl⟩,fun h=>by cases h⟩
  intro ak aI W aj Q;obtain⟨I,G,D⟩:=Q;subst D;refine⟨_,_,rfl,(by intro h;cases h),.inl ⟨rfl,?_⟩⟩;have hl:=hl.mono I;rw[nb]at G;have ah:=U;unfold au.has at ah;simp only[be,aR]at ah;obtain⟨k,rfl⟩:∃k:Nat,i=(k:Int):=⟨i.toNat,by omega⟩
  have hk:k<d.last.length:=by omega
  refine S.ld 5 ?_;refine S.ld 4 ?_;refine S.aF hl hk fun aB ay=>?_;refine S.a1 ?_;refine S.store 3 ?_;refine S.store 2 ?_;have e:d.read k=(d.last[k],true):=by
   unfold au.read;rw[ae U,zq G,hC,bj hk];(try rfl)
  rw[e];exact⟨_,.eH 3 rfl rfl rfl (.eH 2 rfl rfl rfl .nil),.none rfl⟩
end Go.Ev
set_option maxHeartbeats 1000000
namespace Go.Ev
variable{F:Nat→Option aP} {O:Fz}
theorem jr [Fx F] {a:Pa} {o:V} {s:cL} {n:Nat} (d:aa aU O o s.1) (hn:n≤4) (I:s.1.length≤1000000):ai F 195 [.ptr a 0,.j (n:Int)] O [(some a,.cells [o,.bool s.2] false)] (fun r ψ R=>ψ=O∧r=.j (rdNum n s).1∧∃A,R=[(some a,.cells [A,.bool (rdNum n s).2.2] false)]∧aa aU O A (rdNum n s).2.1) never:=by
 have M:=d.ax;refine ai.same (ar ?_);refine S.ld 0 ?_;refine S.al (tN (n:=n) d (by omega) I) ?_;refine S.ld 0 ?_;refine G.mv ?_;refine G.un ?_;refine G.or ?_;refine S.store 0 ?_;refine S.ld 0 ?_;refine C.B (fun Pn=>?_) fun Pn=>?_
 ·have e:rdNum n s=(0,(s.1,true)):=by unfold rdNum;rw[ae Pn]
  rw[e,Pn];exact⟨_,.t rfl .nil,.done ⟨rfl,o,rfl,d⟩⟩
 ·have e:rdNum n s=((cf s.1 n).1,(s.1.drop n,false)):=by unfold rdNum;rw[ab (by rw[Pn];simp)]
  have hk:n≤s.1.length:=by
   have aj:(cf s.1 n).2=true:=by cases h:(cf s.1 n).2<;>simp[h]at Pn⊢
   unfold cf at aj;split at aj
   ·cases aj
   ·omega
  obtain⟨w,L,D⟩:=aa.lo d hk;have Q:=D.ax;rw[e,Pn];refine S.ld 0 ?_;refine S.slice L ?_;refine S.fB 0 ?_;exact⟨_,.t rfl .nil,.done ⟨rfl,w,rfl,D⟩⟩
theorem BW [Fx F] {a:Pa} {j:V} {s:cL} (A:aa aU O j s.1) (Q:s.1.length≤1000000):ai F 231 [.ptr a 0] O [(some a,.cells [j,.bool s.2] false)] (fun r ψ R=>ψ=O∧r=.agg (aq.f (fi s).1)∧∃o,R=[(some a,.cells [o,.bool (fi s).2.2] false)]∧aa aU O o (fi s).2.1) never:=by
 have M:=dh 2 s;refine ai.same (ar ?_);refine S.alloc fun L=>?_;refine S.ba 1 rfl (jr (s:=s) (n:=2) A (by omega) (by omega)) fun v5 ac G U d=>?_;obtain⟨d,rfl,Z,rfl,B⟩:=d;have d:=d.symm;subst d;have d:=B;refine S.ba 0 rfl (jr (s:=(rdNum 2 s).2) (n:=4) d (by omega) (by omega)) fun Y ae I W h=>?_;obtain⟨h,rfl,ab,rfl,D⟩:=h;have h:=h.symm;subst h;have h:=D;refine S.build ?_;refine S.store 1 ?_;exact⟨_,.cN 1 rfl rfl rfl rfl .nil,.only 0 ⟨rfl,_,rfl,h⟩⟩
theorem w8 (s:cL):0≤(rdNum 1 s).1∧(rdNum 1 s).1≤255:=by
 have d:0≤(cf s.1 1).1∧(cf s.1 1).1≤255:=by
  unfold cf;split
  ·exact⟨by decide,by decide⟩
  ·refine⟨vG _,?_⟩;have o:=vH (s.1.take 1);have j:(256:Int)^(s.1.take 1).length≤256:=by
    have:(s.1.take 1).length=0∨(s.1.take 1).length=1:=by rw[cE];omega
    rcases this with h|h<;>rw[h]<;>decide
   show dB (s.1.take 1)≤255;omega
 unfold rdNum;split
 ·exact⟨ej 0,(by decide:(0:Int)≤255)⟩
 ·exact d
theorem BX [Fx F] {a:Pa} {U:V} {s:cL} (ac:aa aU O U s.1) (aE:s.1.length≤1000000):ai F 196 [.ptr a 0] O [(some a,.cells [U,.bool s.2] false)] (fun r ψ R=>ψ=O∧∃W q,R=[(some a,.cells [W,.bool (gX s).2.2] false),aq.ob q (gX s).1]∧aa aU O W (gX s).2.1∧af aq r (gX s).1 q) never:=by
 have ay:=dh 1 s;have aH:=w8 s;refine ai.same (ar ?_);refine S.ba 0 rfl (jr (s:=s) (n:=1) ac (by omega) (by omega)) fun aK aM av aJ o=>?_;obtain⟨o,rfl,ap,rfl,al⟩:=o;have o:=o.symm;subst o;have o:=al;obtain⟨M,Y⟩:∃k:Nat,(rdNum 1 s).1=(k:Int):=⟨(rdNum 1 s).1.toNat,by omega⟩
 have ae:gX s=jK M (rdNum 1 s).2 []:=by unfold gX;rw[Y,hC]
 rw[ae,Y];refine SW.new aq ?_;refine SW.bF (fun m E ψ R=>∃(d:cL) (A:List ah) (w v:V) (q:Option Pa),jK m d A=jK M (rdNum 1 s).2 []∧d.1.length≤1000000∧A.length+m≤255∧O=ψ∧aa aU O w d.1∧R=[(some a,.cells [w,.bool d.2] false),aq.ob q A]∧af aq v A q∧Sub [(0,.ptr a 0),(3,v),(4,.j (m:Int))] E) (m:=M) (.front 1 rfl (.done ⟨(rdNum 1 s).2,[],ap,.no .sl,none,rfl,by omega,by simp;omega,rfl,o,rfl,af.nil,.r rfl⟩)) ?_;intro Q E ψ R aF ab;obtain⟨d,A,w,v,q,I,ag,aC,rfl,hw,rfl,ho,Z⟩:=ab;refine C.sub Z ?_;refine S.bin ?_;refine G.mv ?_;refine G.nil? ?_;refine G.aD ?_;refine G.ld 0 ?_;refine G.un ?_;refine G.and ?_;refine C.B (fun OX=>?_) fun OX=>?_
 ·simp only[be,c3,aR]at OX;obtain⟨L,rfl⟩:∃L,Q=L+1:=⟨Q-1,by omega⟩
  rw[zX OX.2]at I;have aA:=dh 2 d;have aB:=dh 4 (rdNum 2 d).2;have az:(fi d).2.1.length≤d.1.length:=by unfold fi;simp only;omega
  refine S.ba 0 rfl (BW (s:=d) hw ag) fun v20 aL au aI D=>?_;obtain⟨D,rfl,ao,rfl,ak⟩:=D;have D:=D.symm;subst D;refine S.a8 fun aw=>?_;refine S.br (m:=[(fi d).1]) 2 ho (.lit 0) (by simp;omega) fun v22 an am=>?_;refine S.drop 0 ?_;refine S.mv ?_;refine S.bin ?_ (v:=.j (L:Int)) (hv:=by rw[fU (by omega) (by omega)];congr 2;omega);exact⟨L,by omega,.done ⟨(fi d).2,A++[(fi d).1],ao,v22,an,I,by omega,by simp;omega,rfl,ak,rfl,am,.r rfl⟩⟩
 ·have aj:Q=0∨d.2=true:=by
   simp only[iF,bD,du]at OX;rcases OX with h|h
   ·exact .inl (by omega)
   ·exact .inr h
  rw[zW aj]at I;rw[←I];exact⟨_,.t rfl .nil,.done ⟨_,q,rfl,hw,ho⟩⟩
def okB (m n:Int):Bool:=decide (0≤n)&&decide (n≤m)
def dE (b:Bool) (n m:Int):Bool:=b||decide (n<0)||decide (m<n)
theorem mO (b:Bool) (n m:Int):dE b n m=(b||!okB m n):=by
 unfold dE okB;by_cases o:n<0
 ·simp[o]
 ·have aj:0≤n:=by omega
  by_cases d:m<n
  ·simp[d]
  ·have h:n≤m:=by omega
   simp[o,aj,d,h]
theorem nR (m:Int):∀(l:List Int) (b:Bool),l.foldl (fun b n=>dE b n m) b=(b||!l.all (okB m))
 |[],b=>by simp
 |n::l,b=>by rw[gK,nR m l,mO,k4];cases b<;>cases okB m n<;>simp
def ki (b:Bool) (p:List ah):Bool:=p.foldl (fun b q=>dE (dE b q.addr 65535) q.gen 1073741824) b
theorem tO:∀(p:List ah) (b:Bool),ki b p=(b||!p.all dI)
 |[],b=>by simp[ki]
 |q::p,b=>by
  show ki (dE (dE b q.addr 65535) q.gen 1073741824) p=_;rw[tO p,mO,mO,k4];have:dI q=(okB 65535 q.addr&&okB 1073741824 q.gen):=rfl;rw[this];cases b<;>cases okB 65535 q.addr<;>cases okB 1073741824 q.gen<;>simp
def wB (a:Pa) (k g:Int) (ld:Bs) (bad:Bool):Ob:=(some a,.cells [.j k,.j g,.str ld,.bool bad] false)
theorem tP [Fx F] {a:Pa} {k g n dr:Int} {ld:Bs} {bad:Bool}:ai F 176 [.ptr a 0,.j n,.j dr] O [wB a k g ld bad] (fun r ψ R=>ψ=O∧r=.ptr a 0∧R=[wB a k g ld (dE bad n dr)]) never:=by
 refine ar ?_;refine S.ld 0 ?_;refine G.mv ?_;refine G.bin ?_;refine G.or ?_;refine G.mv ?_;refine G.mv ?_;refine G.bin ?_;refine G.or ?_;refine S.store 0 ?_;exact⟨_,.t rfl .nil,.done ⟨rfl,rfl,rfl⟩⟩
theorem tQ [Fx F] {k g:Int}:ai F 172 [.j k,.j g] O [] (fun r ψ R=>ψ=O∧∃a,r=.ptr a 0∧R=[wB a k g [] (dE false g 1073741824)]) never:=by
 refine ar ?_;refine S.build ?_ (l:=[.j k,.j g,.str []]);refine S.build ?_ (l:=[.j k,.j g,.str [],.bool false]);refine S.box fun h=>?_;refine S.ba 0 rfl (tP (a:=h) (k:=k) (g:=g) (ld:=[]) (bad:=false)) fun B D o A d=>?_;obtain⟨d,rfl,rfl⟩:=d;have d:=d.symm;subst d;exact⟨_,.t rfl .nil,.done ⟨rfl,h,rfl,rfl⟩⟩
theorem mP [Fx F] {a:Pa} {k g dr:Int} {ld:Bs} {bad:Bool} {n:Nat} {o:V} {l:List Int} (hl:aa bt O o l) (hn:1≤n) (Q:n≤4) (L:ld.length+l.length*n≤1000000) (M:l.length≤1000000):ai F 173 [.ptr a 0,.j (n:Int),.j dr,o] O [wB a k g ld bad] (fun r ψ R=>ψ=O∧R=[wB a k g (ld++bo n l) (l.foldl (fun b n=>dE b n dr) bad)]) never:=by
 refine ai.same (ar ?_);refine S.len ?_ (hl:=aa.len hl);refine SW.bF (fun m E ψ R=>∃j:Nat,j+m=l.length∧O=ψ∧R=[wB a k g ld ((l.take j).foldl (fun b n=>dE b n dr) bad)]∧Sub [(0,.ptr a 0),(1,.j (n:Int)),(2,.j dr),(3,o),(10,o),(11,.j (l.length:Int)),(12,.j (j:Int))] E) (m:=l.length) (.done ⟨0,by omega,rfl,rfl,.r rfl⟩) ?_;intro W E ψ R ae I;obtain⟨j,hj,rfl,rfl,G⟩:=I;refine C.sub G ?_;refine S.bin ?_;refine C.D (fun O6=>?_) fun O6=>?_
 ·have A:j<l.length:=by omega
  refine S.aF hl A fun aj ac=>?_;refine S.a1 ?_;refine S.ba 0 rfl (tP) fun al ao Z ag d=>?_;obtain⟨d,rfl,rfl⟩:=d;have d:=d.symm;subst d;refine S.bin ?_;exact⟨W-1,by omega,.done ⟨j+1,by omega,rfl,by rw[nK _ _ _ _ A];(try rfl),.r rfl⟩⟩
 ·obtain rfl:j=l.length:=by omega
  rw[dT];refine S.ld 0 ?_;refine S.jH fun am ap U B=>?_;have hl:=hl.mono U;refine S.call (rI (n:=n) B hl hn Q L M) fun an au ab ah h=>?_;obtain⟨h,ak,rfl,Y⟩:=h;have h:=h.symm;subst h;refine S.hM 0 Y ?_;refine S.store 1 ?_;exact⟨_,.nil,.only 1 rfl⟩
end Go.Ev
set_option maxHeartbeats 1000000
namespace Go.Ev
variable{F:Nat→Option aP} {O:Fz}
theorem Mp (p:ah):bo 2 [p.addr]++bo 4 [p.gen]=lP p:=by simp[bo,lP]
theorem w9 [Fx F] {a:Pa} {k g:Int} {ld:Bs} {bad:Bool} {o:V} {p:List ah} (hp:aa aq O o p) (ag:ld.length+p.length*6≤900000):ai F 175 [.ptr a 0,o] O [wB a k g ld bad] (fun _ ψ R=>ψ=O∧R=[wB a k g (ld++cM p) (ki bad p)]) never:=by
 refine ai.same (ar ?_);refine S.len ?_ (hl:=aa.len hp);refine SW.bF (fun m E ψ R=>∃j:Nat,j+m=p.length∧aa aq ψ o p∧R=[wB a k g (ld++cM (p.take j)) (ki bad (p.take j))]∧Sub [(0,.ptr a 0),(1,o),(6,o),(7,.j (p.length:Int)),(8,.j (j:Int))] E) (m:=p.length) (.done ⟨0,by omega,hp,by simp[cM,ki],.r rfl⟩) ?_;intro W E ψ R aj M;obtain⟨j,hj,hp,rfl,L⟩:=M;refine C.sub L ?_;refine S.bin ?_;refine C.D (fun O7=>?_) fun O7=>?_
 ·have A:j<p.length:=by omega
  have hlen:(cM (p.take j)).length=6*j:=by rw[re,cE,hD (by omega)]
  refine S.aF hp A fun am ae=>?_;refine S.bJ ?_ (l:=aq.f p[j]);refine S.alloc fun a5=>?_;refine S.store 0 ?_;refine S.ld 0 ?_;refine S.a8 fun B=>?_;have Y:af bt (.sl B 0 1 (.ex 1)) [p[j].addr] (some B):=af.new rfl;refine S.cd 0 Y fun ap Q G=>?_;refine S.ba 1 rfl (mP (n:=2) G (by omega) (by omega) (by rw[c2,hlen];simp;omega) (by simp)) fun an au ab ak d=>?_;obtain⟨d,rfl⟩:=d;have d:=d.symm;subst d;refine S.ld 1 ?_;refine S.a8 fun a20=>?_;have Z:af bt (.sl a20 0 1 (.ex 1)) [p[j].gen] (some a20):=af.new rfl;refine S.cd 0 Z fun av U I=>?_;refine S.ba 0 rfl (mP (n:=4) I (by omega) (by omega) (by rw[c2,c2,hlen];simp[fW];omega) (by simp)) fun ao aw ac al h=>?_;obtain⟨h,rfl⟩:=h;have h:=h.symm;subst h;refine S.bin ?_;refine⟨W-1,by omega,.drop 1 (.done ⟨j+1,by omega,((hp.mono Q).mono U),?_,.r rfl⟩)⟩;rw[wa A,←Mp];unfold ki;rw[nK _ _ _ _ A,←bp,←bp];(try rfl)
 ·obtain rfl:j=p.length:=by omega
  rw[dT];exact⟨_,.nil,.done rfl⟩
def hy (k g:Int) (ld:Bs) (bad:Bool):aT:=if bad||decide (55<ld.length)then fA else⟨k,g,ld⟩
theorem tR [Fx F] {a:Pa} {k g:Int} {ld:Bs} {bad:Bool}:ai F 174 [.ptr a 0] O [wB a k g ld bad] (fun r ψ R=>ψ=O∧r=.agg (bu.f (hy k g ld bad))∧R=[wB a k g ld bad]) never:=by
 have hd:(bad||decide ((55:Int)<(ld.length:Int)))=(bad||decide (55<ld.length)):=by rw[show decide ((55:Int)<(ld.length:Int))=decide (55<ld.length)from decide_eq_decide.2 (by omega)]
 refine ar ?_;refine S.alloc fun d=>?_;refine S.ld 1 ?_;refine G.mv ?_;refine G.nil? ?_;refine G.aD ?_;refine G.aD ?_;refine G.ld 1 ?_;refine G.cb ?_;refine G.bin ?_;refine G.or ?_;refine C.B (fun OX=>?_) fun OX=>?_
 ·have e:hy k g ld bad=fA:=by unfold hy;rw[ae (by rw[←hd];exact OX)]
  rw[e];refine S.build ?_;refine S.store 0 ?_;exact⟨_,.cN 0 rfl rfl rfl rfl .nil,.only 1 ⟨rfl,rfl,rfl⟩⟩
 ·have e:hy k g ld bad=⟨k,g,ld⟩:=by unfold hy;rw[ab (by rw[←hd,OX];simp)]
  rw[e];refine S.ag 1 ?_ (l:=[.j k,.j g,.str ld]);refine S.store 0 ?_;exact⟨_,.cN 0 rfl rfl rfl rfl .nil,.only 1 ⟨rfl,rfl,rfl⟩⟩
theorem Mq (gen:Int) (r:bA):hy 1 gen ([]++bo 1 [r.ino,r.idx]++r.load) ([r.ino,r.idx].foldl (fun b n=>dE b n 255) (dE false gen 1073741824))=fZ gen r:=by
 rw[nR,mO];unfold hy fZ;have d:([]++bo 1 [r.ino,r.idx]++r.load)=[bM r.ino,bM r.idx]++r.load:=by simp[bo,le]
 rw[d];have j:q5 gen r=(okB 1073741824 gen&&(okB 255 r.ino&&okB 255 r.idx)&&decide (r.load.length≤53)):=by
  unfold q5 e1 kO okB;cases decide (0≤gen)<;>cases decide (gen≤1073741824)<;>cases decide (0≤r.ino)<;>cases decide (r.ino≤255)<;>cases decide (0≤r.idx)<;>cases decide (r.idx≤255)<;>rfl
 have o:decide (55<([bM r.ino,bM r.idx]++r.load).length)=!decide (r.load.length≤53):=by
  simp only[c2,b7,na];by_cases h:r.load.length≤53
  ·rw[decide_eq_true h,decide_eq_false (by omega)];(try rfl)
  ·rw[decide_eq_false h,decide_eq_true (by omega)];(try rfl)
 rw[j,o];simp only[k4,qo,k5,jw];cases okB 1073741824 gen<;>cases okB 255 r.ino<;>cases okB 255 r.idx<;>cases decide (r.load.length≤53)<;>rfl
theorem Mr [Fx F] {gen:Int} {r:bA} (R:r.load.length≤1000000):bm F 108 [.j gen,.agg [.j r.ino,.j r.idx,.str r.load]] O (.agg (bu.f (fZ gen r))):=by
 refine ai.al (ar ?_);refine S.box fun a3=>?_;refine S.alloc fun a4=>?_;refine S.call (tQ (k:=1) (g:=gen)) fun ae ak M Z o=>?_;obtain⟨o,Q,rfl,rfl⟩:=o;have o:=o.symm;subst o;refine S.ld 2 ?_;refine S.ld 2 ?_;refine S.a8 fun A=>?_;have G:af bt (.sl A 0 2 (.ex 2)) [r.ino,r.idx] (some A):=af.new rfl;refine S.cd 0 G fun ag U D=>?_;refine S.ba 0 rfl (mP (n:=1) D (by omega) (by omega) (by simp<;>omega) (by simp)) fun ab ah I W d=>?_;obtain⟨d,rfl⟩:=d;have d:=d.symm;subst d;refine S.ld 0 ?_;refine S.ld 2 ?_;refine S.bin ?_ (hv:=my (by simp[fW];omega));refine S.store 0 ?_;refine S.ba 0 rfl (tR) fun ac aj L Y h=>?_;obtain⟨h,rfl,rfl⟩:=h;have h:=h.symm;subst h;have B:hy 1 gen ([]++bo 1 [r.ino,r.idx]++r.load) ([r.ino,r.idx].foldl (fun b n=>dE b n 255) (dE false gen 1073741824))=fZ gen r:=Mq gen r;rw[B];refine S.store 1 ?_;exact⟨_,.cN 1 rfl rfl rfl rfl .nil,.none rfl⟩
end Go.Ev
set_option maxHeartbeats 2000000
namespace Go.Ev
variable{F:Nat→Option aP} {O:Fz}
theorem BY {l:Bs} (h:2≤l.length):rdNum 1 (rdNum 1 (l,false)).2=((((l[1]?).getD 0).toNat:Int),(l.drop 2,false))∧(rdNum 1 (l,false)).1=(((l[0]?).getD 0).toNat:Int):=by
 obtain⟨a,b,r,rfl⟩:∃a b r,l=a::b::r:=by
  cases l with
  |nil=>simp at h
  |cons a l=>cases l with
   |nil=>simp at h
   |cons b r=>exact⟨a,b,r,rfl⟩
 simp[rdNum,cf,dB]
theorem Ms {l:Bs} (h:¬2≤l.length):(rdNum 1 (rdNum 1 (l,false)).2).2.2=true:=by
 cases l with
 |nil=>simp[rdNum,cf]
 |cons a l=>cases l with
  |nil=>simp[rdNum,cf]
  |cons b r=>simp at h
theorem Mt (n:Int):e1 n=okB 1073741824 n:=rfl
theorem tS (n:Nat) (m:Nat):okB (m:Int) (n:Int)=decide (n≤m):=by
 unfold okB;rw[decide_eq_true (show(0:Int)≤(n:Int) by omega),gL];exact decide_eq_decide.2 (by omega)
theorem Mu (gen:Int) (r:cK) (p:List ah) (hp:p.length≤100000):hy 3 gen ([]++bo 1 [r.kind]++bo 4 [r.id,r.cZ,r.base,r.done]++bo 1 [(p.length:Int)]++cM p)
 (ki ([(p.length:Int)].foldl (fun b n=>dE b n 255) ([r.id,r.cZ,r.base,r.done].foldl (fun b n=>dE b n 1073741824) ([r.kind].foldl (fun b n=>dE b n 255) (dE (dE false gen 1073741824) (p.length:Int) 6)))) p)=ey gen r p:=by
 rw[tO,nR,nR,nR,mO,mO];unfold hy ey;have h:([]++bo 1 [r.kind]++bo 4 [r.id,r.cZ,r.base,r.done]++bo 1 [(p.length:Int)]++cM p)=le 1 r.kind++bo 4 [r.id,r.cZ,r.base,r.done]++le 1 (p.length:Int)++cM p:=by simp[bo]
 rw[h];have hlen:(le 1 r.kind++bo 4 [r.id,r.cZ,r.base,r.done]++le 1 (p.length:Int)++cM p).length=18+6*p.length:=by simp[fz,fW,re];omega
 rw[hlen];have A:okB 6 (p.length:Int)=decide (p.length≤6):=tS p.length 6;have o:okB 255 (p.length:Int)=decide (p.length≤255):=tS p.length 255;have j:kQ gen r p=(okB 1073741824 gen&&decide (p.length≤6)&&okB 255 r.kind&&okB 1073741824 r.id&&okB 1073741824 r.cZ&&okB 1073741824 r.base&&okB 1073741824 r.done&&p.all dI):=rfl;rw[j];simp only[k4,qo,k5,jw,A,o];by_cases d:p.length≤6
 ·rw[decide_eq_true d,decide_eq_true (show p.length≤255 by omega),decide_eq_false (show¬55<18+6*p.length by omega)];cases okB 1073741824 gen<;>cases okB 255 r.kind<;>cases okB 1073741824 r.id<;>cases okB 1073741824 r.cZ<;>cases okB 1073741824 r.base<;>cases okB 1073741824 r.done<;>cases p.all dI<;>rfl
 ·rw[decide_eq_false d];simp
theorem Mv (gen next id:Int) (p:List ah) (hp:p.length≤100000):hy 4 gen ([]++bo 4 [next,id]++bo 1 [(p.length:Int)]++cM p)
 (ki ([(p.length:Int)].foldl (fun b n=>dE b n 255) ([next,id].foldl (fun b n=>dE b n 1073741824) (dE (dE false gen 1073741824) (p.length:Int) 7))) p)=eM gen next id p:=by
 rw[tO,nR,nR,mO,mO];unfold hy eM;have h:([]++bo 4 [next,id]++bo 1 [(p.length:Int)]++cM p)=bo 4 [next,id]++le 1 (p.length:Int)++cM p:=by simp[bo]
 rw[h];have hlen:(bo 4 [next,id]++le 1 (p.length:Int)++cM p).length=9+6*p.length:=by simp[fz,fW,re];omega
 rw[hlen];have A:okB 7 (p.length:Int)=decide (p.length≤7):=tS p.length 7;have o:okB 255 (p.length:Int)=decide (p.length≤255):=tS p.length 255;have j:kR gen next id p=(okB 1073741824 gen&&okB 1073741824 next&&okB 1073741824 id&&decide (p.length≤7)&&p.all dI):=rfl
 rw[j];simp only[k4,qo,k5,jw,A,o];by_cases d:p.length≤7
 ·rw[decide_eq_true d,decide_eq_true (show p.length≤255 by omega),decide_eq_false (show¬55<9+6*p.length by omega)];cases okB 1073741824 gen<;>cases okB 1073741824 next<;>cases okB 1073741824 id<;>cases p.all dI<;>rfl
 ·rw[decide_eq_false d];simp
theorem Mw (i:bO):bo 1 [i.1.ino,i.1.idx]++cM [i.2]=pV i:=by simp[bo,pV,cM]
def lX (b:Bool) (l:List bO):Bool:=l.foldl (fun b i=>ki ([i.1.ino,i.1.idx].foldl (fun b n=>dE b n 255) b) [i.2]) b
theorem BZ:∀(l:List bO) (b:Bool),lX b l=(b||!l.all kP)
 |[],b=>by simp[lX]
 |i::l,b=>by
  show lX (ki ([i.1.ino,i.1.idx].foldl (fun b n=>dE b n 255) b) [i.2]) l=_;rw[BZ l,tO,nR];have:kP i=(okB 255 i.1.ino&&okB 255 i.1.idx&&dI i.2):=rfl;simp only[k4,qo,k5,this];cases b<;>cases okB 255 i.1.ino<;>cases okB 255 i.1.idx<;>cases dI i.2<;>simp
theorem Mx (gen:Int) (l:List bO) (hl:l.length≤6):hy 2 gen ([]++fC l) (lX (dE false gen 1073741824) l)=gW gen l:=by
 rw[BZ,mO];unfold hy gW;rw[fo,wb,decide_eq_false (show¬55<8*l.length by omega),Mt];cases okB 1073741824 gen<;>cases l.all kP<;>rfl
theorem My [Fx F] {gen:Int} {r:cK} {Q:V} {p:List ah} (hp:aa aq O Q p) (Z:p.length≤100000):bm F 112 [.j gen,.agg [.j r.kind,.j r.id,.j r.cZ,.j r.base,.j r.done],Q] O (.agg (bu.f (ey gen r p))):=by
 refine ai.al (ar ?_);refine S.box fun a4=>?_;refine S.alloc fun ay=>?_;refine S.call (tQ (k:=3) (g:=gen)) fun v9 aZ aw aH G=>?_;obtain⟨G,az,rfl,rfl⟩:=G;have G:=G.symm;subst G;refine S.len ?_ (hl:=aa.len hp);refine S.ba 0 rfl (tP) fun aI aP am aA d=>?_;obtain⟨d,rfl,rfl⟩:=d;have d:=d.symm;subst d;refine S.ld 2 ?_;refine S.a8 fun I=>?_;have ag:af bt (.sl I 0 1 (.ex 1)) [r.kind] (some I):=af.new rfl;refine S.cd 0 ag fun aQ ab U=>?_;refine S.ba 0 rfl (mP (n:=1) U (by omega) (by omega) (by simp[fW]<;>omega) (by simp)) fun aJ aR an aB h=>?_;obtain⟨h,rfl⟩:=h;have h:=h.symm;subst h;refine S.ld 2 ?_;refine S.ld 2 ?_;refine S.ld 2 ?_;refine S.ld 2 ?_;refine S.a8 fun L=>?_;have aj:af bt (.sl L 0 4 (.ex 4)) [r.id,r.cZ,r.base,r.done] (some L):=af.new rfl;refine S.cd 0 aj fun aS ac W=>?_;refine S.ba 0 rfl (mP (n:=4) W (by omega) (by omega) (by simp[fW]<;>omega) (by simp)) fun aK aT ao aC o=>?_;obtain⟨o,rfl⟩:=o;have o:=o.symm;subst o;refine S.len ?_ (hl:=aa.len hp);refine S.a8 fun M=>?_;have ak:af bt (.sl M 0 1 (.ex 1)) [(p.length:Int)] (some M):=af.new rfl;refine S.cd 0 ak fun aU ae Y=>?_;refine S.ba 0 rfl (mP (n:=1) Y (by omega) (by omega) (by simp[fW]<;>omega) (by simp)) fun aL aV ap aD A=>?_;obtain⟨A,rfl⟩:=A;have A:=A.symm;subst A;refine S.ba 0 rfl (w9 (hp.mono ab|>.mono ac|>.mono ae) (by simp[fW];omega)) fun aM aW au aE B=>?_;obtain⟨B,rfl⟩:=B;have B:=B.symm;subst B;refine S.ba 0 rfl (tR) fun aO aX av aF D=>?_;obtain⟨D,rfl,rfl⟩:=D;have D:=D.symm;subst D;have R:hy 3 gen ([]++bo 1 [r.kind]++bo 4 [r.id,r.cZ,r.base,r.done]++bo 1 [(p.length:Int)]++cM p) _=ey gen r p:=Mu gen r p Z;rw[R];refine S.store 1 ?_;exact⟨_,.cN 1 rfl rfl rfl rfl .nil,.none rfl⟩
theorem Mz [Fx F] {gen next id:Int} {L:V} {p:List ah} (hp:aa aq O L p) (U:p.length≤100000):bm F 197 [.j gen,.j next,.j id,L] O (.agg (bu.f (eM gen next id p))):=by
 refine ai.al (ar ?_);refine S.alloc fun dL=>?_;refine S.call (tQ (k:=4) (g:=gen)) fun az aF ac ao d=>?_;obtain⟨d,an,rfl,rfl⟩:=d;have d:=d.symm;subst d;refine S.len ?_ (hl:=aa.len hp);refine S.ba 0 rfl (tP) fun aA aH ae ap h=>?_;obtain⟨h,rfl,rfl⟩:=h;have h:=h.symm;subst h;refine S.a8 fun G=>?_;have Z:af bt (.sl G 0 2 (.ex 2)) [next,id] (some G):=af.new rfl;refine S.cd 0 Z fun aI W Q=>?_;refine S.ba 0 rfl (mP (n:=4) Q (by omega) (by omega) (by simp[fW]<;>omega) (by simp)) fun aB aJ ag au o=>?_;obtain⟨o,rfl⟩:=o;have o:=o.symm;subst o;refine S.len ?_ (hl:=aa.len hp);refine S.a8 fun I=>?_;have ab:af bt (.sl I 0 1 (.ex 1)) [(p.length:Int)] (some I):=af.new rfl;refine S.cd 0 ab fun aK Y R=>?_;refine S.ba 0 rfl (mP (n:=1) R (by omega) (by omega) (by simp[fW]<;>omega) (by simp)) fun aC aL aj av A=>?_;obtain⟨A,rfl⟩:=A;have A:=A.symm;subst A;refine S.ba 0 rfl (w9 (hp.mono W|>.mono Y) (by simp[fW];omega)) fun aD aM ak aw B=>?_;obtain⟨B,rfl⟩:=B;have B:=B.symm;subst B;refine S.ba 0 rfl (tR) fun aE aO am ay D=>?_;obtain⟨D,rfl,rfl⟩:=D;have D:=D.symm;subst D;have M:hy 4 gen ([]++bo 4 [next,id]++bo 1 [(p.length:Int)]++cM p) _=eM gen next id p:=Mv gen next id p U
 rw[M];refine S.store 1 ?_;exact⟨_,.cN 1 rfl rfl rfl rfl .nil,.none rfl⟩
theorem MA [Fx F] {x:aT} (hx:x.load.length≤1000000):bm F 233 [.agg [.j x.kind,.j x.gen,.str x.load]] O (.aN [.agg (bq.f ((eh x).getD ⟨0,0,[]⟩)),.bool (eh x).isSome]):=by
 have ap:=dh 1 (x.load,false);have au:=dh 1 (rdNum 1 (x.load,false)).2;have ao:(x.load,false).1.length≤1000000:=hx;refine ai.al (ar ?_);refine S.box fun ah=>?_;refine S.alloc fun am=>?_;refine S.ld 1 ?_;refine S.jH fun Y aH aw M=>?_;have aA:=M.ax;refine S.build ?_ (l:=[Y,.bool false]);refine S.box fun ak=>?_;refine S.ba 0 rfl (jr (s:=(x.load,false)) (n:=1) M (by omega) (by omega)) fun aB aI Z ay h=>?_;obtain⟨h,rfl,aE,rfl,R⟩:=h;have h:=h.symm;subst h;have h:=R;refine S.ba 0 rfl (jr (s:=(rdNum 1 (x.load,false)).2) (n:=1) h (by omega) (by omega)) fun aC aJ ac az o=>?_;obtain⟨o,rfl,aF,rfl,U⟩:=o;have o:=o.symm;subst o;have o:=U;refine S.ld 0 ?_;refine S.tg o ?_;refine S.build ?_;refine S.alloc fun an=>?_;obtain⟨ad,A⟩:∃ad:bA,ad=⟨(rdNum 1 (x.load,false)).1,(rdNum 1 (rdNum 1 (x.load,false)).2).1,(rdNum 1 (rdNum 1 (x.load,false)).2).2.1⟩:=⟨_,rfl⟩
 have Q:ad.load.length≤1000000:=by rw[A];simp only;omega
 refine S.store (v:=.agg [.j ad.ino,.j ad.idx,.str ad.load]) 0 ?_ (hx:=by rw[A];exact .t rfl);refine S.ld 1 ?_;refine G.aD ?_;refine G.ld 3 ?_;refine G.bin ?_;refine G.or ?_;refine G.aD ?_;refine G.ld 3 ?_;refine G.ag 0 ?_ (l:=[.j ad.ino,.j ad.idx,.str ad.load]);refine G.ag 3 ?_ (l:=[.j x.kind,.j x.gen,.str x.load]);refine G.al (fun _=>Mr Q) ?_;refine G.dg 3 ?_ (l:=[.j x.kind,.j x.gen,.str x.load]) (hs:=by simp[same,b9,e0,fx]);refine G.bin ?_ (hv:=fun _=>nJ (fZ x.gen ad) x);refine G.or ?_;refine C.B (fun d=>?_) fun d=>?_
 ·have e:eh x=none:=by
   unfold eh;by_cases aj:x.kind=1∧2≤x.load.length
   ·rw[ae aj];obtain⟨I,L⟩:=BY aj.2;have D:ad=lQ x:=by rw[A,I,L];(try rfl)
    rw[I,D]at d;simp[aj.1]at d;rw[ab d]
   ·rw[ab aj]
  rw[e];refine S.build ?_;refine S.store 2 ?_;exact⟨_,.cN 2 rfl rfl rfl rfl (.t rfl .nil),.none rfl⟩
 ·have e:eh x=some ad:=by
   unfold eh;simp only[cg]at d;by_cases aj:2≤x.load.length
   ·obtain⟨I,L⟩:=BY aj;have D:ad=lQ x:=by rw[A,I,L];(try rfl)
    obtain⟨⟨av,k2⟩,W⟩:=d;rw[ae ⟨by simpa using k2,aj⟩,ae (by rw[←D];simpa using W),D]
   ·rw[Ms aj]at d;exact absurd d.1.1 (by simp)
  rw[e];refine S.ag 0 ?_ (l:=[.j ad.ino,.j ad.idx,.str ad.load]);refine S.store 2 ?_;exact⟨_,.cN 2 rfl rfl rfl rfl (.t rfl .nil),.none rfl⟩
end Go.Ev
