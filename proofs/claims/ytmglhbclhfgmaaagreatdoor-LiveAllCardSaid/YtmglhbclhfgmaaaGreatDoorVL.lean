/- A part of the proof of glacislaw13.LiveAll (made short by a program). -/
import Derived.Test.YtmglhbclhfgmaaaGreatDoorVK
set_option maxHeartbeats 1000000
namespace Go.Ev
variable{F:Nat→Option aN} {O:Fz}
theorem ala (p:ag):bo 2 [p.addr]++bo 4 [p.gen]=q5 p:=by simp[bo,q5]
theorem Ns [Fx F] {a:Pa} {k g:Int} {ld:Bs} {bad:Bool} {pv:V} {p:List ag} (hp:aa aq O pv p) (hb:ld.length+p.length*6≤900000):ai F 186 [.ptr a 0,pv] O [wB a k g ld bad] (fun _ ψ R=>ψ=O∧R=[wB a k g (ld++dg p) (oq bad p)]) never:=by
 refine ai.same (au ?_);refine S.len ?_ (hl:=aa.len hp);refine SW.bG (fun m E ψ R=>∃j:Nat,j+m=p.length∧aa aq ψ pv p∧R=[wB a k g (ld++dg (p.take j)) (oq bad (p.take j))]∧Sub [(0,.ptr a 0),(1,pv),(6,pv),(7,.j (p.length:Int)),(8,.j (j:Int))] E) (m:=p.length) (.done ⟨0,by omega,hp,by simp[dg,oq],.r rfl⟩) ?_;intro m0 E ψ R ac hI;obtain⟨j,hj,hp,rfl,hE⟩:=hI;refine C.sub hE ?_;refine S.bin ?_;refine C.D (fun eN=>?_) fun eN=>?_
 ·have tG:j<p.length:=by omega
  have hlen:(dg (p.take j)).length=6*j:=by rw[CU,ab7,aqn (by omega)]
  refine S.aF hp tG fun J6 J7=>?_;refine S.bP ?_ (l:=aq.f p[j]);refine S.alloc fun a5=>?_;refine S.store 0 ?_;refine S.ld 0 ?_;refine S.a8 fun r6=>?_;have x8:ae bp (.sl r6 0 1 (.ex 1)) [p[j].addr] (some r6):=ae.new rfl;refine S.ct 0 x8 fun qd oR dR=>?_;refine S.bb 1 rfl (tk (n:=2) dR (by omega) (by omega) (by rw[amv,hlen];simp;omega) (by simp)) fun oP qe vZ kZ c2=>?_;obtain⟨c2,rfl⟩:=c2;have c2:=c2.symm;subst c2;refine S.ld 1 ?_;refine S.a8 fun a20=>?_;have AE:ae bp (.sl a20 0 1 (.ex 1)) [p[j].gen] (some a20):=ae.new rfl;refine S.ct 0 AE fun sb se cU=>?_;refine S.bb 0 rfl (tk (n:=4) cU (by omega) (by omega) (by rw[amv,amv,hlen];simp[ij];omega) (by simp)) fun Aw EQ ER BM eO=>?_;obtain⟨eO,rfl⟩:=eO;have eO:=eO.symm;subst eO;refine S.bin ?_;refine⟨m0-1,by omega,.drop 1 (.done ⟨j+1,by omega,((hp.mono oR).mono se),?_,.r rfl⟩)⟩;rw[Mz tG,←ala];unfold oq;rw[vb _ _ _ _ tG,←KK,←KK];(try rfl)
 ·obtain rfl:j=p.length:=by omega
  rw[ap2];exact⟨_,.nil,.done rfl⟩
def jv (k g:Int) (ld:Bs) (bad:Bool):aV:=if bad||decide (55<ld.length)then hG else⟨k,g,ld⟩
theorem G0 [Fx F] {a:Pa} {k g:Int} {ld:Bs} {bad:Bool}:ai F 187 [.ptr a 0] O [wB a k g ld bad] (fun r ψ R=>ψ=O∧r=.agg (bw.f (jv k g ld bad))∧R=[wB a k g ld bad]) never:=by
 have hd:(bad||decide ((55:Int)<(ld.length:Int)))=(bad||decide (55<ld.length)):=by rw[show decide ((55:Int)<(ld.length:Int))=decide (55<ld.length)from decide_eq_decide.2 (by omega)]
 refine au ?_;refine S.alloc fun a2=>?_;refine S.ld 1 ?_;refine G.mv ?_;refine G.nil? ?_;refine G.aE ?_;refine G.aE ?_;refine G.ld 1 ?_;refine G.cD ?_;refine G.bin ?_;refine G.or ?_;refine C.B (fun cp=>?_) fun cp=>?_
 ·have e:jv k g ld bad=hG:=by unfold jv;rw[B4 (by rw[←hd];exact cp)]
  rw[e];refine S.build ?_;refine S.store 0 ?_;exact⟨_,.cN 0 rfl rfl rfl rfl .nil,.only 1 ⟨rfl,rfl,rfl⟩⟩
 ·have e:jv k g ld bad=⟨k,g,ld⟩:=by unfold jv;rw[pg (by rw[←hd,cp];simp)]
  rw[e];refine S.af 1 ?_ (l:=[.j k,.j g,.str ld]);refine S.store 0 ?_;exact⟨_,.cN 0 rfl rfl rfl rfl .nil,.only 1 ⟨rfl,rfl,rfl⟩⟩
theorem alb (gen:Int) (r:bH):jv 1 gen ([]++bo 1 [r.ino,r.idx]++r.load) ([r.ino,r.idx].foldl (fun b n=>en b n 255) (en false gen 1073741824))=im gen r:=by
 rw[vl,tj];unfold jv im;have e1:([]++bo 1 [r.ino,r.idx]++r.load)=[bS r.ino,bS r.idx]++r.load:=by simp[bo,le]
 rw[e1];have e2:CS gen r=(okB 1073741824 gen&&(okB 255 r.ino&&okB 255 r.idx)&&decide (r.load.length≤53)):=by
  unfold CS gg pH okB;cases decide (0≤gen)<;>cases decide (gen≤1073741824)<;>cases decide (0≤r.ino)<;>cases decide (r.ino≤255)<;>cases decide (0≤r.idx)<;>cases decide (r.idx≤255)<;>rfl
 have e3:decide (55<([bS r.ino,bS r.idx]++r.load).length)=!decide (r.load.length≤53):=by
  simp only[amv,WW,aqW];by_cases h:r.load.length≤53
  ·rw[decide_eq_true h,decide_eq_false (by omega)];(try rfl)
  ·rw[decide_eq_false h,decide_eq_true (by omega)];(try rfl)
 rw[e2,e3];simp only[aqJ,arB,aqK,aqu];cases okB 1073741824 gen<;>cases okB 255 r.ino<;>cases okB 255 r.idx<;>cases decide (r.load.length≤53)<;>rfl
theorem alc [Fx F] {gen:Int} {r:bH} (hb:r.load.length≤1000000):bk F 224 [.j gen,.agg [.j r.ino,.j r.idx,.str r.load]] O (.agg (bw.f (im gen r))):=by
 refine ai.ak (au ?_);refine S.box fun a3=>?_;refine S.alloc fun a4=>?_;refine S.call (GZ (k:=1) (g:=gen)) fun v7 wn O7 A9 h7=>?_;obtain⟨h7,BT,rfl,rfl⟩:=h7;have h7:=h7.symm;subst h7;refine S.ld 2 ?_;refine S.ld 2 ?_;refine S.a8 fun gS=>?_;have vJ:ae bp (.sl gS 0 2 (.ex 2)) [r.ino,r.idx] (some gS):=ae.new rfl;refine S.ct 0 vJ fun nr p8 c0=>?_;refine S.bb 0 rfl (tk (n:=1) c0 (by omega) (by omega) (by simp<;>omega) (by simp)) fun nw tQ tR qc b4=>?_;obtain⟨b4,rfl⟩:=b4;have b4:=b4.symm;subst b4;refine S.ld 0 ?_;refine S.ld 2 ?_;refine S.bin ?_ (hv:=sS (by simp[ij];omega));refine S.store 0 ?_;refine S.bb 0 rfl (G0) fun um sq wD o9 c3=>?_;obtain⟨c3,rfl,rfl⟩:=c3;have c3:=c3.symm;subst c3;have wS:jv 1 gen ([]++bo 1 [r.ino,r.idx]++r.load) ([r.ino,r.idx].foldl (fun b n=>en b n 255) (en false gen 1073741824))=im gen r:=alb gen r;rw[wS];refine S.store 1 ?_;exact⟨_,.cN 1 rfl rfl rfl rfl .nil,.none rfl⟩
end Go.Ev
set_option maxHeartbeats 2000000
namespace Go.Ev
variable{F:Nat→Option aN} {O:Fz}
theorem Wc {l:Bs} (h:2≤l.length):rdNum 1 (rdNum 1 (l,false)).2=((((l[1]?).getD 0).toNat:Int),(l.drop 2,false))∧(rdNum 1 (l,false)).1=(((l[0]?).getD 0).toNat:Int):=by
 obtain⟨a,b,r,rfl⟩:∃a b r,l=a::b::r:=by
  cases l with
  |nil=>simp at h
  |cons a l=>cases l with
   |nil=>simp at h
   |cons b r=>exact⟨a,b,r,rfl⟩
 simp[rdNum,cF,ej]
theorem ald {l:Bs} (h:¬2≤l.length):(rdNum 1 (rdNum 1 (l,false)).2).2.2=true:=by
 cases l with
 |nil=>simp[rdNum,cF]
 |cons a l=>cases l with
  |nil=>simp[rdNum,cF]
  |cons b r=>simp at h
theorem ale (n:Int):gg n=okB 1073741824 n:=rfl
theorem G3 (n:Nat) (m:Nat):okB (m:Int) (n:Int)=decide (n≤m):=by
 unfold okB;rw[decide_eq_true (show(0:Int)≤(n:Int) by omega),aql];exact decide_eq_decide.2 (by omega)
theorem alf (gen:Int) (r:dn) (p:List ag) (hp:p.length≤100000):jv 3 gen ([]++bo 1 [r.kind]++bo 4 [r.id,r.dx,r.base,r.done]++bo 1 [(p.length:Int)]++dg p)
 (oq ([(p.length:Int)].foldl (fun b n=>en b n 255) ([r.id,r.dx,r.base,r.done].foldl (fun b n=>en b n 1073741824) ([r.kind].foldl (fun b n=>en b n 255) (en (en false gen 1073741824) (p.length:Int) 6)))) p)=fA gen r p:=by
 rw[GX,vl,vl,vl,tj,tj];unfold jv fA;have e1:([]++bo 1 [r.kind]++bo 4 [r.id,r.dx,r.base,r.done]++bo 1 [(p.length:Int)]++dg p)=le 1 r.kind++bo 4 [r.id,r.dx,r.base,r.done]++le 1 (p.length:Int)++dg p:=by simp[bo]
 rw[e1];have hlen:(le 1 r.kind++bo 4 [r.id,r.dx,r.base,r.done]++le 1 (p.length:Int)++dg p).length=18+6*p.length:=by simp[hD,ij,CU];omega
 rw[hlen];have h6:okB 6 (p.length:Int)=decide (p.length≤6):=G3 p.length 6;have Kp:okB 255 (p.length:Int)=decide (p.length≤255):=G3 p.length 255;have e2:pJ gen r p=(okB 1073741824 gen&&decide (p.length≤6)&&okB 255 r.kind&&okB 1073741824 r.id&&okB 1073741824 r.dx&&okB 1073741824 r.base&&okB 1073741824 r.done&&p.all ep):=rfl;rw[e2];simp only[aqJ,arB,aqK,aqu,h6,Kp];by_cases BU:p.length≤6
 ·rw[decide_eq_true BU,decide_eq_true (show p.length≤255 by omega),decide_eq_false (show¬55<18+6*p.length by omega)];cases okB 1073741824 gen<;>cases okB 255 r.kind<;>cases okB 1073741824 r.id<;>cases okB 1073741824 r.dx<;>cases okB 1073741824 r.base<;>cases okB 1073741824 r.done<;>cases p.all ep<;>rfl
 ·rw[decide_eq_false BU];simp
theorem alg (gen next id:Int) (p:List ag) (hp:p.length≤100000):jv 4 gen ([]++bo 4 [next,id]++bo 1 [(p.length:Int)]++dg p)
 (oq ([(p.length:Int)].foldl (fun b n=>en b n 255) ([next,id].foldl (fun b n=>en b n 1073741824) (en (en false gen 1073741824) (p.length:Int) 7))) p)=gh gen next id p:=by
 rw[GX,vl,vl,tj,tj];unfold jv gh;have e1:([]++bo 4 [next,id]++bo 1 [(p.length:Int)]++dg p)=bo 4 [next,id]++le 1 (p.length:Int)++dg p:=by simp[bo]
 rw[e1];have hlen:(bo 4 [next,id]++le 1 (p.length:Int)++dg p).length=9+6*p.length:=by simp[hD,ij,CU];omega
 rw[hlen];have h6:okB 7 (p.length:Int)=decide (p.length≤7):=G3 p.length 7;have Kp:okB 255 (p.length:Int)=decide (p.length≤255):=G3 p.length 255;have e2:pK gen next id p=(okB 1073741824 gen&&okB 1073741824 next&&okB 1073741824 id&&decide (p.length≤7)&&p.all ep):=rfl
 rw[e2];simp only[aqJ,arB,aqK,aqu,h6,Kp];by_cases BU:p.length≤7
 ·rw[decide_eq_true BU,decide_eq_true (show p.length≤255 by omega),decide_eq_false (show¬55<9+6*p.length by omega)];cases okB 1073741824 gen<;>cases okB 1073741824 next<;>cases okB 1073741824 id<;>cases p.all ep<;>rfl
 ·rw[decide_eq_false BU];simp
theorem alh (i:b2):bo 1 [i.1.ino,i.1.idx]++dg [i.2]=zB i:=by simp[bo,zB,dg]
def rn (b:Bool) (l:List b2):Bool:=l.foldl (fun b i=>oq ([i.1.ino,i.1.idx].foldl (fun b n=>en b n 255) b) [i.2]) b
theorem Wd:∀(l:List b2) (b:Bool),rn b l=(b||!l.all pI)
 |[],b=>by simp[rn]
 |i::l,b=>by
  show rn (oq ([i.1.ino,i.1.idx].foldl (fun b n=>en b n 255) b) [i.2]) l=_;rw[Wd l,GX,vl];have:pI i=(okB 255 i.1.ino&&okB 255 i.1.idx&&ep i.2):=rfl;simp only[aqJ,arB,aqK,this];cases b<;>cases okB 255 i.1.ino<;>cases okB 255 i.1.idx<;>cases ep i.2<;>simp
theorem ali (gen:Int) (l:List b2) (hl:l.length≤6):jv 2 gen ([]++hO l) (rn (en false gen 1073741824) l)=jn gen l:=by
 rw[Wd,tj];unfold jv jn;rw[aqa,MA,decide_eq_false (show¬55<8*l.length by omega),ale];cases okB 1073741824 gen<;>cases l.all pI<;>rfl
theorem alj [Fx F] {gen:Int} {r:dn} {pv:V} {p:List ag} (hp:aa aq O pv p) (dE:p.length≤100000):bk F 192 [.j gen,.agg [.j r.kind,.j r.id,.j r.dx,.j r.base,.j r.done],pv] O (.agg (bw.f (fA gen r p))):=by
 refine ai.ak (au ?_);refine S.box fun a4=>?_;refine S.alloc fun cb=>?_;refine S.call (GZ (k:=3) (g:=gen)) fun v9 x6 O9 vM h9=>?_;obtain⟨h9,BT,rfl,rfl⟩:=h9;have h9:=h9.symm;subst h9;refine S.len ?_ (hl:=aa.len hp);refine S.bb 0 rfl (GY) fun g4 kX p7 mj cd=>?_;obtain⟨cd,rfl,rfl⟩:=cd;have cd:=cd.symm;subst cd;refine S.ld 2 ?_;refine S.a8 fun Em=>?_;have AD:ae bp (.sl Em 0 1 (.ex 1)) [r.kind] (some Em):=ae.new rfl;refine S.ct 0 AD fun qe kZ c2=>?_;refine S.bb 0 rfl (tk (n:=1) c2 (by omega) (by omega) (by simp[ij]<;>omega) (by simp)) fun k0 rO rP rQ bX=>?_;obtain⟨bX,rfl⟩:=bX;have bX:=bX.symm;subst bX;refine S.ld 2 ?_;refine S.ld 2 ?_;refine S.ld 2 ?_;refine S.ld 2 ?_;refine S.a8 fun Ec=>?_;have o27:ae bp (.sl Ec 0 4 (.ex 4)) [r.id,r.dx,r.base,r.done] (some Ec):=ae.new rfl;refine S.ct 0 o27 fun sq o9 c3=>?_;refine S.bb 0 rfl (tk (n:=4) c3 (by omega) (by omega) (by simp[ij]<;>omega) (by simp)) fun nE yn A0 oW dv=>?_;obtain⟨dv,rfl⟩:=dv;have dv:=dv.symm;subst dv;refine S.len ?_ (hl:=aa.len hp);refine S.a8 fun QQ=>?_;have EU:ae bp (.sl QQ 0 1 (.ex 1)) [(p.length:Int)] (some QQ):=ae.new rfl;refine S.ct 0 EU fun Eg yu oY=>?_;refine S.bb 0 rfl (tk (n:=1) oY (by omega) (by omega) (by simp[ij]<;>omega) (by simp)) fun Be wq Eh ud io=>?_;obtain⟨io,rfl⟩:=io;have io:=io.symm;subst io;refine S.bb 0 rfl (Ns (hp.mono kZ|>.mono o9|>.mono yu) (by simp[ij];omega)) fun ue abb Pz l36 lh=>?_;obtain⟨lh,rfl⟩:=lh;have lh:=lh.symm;subst lh;refine S.bb 0 rfl (G0) fun ya yM EH BF fZ=>?_;obtain⟨fZ,rfl,rfl⟩:=fZ;have fZ:=fZ.symm;subst fZ;have wS:jv 3 gen ([]++bo 1 [r.kind]++bo 4 [r.id,r.dx,r.base,r.done]++bo 1 [(p.length:Int)]++dg p) _=fA gen r p:=alf gen r p dE;rw[wS];refine S.store 1 ?_;exact⟨_,.cN 1 rfl rfl rfl rfl .nil,.none rfl⟩
theorem alk [Fx F] {gen next id:Int} {pv:V} {p:List ag} (hp:aa aq O pv p) (dE:p.length≤100000):bk F 143 [.j gen,.j next,.j id,pv] O (.agg (bw.f (gh gen next id p))):=by
 refine ai.ak (au ?_);refine S.alloc fun ew=>?_;refine S.call (GZ (k:=4) (g:=gen)) fun p9 AA AB qa dB=>?_;obtain⟨dB,BT,rfl,rfl⟩:=dB;have dB:=dB.symm;subst dB;refine S.len ?_ (hl:=aa.len hp);refine S.bb 0 rfl (GY) fun nw tQ tR qc b4=>?_;obtain⟨b4,rfl,rfl⟩:=b4;have b4:=b4.symm;subst b4;refine S.a8 fun p6=>?_;have Av:ae bp (.sl p6 0 2 (.ex 2)) [next,id] (some p6):=ae.new rfl;refine S.ct 0 Av fun j5 mq cK=>?_;refine S.bb 0 rfl (tk (n:=4) cK (by omega) (by omega) (by simp[ij]<;>omega) (by simp)) fun mr wa wb r8 cu=>?_;obtain⟨cu,rfl⟩:=cu;have cu:=cu.symm;subst cu;refine S.len ?_ (hl:=aa.len hp);refine S.a8 fun Bh=>?_;have o23:ae bp (.sl Bh 0 1 (.ex 1)) [(p.length:Int)] (some Bh):=ae.new rfl;refine S.ct 0 o23 fun Bb uc eB=>?_;refine S.bb 0 rfl (tk (n:=1) eB (by omega) (by omega) (by simp[ij]<;>omega) (by simp)) fun JN JO JP wN gN=>?_;obtain⟨gN,rfl⟩:=gN;have gN:=gN.symm;subst gN;refine S.bb 0 rfl (Ns (hp.mono mq|>.mono uc) (by simp[ij];omega)) fun um sq wD o9 c3=>?_;obtain⟨c3,rfl⟩:=c3;have c3:=c3.symm;subst c3;refine S.bb 0 rfl (G0) fun yb yc yd oT d6=>?_;obtain⟨d6,rfl,rfl⟩:=d6;have d6:=d6.symm;subst d6;have wS:jv 4 gen ([]++bo 4 [next,id]++bo 1 [(p.length:Int)]++dg p) _=gh gen next id p:=alg gen next id p dE
 rw[wS];refine S.store 1 ?_;exact⟨_,.cN 1 rfl rfl rfl rfl .nil,.none rfl⟩
theorem alm [Fx F] {x:aV} (hx:x.load.length≤1000000):bk F 195 [.agg [.j x.kind,.j x.gen,.str x.load]] O (.aM [.agg (br.f ((fP x).getD ⟨0,0,[]⟩)),.bool (fP x).isSome]):=by
 have g1:=dY 1 (x.load,false);have g2:=dY 1 (rdNum 1 (x.load,false)).2;have QR:(x.load,false).1.length≤1000000:=hx;refine ai.ak (au ?_);refine S.box fun bs=>?_;refine S.alloc fun a2=>?_;refine S.ld 1 ?_;refine S.mV fun eL rK nu dA=>?_;have qb:=dA.av;refine S.build ?_ (l:=[eL,.bool false]);refine S.box fun ez=>?_;refine S.bb 0 rfl (l3 (s:=(x.load,false)) (n:=1) dA (by omega) (by omega)) fun nw tQ tR qc b4=>?_;obtain⟨b4,rfl,IR,rfl,k14⟩:=b4;have b4:=b4.symm;subst b4;have b4:=k14;refine S.bb 0 rfl (l3 (s:=(rdNum 1 (x.load,false)).2) (n:=1) b4 (by omega) (by omega)) fun oP qe vZ kZ c2=>?_;obtain⟨c2,rfl,Z2,rfl,k16⟩:=c2;have c2:=c2.symm;subst c2;have c2:=k16;refine S.ld 0 ?_;refine S.Gt c2 ?_;refine S.build ?_;refine S.alloc fun c1=>?_;obtain⟨ad,hR⟩:∃ad:bH,ad=⟨(rdNum 1 (x.load,false)).1,(rdNum 1 (rdNum 1 (x.load,false)).2).1,(rdNum 1 (rdNum 1 (x.load,false)).2).2.1⟩:=⟨_,rfl⟩
 have PZ:ad.load.length≤1000000:=by rw[hR];simp only;omega
 refine S.store (v:=.agg [.j ad.ino,.j ad.idx,.str ad.load]) 0 ?_ (hx:=by rw[hR];exact .t rfl);refine S.ld 1 ?_;refine G.aE ?_;refine G.ld 3 ?_;refine G.bin ?_;refine G.or ?_;refine G.aE ?_;refine G.ld 3 ?_;refine G.af 0 ?_ (l:=[.j ad.ino,.j ad.idx,.str ad.load]);refine G.af 3 ?_ (l:=[.j x.kind,.j x.gen,.str x.load]);refine G.ak (fun _=>alc PZ) ?_;refine G.dy 3 ?_ (l:=[.j x.kind,.j x.gen,.str x.load]) (hs:=by simp[same,cm,fv,hB]);refine G.bin ?_ (hv:=fun _=>u5 (im x.gen ad) x);refine G.or ?_;refine C.B (fun jH=>?_) fun jH=>?_
 ·have e:fP x=none:=by
   unfold fP;by_cases J:x.kind=1∧2≤x.load.length
   ·rw[B4 J];obtain⟨q1,q2⟩:=Wc J.2;have EV:ad=ra x:=by rw[hR,q1,q2];(try rfl)
    rw[q1,EV]at jH;simp[J.1]at jH;rw[pg jH]
   ·rw[pg J]
  rw[e];refine S.build ?_;refine S.store 2 ?_;exact⟨_,.cN 2 rfl rfl rfl rfl (.t rfl .nil),.none rfl⟩
 ·have e:fP x=some ad:=by
   unfold fP;simp only[W0]at jH;by_cases J:2≤x.load.length
   ·obtain⟨q1,q2⟩:=Wc J;have EV:ad=ra x:=by rw[hR,q1,q2];(try rfl)
    obtain⟨⟨k1,k2⟩,k3⟩:=jH;rw[B4 ⟨by simpa using k2,J⟩,B4 (by rw[←EV];simpa using k3),EV]
   ·rw[ald J]at jH;exact absurd jH.1.1 (by simp)
  rw[e];refine S.af 0 ?_ (l:=[.j ad.ino,.j ad.idx,.str ad.load]);refine S.store 2 ?_;exact⟨_,.cN 2 rfl rfl rfl rfl (.t rfl .nil),.none rfl⟩
end Go.Ev
set_option maxHeartbeats 4000000
namespace Go.Ev
variable{F:Nat→Option aN} {O:Fz}
theorem aln [Fx F] {v1 v2:V} {a b:List aV} (I:aa bw O v1 a) (J:aa bw O v2 b) (hlen:a.length≤1000000000):bk F 193 [v1,v2] O (.bool (decide (a=b))):=by
 refine ai.ak (au ?_);refine S.len ?_ (hl:=aa.len I);refine S.len ?_ (hl:=aa.len J);refine S.bin ?_;refine C.B (fun bU=>?_) fun bU=>?_
 ·have e:decide (a=b)=false:=by
   rw[NI];intro h;subst h;simp at bU
  rw[e];refine⟨_,.t rfl .nil,.done ?_⟩;rfl
 ·have hl:a.length=b.length:=by simp at bU;omega
  refine S.len ?_ (hl:=aa.len I);refine SW.bG (fun m E ψ R=>∃j:Nat,j+m=a.length∧decide (a=b)=decide (a.drop j=b.drop j)∧O=ψ∧R=[]∧Sub [(0,v1),(1,v2),(11,v1),(12,.j (a.length:Int)),(13,.j (j:Int))] E) (m:=a.length) (.done ⟨0,by omega,rfl,rfl,rfl,.r rfl⟩) ?_;intro m0 E ψ R ac hI;obtain⟨j,hj,hd,rfl,rfl,hE⟩:=hI;refine C.sub hE ?_;refine S.bin ?_;refine C.D (fun dG=>?_) fun dG=>?_
  ·have ha:j<a.length:=by omega
   have hb:j<b.length:=by omega
   refine S.aF I ha fun IU Ej=>?_;refine S.bP ?_ (l:=bw.f a[j]);refine S.aF J hb fun xZ oM=>?_;refine S.bP ?_ (l:=bw.f b[j]);refine S.bin ?_ (hv:=u5 a[j] b[j]);refine C.B (fun ey=>?_) fun ey=>?_
   ·have e:decide (a=b)=false:=by
     rw[hd,NI,zy ha hb];intro h;simp[h.1]at ey
    rw[e];refine⟨_,.t rfl .nil,.done ?_⟩;rfl
   ·refine S.bin ?_;refine⟨m0-1,by omega,.done ⟨j+1,by omega,?_,rfl,rfl,.r rfl⟩⟩;rw[hd];refine decide_eq_decide.2 ?_;rw[zy ha hb];exact⟨fun h=>h.2,fun h=>⟨by simpa using ey,h⟩⟩
  ·have e:decide (a=b)=true:=by
    rw[hd,aqw (by omega),aqw (by omega)];(try rfl)
   rw[e];refine⟨_,.t rfl .nil,.done ?_⟩;rfl
theorem alo [Fx F] {v1 v2:V} {a b:List bH} (I:aa br O v1 a) (J:aa br O v2 b) (hlen:a.length≤1000000000):bk F 198 [v1,v2] O (.bool (decide (a=b))):=by
 refine ai.ak (au ?_);refine S.len ?_ (hl:=aa.len I);refine S.len ?_ (hl:=aa.len J);refine S.bin ?_;refine C.B (fun bU=>?_) fun bU=>?_
 ·have e:decide (a=b)=false:=by
   rw[NI];intro h;subst h;simp at bU
  rw[e];refine⟨_,.t rfl .nil,.done ?_⟩;rfl
 ·have hl:a.length=b.length:=by simp at bU;omega
  refine S.len ?_ (hl:=aa.len I);refine SW.bG (fun m E ψ R=>∃j:Nat,j+m=a.length∧decide (a=b)=decide (a.drop j=b.drop j)∧O=ψ∧R=[]∧Sub [(0,v1),(1,v2),(11,v1),(12,.j (a.length:Int)),(13,.j (j:Int))] E) (m:=a.length) (.done ⟨0,by omega,rfl,rfl,rfl,.r rfl⟩) ?_;intro m0 E ψ R ac hI;obtain⟨j,hj,hd,rfl,rfl,hE⟩:=hI;refine C.sub hE ?_;refine S.bin ?_;refine C.D (fun dG=>?_) fun dG=>?_
  ·have ha:j<a.length:=by omega
   have hb:j<b.length:=by omega
   refine S.aF I ha fun IU Ej=>?_;refine S.bP ?_ (l:=br.f a[j]);refine S.aF J hb fun xZ oM=>?_;refine S.bP ?_ (l:=br.f b[j]);refine S.bin ?_ (hv:=T9 a[j] b[j]);refine C.B (fun ey=>?_) fun ey=>?_
   ·have e:decide (a=b)=false:=by
     rw[hd,NI,zy ha hb];intro h;simp[h.1]at ey
    rw[e];refine⟨_,.t rfl .nil,.done ?_⟩;rfl
   ·refine S.bin ?_;refine⟨m0-1,by omega,.done ⟨j+1,by omega,?_,rfl,rfl,.r rfl⟩⟩;rw[hd];refine decide_eq_decide.2 ?_;rw[zy ha hb];exact⟨fun h=>h.2,fun h=>⟨by simpa using ey,h⟩⟩
  ·have e:decide (a=b)=true:=by
    rw[hd,aqw (by omega),aqw (by omega)];(try rfl)
   rw[e];refine⟨_,.t rfl .nil,.done ?_⟩;rfl
theorem We (gen:Int):∀(f h:Nat) (l:List b2),l.length≤f→l.length≤h→iV gen f l=iV gen h l
 |f,h,[],_,_=>by rw[GB,GB]
 |0,h,a::l,I,_=>by simp at I
 |f+1,0,a::l,_,J=>by simp at J
 |f+1,h+1,a::l,I,J=>by
  rw[GA (by simp),GA (by simp)];simp only[WW]at I J;rw[We gen f h ((a::l).drop 6) (by simp;omega) (by simp;omega)]
theorem alp {b:Bool} {l:List b2} {j:Nat} (hj:j<l.length):rn b (l.take (j+1))=oq ([l[j].1.ino,l[j].1.idx].foldl (fun b n=>en b n 255) (rn b (l.take j))) [l[j].2]:=by
 unfold rn;rw[vb _ _ _ _ hj]
theorem alq [Fx F] {gen:Int} {rv pv:V} {ao:List b2} (hr:aa br O rv (ao.map (·.1))) (hp:aa aq O pv (ao.map (·.2))) (hlen:ao.length≤1000000):
 ai F 194 [.j gen,rv,pv] O [] (fun r ψ R=>ψ=O∧∃s,R=[bw.ob s (iW gen ao)]∧ae bw r (iW gen ao) s) never:=by
 have yq:(ao.map (·.1)).length=ao.length:=apZ ..;have lp:(ao.map (·.2)).length=ao.length:=apZ ..;obtain⟨w,hw,fw⟩:=aa.hi hr (j:=ao.length) (by omega);rw[←yq,ap2]at fw;refine ai.same (au ?_);refine S.len ?_ (hl:=aa.len hr);rw[yq];refine S.len ?_ (hl:=aa.len hp);rw[lp];refine S.pB (CE _ _) ?_;rw[Nat.min_self];refine S.slice hw ?_;refine SW.new bw ?_;refine SW.bG (fun m E ψ R=>∃(i:Nat) (out:List aV) (v:V) (s:Option Pa),m=ao.length-i∧iW gen ao=out++iV gen ao.length (ao.drop i)∧i≤ao.length+6∧out.length≤i∧aa br ψ w (ao.map (·.1))∧aa aq ψ pv (ao.map (·.2))∧R=[bw.ob s out]∧ae bw v out s∧Sub [(0,.j gen),(1,w),(2,pv),(7,v),(8,.j (i:Int))] E) (m:=ao.length) (.done ⟨0,[],.no .sl,none,rfl,rfl,by omega,by simp,fw,hp,rfl,ae.nil,.r rfl⟩) ?_;intro m0 E ψ R ac hI;obtain⟨i,out,v,s,hm,ab,EW,dC,fw,hp,rfl,ho,hE⟩:=hI;refine C.sub hE ?_;refine S.len ?_ (hl:=aa.len fw);rw[yq];refine S.bin ?_;refine C.D (fun jG=>?_) fun jG=>?_
 ·have hi:i<ao.length:=by omega
  have jp:(((ao.drop i).take 6)).length=min 6 (ao.length-i):=by simp
  obtain⟨L,hL⟩:∃L,L=ao.length-1:=⟨_,rfl⟩
  have QS:ao.length=L+1:=by omega
  have aj:iV gen ao.length (ao.drop i)=jn gen ((ao.drop i).take 6)::iV gen ao.length (ao.drop (i+6)):=by
   rw[QS,GA (by intro h;have:=congrArg List.length h;simp at this;omega),aq6,←QS];congr 1;exact We gen _ _ _ (by simp<;>omega) (by simp<;>omega)
  refine S.call (GZ (k:=2) (g:=gen)) fun v25 AW AX t6 fF=>?_;obtain⟨fF,BT,rfl,rfl⟩:=fF;have fF:=fF.symm;subst fF;refine SW.bG (fun m E ψ R=>∃q:Nat,q+m=((ao.drop i).take 6).length∧aa br ψ w (ao.map (·.1))∧aa aq ψ pv (ao.map (·.2))∧R=[wB BT 2 gen ([]++hO (((ao.drop i).take 6).take (q))) (rn (en false gen 1073741824) (((ao.drop i).take 6).take (q))),bw.ob s out]∧Sub [(0,.j gen),(1,w),(2,pv),(7,v),(8,.j (i:Int)),(9,.ptr BT 0),(10,.j ((i+q:Nat):Int))] E) (m:=((ao.drop i).take 6).length) (.done ⟨0,by omega,fw,hp,by simp[hO,rn],.r rfl⟩) ?_;intro m2 E ψ R ac hI;obtain⟨q,hq,fw,hp,rfl,hE⟩:=hI;refine C.sub hE ?_;refine S.bin ?_ (v:=.j ((i+6:Nat):Int)) (hv:=by rw[ei (by omega) (by omega)];(try rfl));refine S.len ?_ (hl:=aa.len fw);rw[yq];refine S.pB (CE _ _) ?_;refine S.bin ?_;refine C.D (fun mu=>?_) fun mu=>?_
  ·have hk:i+q<ao.length:=by omega
   have wT:q<((ao.drop i).take 6).length:=by rw[jp];omega
   obtain⟨it,dj⟩:∃it,it=ao[i+q]:=⟨_,rfl⟩
   have bE:((ao.drop i).take 6)[q]=it:=by rw[dj];simp
   have xP:(ao.map (·.1))[i+q]'(by omega)=it.1:=by rw[dj];simp
   have mf:(ao.map (·.2))[i+q]'(by omega)=it.2:=by rw[dj];simp
   have dD:(hO (((ao.drop i).take 6).take q)).length=8*q:=by rw[MA,ab7,aqn (by omega)]
   refine S.aF fw (j:=i+q) (by omega) fun OF AJ=>?_;rw[xP]at AJ;refine S.bl AJ fun p40 e40=>?_;refine S.aX ?_;refine S.aF fw (j:=i+q) (by omega) fun p44 QT=>?_;rw[xP]at QT;refine S.bl QT fun HU HV=>?_;refine S.aX ?_;refine S.a8 fun H7=>?_;have o47:ae bp (.sl H7 0 2 (.ex 2)) [it.1.ino,it.1.idx] (some H7):=ae.new rfl;refine S.ct 0 o47 fun abe Kb nz=>?_;refine S.bb 0 rfl (tk (n:=1) nz (by omega) (by omega) (by rw[aqa,dD];simp<;>omega) (by simp)) fun AL Pn ZJ Po lb=>?_;obtain⟨lb,rfl⟩:=lb;have lb:=lb.symm;subst lb;have hp:=hp.mono Kb;refine S.aF hp (j:=i+q) (by omega) fun p52 e52=>?_;rw[mf]at e52;refine S.bP ?_ (l:=aq.f it.2);refine S.a8 fun QU=>?_;have AN:ae aq (.sl QU 0 1 (.ex 1)) [it.2] (some QU):=ae.new rfl;refine S.ct 0 AN fun Pt Ed sf=>?_;refine S.bb 0 rfl (Ns sf (by rw[amv,aqa,dD];simp[ij];omega)) fun v55 JR PA BH oZ=>?_;obtain⟨oZ,rfl⟩:=oZ;have oZ:=oZ.symm;subst oZ;refine S.bin ?_ (v:=.j ((i+(q+1):Nat):Int)) (hv:=by rw[ei (by omega) (by omega)];(try rfl));refine⟨m2-1,by omega,.done ⟨q+1,by omega,(fw.mono Kb).mono Ed,hp.mono Ed,?_,.r rfl⟩⟩;rw[ajh wT,alp wT,bE,←alh,←KK,←KK];(try rfl)
  ·have hqe:q=((ao.drop i).take 6).length:=by rw[jp];omega
   subst hqe;rw[ap2];refine S.bb 0 rfl (G0) fun PU apt O58 l58 BV=>?_;obtain⟨BV,rfl,rfl⟩:=BV;have BV:=BV.symm;subst BV;have wS:jv 2 gen ([]++hO ((ao.drop i).take 6)) (rn (en false gen 1073741824) ((ao.drop i).take 6))=jn gen ((ao.drop i).take 6):=ali gen _ (by rw[jp];omega);rw[wS];refine S.a8 fun a59=>?_;refine S.bu (m:=[jn gen ((ao.drop i).take 6)]) 2 ho (.lit 0) (by simp;omega) fun v60 s60 Iw=>?_;refine S.drop 0 ?_;refine S.drop 0 ?_;refine S.mv ?_;refine S.bin ?_ (v:=.j ((i+6:Nat):Int)) (hv:=by rw[ei (by omega) (by omega)];(try rfl));refine⟨ao.length-(i+6),by omega,.done ⟨i+6,_,v60,s60,rfl,by rw[ab,aj,KK];(try rfl),by omega,by simp;omega,fw,hp,rfl,Iw,.r rfl⟩⟩
 ·have e:iW gen ao=out:=by rw[ab,aqw (by omega),GB,ap9]
  rw[e];exact⟨_,.t rfl .nil,.done ⟨s,rfl,ho⟩⟩
end Go.Ev
set_option maxHeartbeats 4000000
namespace Go.Ev
variable{F:Nat→Option aN} {O:Fz}
theorem alr [Fx F] {x:aV} (hx:x.load.length≤100000):
 ai F 147 [.agg [.j x.kind,.j x.gen,.str x.load]] O [] (fun r ψ R=>R=[]∧∃rv pv,r=.aM [rv,pv,.bool (er x).isSome]∧aa br ψ rv (((er x).getD []).map (·.1))∧aa aq ψ pv (((er x).getD []).map (·.2))) never:=by
 refine au ?_;refine S.box fun bs=>?_;refine S.ld 0 ?_;refine S.mV fun eL rK nu dA=>?_;have qb:=dA.av;refine S.build ?_ (l:=[eL,.bool false]);refine S.box fun ez=>?_;refine SW.new aq ?_;refine SW.new br ?_;refine SW.bG (fun m E ψ R=>∃(s:df) (am:List b2) (w wk wm:V) (sr sp:Option Pa),n5 m s am=idxOf x.load∧(s.2=false→s.1.length≤m)∧s.1.length≤1000000∧am.length+m≤x.load.length∧rK=ψ∧aa aQ rK w s.1∧R=[(some ez,.cells [w,.bool s.2] false),br.ob sr (am.map (·.1)),aq.ob sp (am.map (·.2)),(some bs,.cells [.j x.kind,.j x.gen,.str x.load] false)]∧ae br wk (am.map (·.1)) sr∧ae aq wm (am.map (·.2)) sp∧Sub [(1,.ptr bs 0),(5,.ptr ez 0),(2,wk),(3,wm)] E) (m:=x.load.length) (.front 2 rfl (.done ⟨(x.load,false),[],eL,.no .sl,.no .sl,none,none,rfl,fun _=>B5 _,by show x.load.length≤1000000;omega,by simp,rfl,dA,rfl,ae.nil,ae.nil,.r rfl⟩)) ?_;intro m0 E ψ R ac hI;obtain⟨s,am,w,wk,wm,sr,sp,ab,ni,gQ,oB,rfl,hw,rfl,mc,aS,hE⟩:=hI;refine C.sub hE ?_;refine S.ld 0 ?_;refine S.len ?_ (hl:=aa.len hw);refine S.bin ?_;refine G.mv ?_;refine G.nil? ?_;refine G.aE ?_;refine G.ld 0 ?_;refine G.un ?_;refine G.and ?_;refine C.B (fun bV=>?_) fun bV=>?_
 ·simp only[G7,apH,G6]at bV;have ZG:=ni bV.2;obtain⟨m1,rfl⟩:∃m1,m0=m1+1:=⟨m0-1,by omega⟩
  have aj:n5 (m1+1) s am=n5 m1 (hP s).2 (am++[(hP s).1]):=by
   show(if decide (0<s.1.length)&&!s.2 then _ else _)=_;rw[B4];rw[bV.2];simp;omega
  rw[aj]at ab;have wl:=Uf s;have g1:=dY 1 s;have g2:=dY 1 (rdNum 1 s).2;refine S.bb 0 rfl (l3 (s:=s) (n:=1) hw (by omega) (by omega)) fun um sq wD o9 c3=>?_;obtain⟨c3,rfl,w27,rfl,k27⟩:=c3;have c3:=c3.symm;subst c3;have c3:=k27;refine S.bb 0 rfl (l3 (s:=(rdNum 1 s).2) (n:=1) c3 (by omega) (by omega)) fun yb yc yd oT d6=>?_;obtain⟨d6,rfl,ZZ,rfl,k29⟩:=d6;have d6:=d6.symm;subst d6;have d6:=k29;refine S.build ?_;refine S.a8 fun J9=>?_;refine S.bu (m:=[(hP s).1.1]) 2 mc (.lit 0) (by simp;omega) fun PQ s35 o35=>?_;refine S.drop 0 ?_;refine S.mv ?_;refine S.bb 0 rfl (Wa (s:=(rdNum 1 (rdNum 1 s).2).2) d6 (by omega)) fun ya yM EH BF fZ=>?_;obtain⟨fZ,rfl,w38,rfl,k38⟩:=fZ;have fZ:=fZ.symm;subst fZ;refine S.a8 fun a39=>?_;refine S.bu (m:=[(hP s).1.2]) 3 aS (.lit 0) (by simp;omega) fun wt Ek uf=>?_;refine S.drop 0 ?_;refine S.mv ?_;refine⟨m1,by omega,.done ⟨(hP s).2,am++[(hP s).1],w38,PQ,wt,s35,Ek,ab,fun h=>by have:=Ue h;omega,by omega,by simp;omega,rfl,k38,?_,by rw[amw];exact o35,by rw[amw];exact uf,.r rfl⟩⟩;rw[amw,amw];(try rfl)
 ·have abt:(decide (0<s.1.length)&&!s.2)=false:=by
   rw[show decide (0<s.1.length)=decide ((0:Int)<(s.1.length:Int))from decide_eq_decide.2 (by omega)];exact bV
  rw[Ud abt]at ab;have rT:am=(idxOf x.load).1:=by rw[←ab]
  have j0:s.2=(idxOf x.load).2.2:=by rw[←ab]
  refine S.ld 0 ?_;refine G.aE ?_;refine G.ld 3 ?_;refine G.bin ?_;refine G.or ?_;refine G.aE ?_;refine S.ct 1 mc fun ZP yq hr=>?_;refine S.ct 1 aS fun A8 lp hp=>?_;have hr:=hr.mono lp;refine G.ld 1 ?_;refine G.mv ?_;refine G.mv ?_;refine G.af 1 ?_ (l:=[.j x.kind,.j x.gen,.str x.load]);refine G.akY (u:=.agg [.j x.kind,.j x.gen,.str x.load]) (e:=bw) x fun PT aa6 JX f57=>?_;have hr:=hr.mono JX;have hp:=hp.mono JX;refine G.call (fun _=>ai.kept (alq (gen:=x.gen) hr hp (by omega))) fun v55 JR BH oZ=>?_;have hr:=hr.mono BH;have hp:=hp.mono BH;have f57:_→JR PT=_:=fun hb=>BH _ _ (f57 hb);refine G.akZ (u:=.agg [.j x.kind,.j x.gen,.str x.load]) (e:=bw) x f57 ?_ (by simp[bw,cm,fv,hB]);refine G.dy 1 ?_ (l:=[.j x.kind,.j x.gen,.str x.load]) (hs:=by simp[same,cm,fv,hB]);refine G.ak (fun hb=>aln (oZ hb) (aa.gI (l:=[x]) (f57 hb) rfl) (by have:=GK x.gen am.length am;unfold iW;omega)) ?_;refine G.un ?_;refine G.or ?_;refine C.B (fun ua=>?_) fun ua=>?_
  ·have e:er x=none:=by
    unfold er;by_cases J:x.kind=2∧x.load≠[]
    ·rw[B4 J,pg];rintro⟨h3,h4⟩;rw[←j0]at h3;rw[←rT]at h4;rw[h3,h4]at ua;simp[J.1]at ua
    ·rw[pg J]
   rw[e];exact⟨_,.t rfl (.t rfl (.t rfl .nil)),.none ⟨rfl,_,_,rfl,aa.nil _,aa.nil _⟩⟩
  ·have e:er x=some am:=by
    simp only[W0,apR,G6]at ua;obtain⟨⟨I,J⟩,h3⟩:=ua;have bx:x.load≠[]:=by
     intro h0;have:am=[]:=by rw[rT,h0];(try rfl)
     rw[this]at h3;cases h3
    unfold er;rw[B4 ⟨J,bx⟩,B4,←rT];rw[←j0,←rT];exact⟨I,h3⟩
   rw[e];exact⟨_,.t rfl (.t rfl (.t rfl .nil)),.none ⟨rfl,_,_,rfl,hr,hp⟩⟩
theorem als [Fx F] {x:aV} (hx:x.load.length≤100000):
 ai F 146 [.agg [.j x.kind,.j x.gen,.str x.load]] O [] (fun r ψ R=>R=[]∧∃pv,r=.aM [.agg (dW.f (((eT x).map (·.1)).getD ⟨0,0,0,0,0⟩)),pv,.bool (eT x).isSome]∧aa aq ψ pv (((eT x).map (·.2)).getD [])) never:=by
 have QR:(x.load,false).1.length≤100000:=hx;have g1:=dY 1 (x.load,false);have g2:=dY 4 (rdNum 1 (x.load,false)).2;have l8:=dY 4 (rdNum 4 (rdNum 1 (x.load,false)).2).2;have A4:=dY 4 (rdNum 4 (rdNum 4 (rdNum 1 (x.load,false)).2).2).2;have A5:=dY 4 (rdNum 4 (rdNum 4 (rdNum 4 (rdNum 1 (x.load,false)).2).2).2).2;refine au ?_;refine S.box fun bs=>?_;refine S.alloc fun a2=>?_;refine S.ld 1 ?_;refine S.mV fun oO nr p8 c0=>?_;have Oy:=c0.av;refine S.build ?_ (l:=[oO,.bool false]);refine S.box fun r6=>?_;refine S.bb 0 rfl (l3 (s:=(x.load,false)) (n:=1) c0 (by omega) (by omega)) fun k0 rO rP rQ bX=>?_;obtain⟨bX,rfl,IS,rfl,Kq⟩:=bX;have bX:=bX.symm;subst bX;have bX:=Kq;refine S.bb 0 rfl (l3 (s:=(rdNum 1 (x.load,false)).2) (n:=4) bX (by omega) (by omega)) fun mr wa wb r8 cu=>?_;obtain⟨cu,rfl,w19,rfl,k19⟩:=cu;have cu:=cu.symm;subst cu;have cu:=k19;refine S.bb 0 rfl (l3 (s:=(rdNum 4 (rdNum 1 (x.load,false)).2).2) (n:=4) cu (by omega) (by omega)) fun Aw EQ ER BM eO=>?_;obtain⟨eO,rfl,QV,rfl,k21⟩:=eO;have eO:=eO.symm;subst eO;have eO:=k21;refine S.bb 0 rfl (l3 (s:=(rdNum 4 (rdNum 4 (rdNum 1 (x.load,false)).2).2).2) (n:=4) eO (by omega) (by omega)) fun Ea Bb Eb uc eB=>?_;obtain⟨eB,rfl,IL,rfl,k23⟩:=eB;have eB:=eB.symm;subst eB;have eB:=k23;refine S.bb 0 rfl (l3 (s:=(rdNum 4 (rdNum 4 (rdNum 4 (rdNum 1 (x.load,false)).2).2).2).2) (n:=4) eB (by omega) (by omega)) fun v25 AW AX t6 fF=>?_;obtain⟨fF,rfl,w25,rfl,k25⟩:=fF;have fF:=fF.symm;subst fF;have fF:=k25;refine S.build ?_;obtain⟨ad,hR⟩:∃ad:dn,ad=⟨(rdNum 1 (x.load,false)).1,(rdNum 4 (rdNum 1 (x.load,false)).2).1,(rdNum 4 (rdNum 4 (rdNum 1 (x.load,false)).2).2).1,(rdNum 4 (rdNum 4 (rdNum 4 (rdNum 1 (x.load,false)).2).2).2).1,(rdNum 4 (rdNum 4 (rdNum 4 (rdNum 4 (rdNum 1 (x.load,false)).2).2).2).2).1⟩:=⟨_,rfl⟩
 refine S.store (v:=.agg [.j ad.kind,.j ad.id,.j ad.dx,.j ad.base,.j ad.done]) 1 ?_ (hx:=by rw[hR];exact .t rfl);refine S.bb 0 rfl (Wb (s:=(rdNum 4 (rdNum 4 (rdNum 4 (rdNum 4 (rdNum 1 (x.load,false)).2).2).2).2).2) fF (by omega)) fun Be wq Eh ud io=>?_;obtain⟨io,w33,q33,rfl,k33,ws⟩:=io;have io:=io.symm;subst io;refine S.ct 1 ws fun A8 lp hp=>?_;obtain⟨P,jb⟩:∃P,P=jo (rdNum 4 (rdNum 4 (rdNum 4 (rdNum 4 (rdNum 1 (x.load,false)).2).2).2).2).2:=⟨_,rfl⟩
 rw[←jb]at hp k33⊢;have i9:gG x.load=(ad,P):=by rw[hR,jb];(try rfl)
 have dE:P.1.length≤255:=by
  rw[jb];unfold jo;have key:∀(n:Nat) (s:df) (am:List ag),(mY n s am).1.length≤am.length+n:=by
   intro n;induction n with
   |zero=>intro s am;exact B5 _
   |succ n ih=>
              intro s am;simp only[mY];split
              ·simp
              ·have:=ih (gF s).2 (am++[(gF s).1]);simp at this;omega
  have k1:=key (rdNum 1 (rdNum 4 (rdNum 4 (rdNum 4 (rdNum 4 (rdNum 1 (x.load,false)).2).2).2).2).2).1.toNat (rdNum 1 (rdNum 4 (rdNum 4 (rdNum 4 (rdNum 4 (rdNum 1 (x.load,false)).2).2).2).2).2).2 [];have k2:=Nr (rdNum 4 (rdNum 4 (rdNum 4 (rdNum 4 (rdNum 1 (x.load,false)).2).2).2).2).2;simp at k1;omega
 refine S.mv ?_;refine S.ld 0 ?_;refine G.aE ?_;refine G.ld 2 ?_;refine G.bin ?_;refine G.or ?_;refine G.aE ?_;refine G.ld 2 ?_;refine G.af 1 ?_ (l:=[.j ad.kind,.j ad.id,.j ad.dx,.j ad.base,.j ad.done]);refine G.mv ?_;refine G.af 2 ?_ (l:=[.j x.kind,.j x.gen,.str x.load]);refine G.ak (fun _=>alj (gen:=x.gen) (r:=ad) hp (by omega)) ?_;refine G.dy 2 ?_ (l:=[.j x.kind,.j x.gen,.str x.load]) (hs:=by simp[same,cm,fv,hB]);refine G.bin ?_ (hv:=fun _=>u5 (fA x.gen ad P.1) x);refine G.or ?_;refine C.B (fun fE=>?_) fun fE=>?_
 ·have e:eT x=none:=by
   unfold eT;rw[pg];rintro⟨I,J,h3⟩;rw[i9]at J h3;rw[J,I,h3]at fE;simp at fE
  rw[e];refine S.build ?_;refine S.store 1 ?_;exact⟨_,.cN 1 rfl rfl rfl rfl (.t rfl (.t rfl .nil)),.none ⟨rfl,_,rfl,aa.nil _⟩⟩
 ·have e:eT x=some (ad,P.1):=by
   simp only[W0,apR,G6]at fE;unfold eT;rw[B4,i9];rw[i9];exact⟨fE.1.2,fE.1.1,fE.2⟩
  rw[e];refine S.af 1 ?_ (l:=[.j ad.kind,.j ad.id,.j ad.dx,.j ad.base,.j ad.done]);refine S.store 1 ?_;exact⟨_,.cN 1 rfl rfl rfl rfl (.t rfl (.t rfl .nil)),.none ⟨rfl,_,rfl,hp⟩⟩
theorem alu [Fx F] {x:aV} (hx:x.load.length≤100000):
 ai F 88 [.agg [.j x.kind,.j x.gen,.str x.load]] O [] (fun r ψ R=>R=[]∧∃pv,r=.aM [.j (((dX x).map (·.1)).getD 0),.j (((dX x).map (·.2.1)).getD 0),pv,.bool (dX x).isSome]∧aa aq ψ pv (((dX x).map (·.2.2)).getD [])) never:=by
 have QR:(x.load,false).1.length≤100000:=hx;have g1:=dY 4 (x.load,false);have g2:=dY 4 (rdNum 4 (x.load,false)).2;refine au ?_;refine S.box fun bs=>?_;refine S.ld 0 ?_;refine S.mV fun v9 x6 vM h9=>?_;have s9:=h9.av;refine S.build ?_ (l:=[v9,.bool false]);refine S.box fun gR=>?_;refine S.bb 0 rfl (l3 (s:=(x.load,false)) (n:=4) h9 (by omega) (by omega)) fun oO nr DT p8 c0=>?_;obtain⟨c0,rfl,w13,rfl,k13⟩:=c0;have c0:=c0.symm;subst c0;have c0:=k13;refine S.bb 0 rfl (l3 (s:=(rdNum 4 (x.load,false)).2) (n:=4) c0 (by omega) (by omega)) fun rM qd x7 oR dR=>?_;obtain⟨dR,rfl,w15,rfl,Kc⟩:=dR;have dR:=dR.symm;subst dR;have dR:=Kc;refine S.bb 0 rfl (Wb (s:=(rdNum 4 (rdNum 4 (x.load,false)).2).2) dR (by omega)) fun k0 rO rP rQ bX=>?_;obtain⟨bX,IS,q17,rfl,Kq,tS⟩:=bX;have bX:=bX.symm;subst bX;refine S.ct 1 tS fun A8 lp hp=>?_;obtain⟨P,jb⟩:∃P,P=jo (rdNum 4 (rdNum 4 (x.load,false)).2).2:=⟨_,rfl⟩
 rw[←jb]at hp Kq⊢;obtain⟨n1,tP⟩:∃n1,n1=(rdNum 4 (x.load,false)).1:=⟨_,rfl⟩
 obtain⟨n2,l9⟩:∃n2,n2=(rdNum 4 (rdNum 4 (x.load,false)).2).1:=⟨_,rfl⟩
 have i9:ek x.load=(n1,n2,P):=by rw[tP,l9,jb];(try rfl)
 rw[←tP,←l9];have dE:P.1.length≤255:=by
  rw[jb];unfold jo;have key:∀(n:Nat) (s:df) (am:List ag),(mY n s am).1.length≤am.length+n:=by
   intro n;induction n with
   |zero=>intro s am;exact B5 _
   |succ n ih=>
              intro s am;simp only[mY];split
              ·simp
              ·have:=ih (gF s).2 (am++[(gF s).1]);simp at this;omega
  have k1:=key (rdNum 1 (rdNum 4 (rdNum 4 (x.load,false)).2).2).1.toNat (rdNum 1 (rdNum 4 (rdNum 4 (x.load,false)).2).2).2 [];have k2:=Nr (rdNum 4 (rdNum 4 (x.load,false)).2).2;simp at k1;omega
 refine S.mv ?_;refine S.ld 0 ?_;refine G.aE ?_;refine G.ld 1 ?_;refine G.bin ?_;refine G.or ?_;refine G.aE ?_;refine G.ld 1 ?_;refine G.mv ?_;refine G.mv ?_;refine G.mv ?_;refine G.af 1 ?_ (l:=[.j x.kind,.j x.gen,.str x.load]);refine G.ak (fun _=>alk (gen:=x.gen) (next:=n1) (id:=n2) hp (by omega)) ?_;refine G.dy 1 ?_ (l:=[.j x.kind,.j x.gen,.str x.load]) (hs:=by simp[same,cm,fv,hB]);refine G.bin ?_ (hv:=fun _=>u5 (gh x.gen n1 n2 P.1) x);refine G.or ?_;refine C.B (fun ck=>?_) fun ck=>?_
 ·have e:dX x=none:=by
   unfold dX;rw[pg];rintro⟨I,J,h3⟩;rw[i9]at J h3;rw[J,I,h3]at ck;simp at ck
  rw[e];exact⟨_,.t rfl (.t rfl (.t rfl (.t rfl .nil))),.none ⟨rfl,_,rfl,aa.nil _⟩⟩
 ·have e:dX x=some (n1,n2,P.1):=by
   simp only[W0,apR,G6]at ck;unfold dX;rw[B4,i9];rw[i9];exact⟨ck.1.2,ck.1.1,ck.2⟩
  rw[e];exact⟨_,.t rfl (.t rfl (.t rfl (.t rfl .nil))),.none ⟨rfl,_,rfl,hp⟩⟩
end Go.Ev
namespace Go.Ev
def pQ:Nat→List Int→List (V×V×Nat)
 |_,[]=>[]
 |n,k::l=>(.int .i64 k,.bool true,n)::pQ (n+1) l
def pR (l:List Int):al:=.map (pQ 0 l) l.length
theorem Wf (x:Int):∀(l:List Int) (n:Nat),pQ n (l++[x])=pQ n l++[(.int .i64 x,.bool true,n+l.length)]
 |[],n=>rfl
 |k::l,n=>by
  show _::pQ (n+1) (l++[x])=_::(pQ (n+1) l++_);rw[Wf x l (n+1),WW];rw[show n+1+l.length=n+(l.length+1) by omega]
theorem alv (a b:Int):da (.flat .i) (.int .i64 a) (.int .i64 b)=some (decide (a=b)):=by
 show some (iw a b)=_;congr 1;rw[ki,aqC];simp
theorem Nt (x:Int):∀(l:List Int) (n j:Nat),∃r,iQ (.flat .i) (.int .i64 x) (pQ n l) j=some r∧r.map (·.2)=if x∈l then some (.bool true)else none
 |[],n,j=>⟨none,rfl,rfl⟩
 |k::l,n,j=>by
  show∃r,(match da (.flat .i) (.int .i64 x) (.int .i64 k)with
   |some b=>bif b then some (some (j,V.bool true))else iQ (.flat .i) (.int .i64 x) (pQ (n+1) l) (j+1)
   |none=>none)=some r∧_
  rw[alv];by_cases h:x=k
  ·subst h;refine⟨some (j,.bool true),by simp,by simp⟩
  ·obtain⟨r,I,J⟩:=Nt x l (n+1) (j+1);refine⟨r,by simp only[decide_eq_false h,KL];exact I,by rw[J];simp[h]⟩
namespace S
variable{F:Nat→Option aN} {K:KX} {E:Env} {O:Fz} {R:List Ob} {Q:bB} {rs:List Op} {d:Nat} {g:Option (Pa×Bool)}
theorem mkMap (hn:∀a,SA F K rs ((d,.map a)::E) O ((some a,pR [])::R) Q):SR F K (.op ⟨some (pa d),KY,none⟩::Op.aI rs) E O R Q:=fun W h sh=>
 ad.dw .none (fun _ _=>rfl) (S.r (hn h.next) W _ (sh.alloc _))
theorem look {x i:Od} {a:Pa} {k:Int} {l:List Int} (j:Nat) (hn:SA F K rs ((d,.bool (decide (k∈l)))::E) O R Q) (hi:R[j]? =some (some a,pR l):=by rfl) (hx:ax E x (.map a):=by exact .t rfl) (hk:ax E i (.int .i64 k):=by first|exact .t rfl|exact .c) (hw:az E g .yes:=by first|exact .none|exact .yes rfl):
 SR F K (.op ⟨some (pa d),Cb (.flat .i) (.bool false) x i false,g⟩::Op.aI rs) E O R Q:=fun W h sh=>by
 refine ad.look hw hx hk ?_ (S.r hn W h sh);have hg:h.get a=some (.map (pQ 0 l) l.length):=sh.hC hi;obtain⟨r,I,J⟩:=Nt k l 0 0;unfold yY;simp only[bm.mapOf,hg,fits,B9,E7,I];cases r with
 |none=>
  have:k∉l:=by intro hm;rw[B4 hm]at J;cases J
  simp[wV,this]
 |some p=>
  obtain⟨q,v⟩:=p;by_cases hm:k∈l
  ·rw[B4 hm]at J;have:v=.bool true:=by simpa using J
   subst this;simp[wV,hm]
  ·rw[pg hm]at J;cases J
theorem alw {x i:Od} {a:Pa} {k:Int} {l:List Int} (j:Nat) (hm:k∉l) (hn:SA F K rs E O (R.set j (some a,pR (l++[k]))) Q) (hi:R[j]? =some (some a,pR l):=by rfl) (hx:ax E x (.map a):=by exact .t rfl) (hk:ax E i (.int .i64 k):=by first|exact .t rfl|exact .c) (hw:az E g .yes:=by first|exact .none|exact .yes rfl):
 SR F K (.op ⟨none,K1 (.flat .i) x i (.c (.bool true)),g⟩::Op.aI rs) E O R Q:=fun W h sh=>by
 have hg:h.get a=some (.map (pQ 0 l) l.length):=sh.hC hi;obtain⟨r,I,J⟩:=Nt k l 0 0;rw[pg hm]at J;have:r=none:=by cases r with|none=>rfl|some p=>cases J
 subst this;refine ad.FR (v:=dm) (h':=h.put a (pR (l++[k]))) hw (fun e he=>?_) (S.r hn W _ (sh.zn hi _));simp only[hx e he,bm.nP,hg,hk e he,fits,B9,E7,I];have:pR (l++[k])=.map (pQ 0 l++[(.int .i64 k,.bool true,l.length)]) (l.length+1):=by
  unfold pR;rw[Wf,amv];simp
 rw[this];(try rfl)
theorem alx [gd K] {n:Nat} {f:Od} {xs:List Od} {vs bf:List V} {Rt:V→Fz→List Ob→Prop} (hc:ai F n (vs++bf) O [] Rt never) (hn:∀v ψ O',O.Le ψ→Rt v ψ O'→SA F K rs ((d,v)::E) ψ (O'++R) Q) (hf:ax E f (.fn n bf):=by first|exact .t rfl|exact .c) (hx:kD E xs=some vs:=by rfl) (hw:az E g .yes:=by first|exact .none|exact .yes rfl):
 SR F K (.op ⟨some (pa d),wW f xs,g⟩::Op.aI rs) E O R Q:=fun W h sh=>by
 rcases hc (R++W) h (by simpa using sh)with⟨v,h',I,ψ,O',J,h3,h4⟩|⟨_,_,_,_,_,_,_,h⟩
 ·exact WR.up J (ad.aeY hw hf (nV hx) I (S.r (hn v ψ O' J h4) W h' (by simpa using h3)))
 ·exact h.elim
theorem clear {z:List V} {x:Od} {a:Pa} {o n:Nat} {c:hW} {cs l':List V} (i:Nat) (hn:SA F K rs E O (R.set i (some a,.cells l' false)) Q) (hi:R[i]? =some (some a,.cells cs false):=by rfl) (hx:ax E x (.sl a o n c):=by exact .t rfl) (cI:dk o cs (dI z n)=some l':=by rfl) (hs:aY (dI z n)=true:=by rfl) (hw:az E g .yes:=by first|exact .none|exact .yes rfl):
 SR F K (.op ⟨none,K0 z x,g⟩::Op.aI rs) E O R Q:=fun W h sh=>
 ad.FR (v:=dm) (h':=h.put a (.cells l' false)) hw (fun e he=>by
  simp only[hx e he,F2 (sh.hC hi) hs cI];rfl) (S.r hn W _ (sh.zn hi _))
end S
end Go.Ev
namespace Go.Ev
theorem Wg {n c i j:Nat} (dr:i≤j) (hj:j≤c):eD n c (some (.int .i64 (i:Int))) (some (.int .i64 (j:Int))) (some (.int .i64 (j:Int)))=some (i,j,j):=by
 show(match(match Nat.ble j c with|true=>some j|false=>none:Option Nat)with|none=>none|some m=>match(match Nat.ble j m with|true=>some j|false=>none:Option Nat)with|none=>none|some h=>(match(match Nat.ble i h with|true=>some i|false=>none:Option Nat)with|none=>none|some l=>some (l,h,m)):Option (Nat×Nat×Nat))=_;simp only[xi hj,xi (B5 j),xi dr]
theorem FS.full {O:Fz} {v:V} {k n:Nat} {cs:List V} (hs:FS O v k n cs) {i j:Nat} (dr:i<j) (hj:j≤n):∃v',ef k v (some (.int .i64 (i:Int))) (some (.int .i64 (j:Int))) (some (.int .i64 (j:Int)))=some v'∧FS O v' k (j-i) ((cs.drop (i*k)).take ((j-i)*k)):=by
 have hlen:((cs.drop (i*k)).take ((j-i)*k)).length=(j-i)*k:=by
  rw[ab7,Rn,hs.1,←Nat.sub_mul];exact aqn (arb _ (by omega))
 have me:∀(o:Nat) (l:List V),(∀(i:Nat) (u:V),cs[i]? =some u→l[o+i]? =some u)→∀(q:Nat) (u:V),((cs.drop (i*k)).take ((j-i)*k))[q]? =some u→l[o+i*k+q]? =some u:=fun o l hh q u hu=>by
  rw[aqt]at hu;split at hu
  ·rw[aqi]at hu;rw[aqf];exact hh _ _ hu
  ·cases hu
 rcases hs.2 with⟨rfl,rfl⟩|⟨a,o,c,b,l,rfl,J,h3,h4,h5⟩
 ·omega
 ·refine⟨.sl a (o+i*k) (j-i) (.ex (j-i)),?_,hlen,.inr ⟨a,_,_,b,l,rfl,J,h3,me o l h4,B5 _⟩⟩;cases c with
  |ex c=>
   have An:n≤c:=h5;simp only[ef,Wg (are dr) (aqb hj An),xf (show j≠i by omega),KL]
  |un s=>
   obtain rfl:s=k:=h5;have hb:Nat.blt i j=true:=by rw[ari];exact dr
   simp only[ef,Wg (are dr) hj,eQ,E7,hb]
theorem aa.full {O:Fz} {U:Type} {e:bI U} {v:V} {l:List U} (h:aa e O v l) {i j:Nat} (dr:i<j) (hj:j≤l.length):∃v',ef e.k v (some (.int .i64 (i:Int))) (some (.int .i64 (j:Int))) (some (.int .i64 (j:Int)))=some v'∧aa e O v' ((l.drop i).take (j-i)):=by
 obtain⟨v',I,J⟩:=FS.full h dr hj;refine⟨v',I,?_⟩;rw[Ge,Gf]at J;unfold aa
 rwa [ab7,Rn,aqn (by omega)]
end Go.Ev
set_option maxHeartbeats 1000000
namespace Go.Ev
variable{F:Nat→Option aN} {O:Fz}
theorem eqN (a b:cM):cg .eql (.agg [(0,.i),(1,.i),(2,.s)]) (.agg (aH.f a)) (.agg (aH.f b))=some (.bool (decide (a=b))):=by
 rw[show decide (a=b)=decide (a.kind=b.kind∧a.mode=b.mode∧a.body=b.body)from decide_eq_decide.2 (TE a b)];exact ait _ _ _ _ _ _
def rp (t:an):Prop:=t.length≤1000∧∀n∈t,n.body.length≤10000
theorem Wh {t:an} (hb:rp t) (i:Int):(nd t i).body.length≤10000:=by
 unfold nd;split
 ·exact amu _
 ·rename_i h;obtain⟨j,hj,ap,H9⟩:=CM (t:=t) (x:=i) (by omega) (by omega);rw[H9];exact hb.2 _ (W1 ap)
theorem aly [Fx F] {tv:V} {t:an} {i:Int} (ht:aa aH O tv t) (hb:t.length≤1000):bk F 261 [.agg [tv],.j i] O (.agg (aH.f (nd t i))):=by
 have st:=ht.av;refine ai.ak (au ?_);refine S.box fun a2=>?_;refine S.alloc fun a4=>?_;refine S.bin ?_;refine G.mv ?_;refine G.aE ?_;refine G.ld 1 ?_;refine G.len ?_ (hl:=aa.len ht);refine G.bin ?_;refine G.or ?_;refine C.B (fun eM=>?_) fun eM=>?_
 ·have e:nd t i=ff:=by
   unfold nd;rw[B4];simp only[amt,G6]at eM;exact eM
  rw[e];refine S.build ?_;refine S.store 0 ?_;exact⟨_,.cN 0 rfl rfl rfl rfl .nil,.none rfl⟩
 ·simp only[W0,NI]at eM;have e:nd t i=nodeAt t i:=by unfold nd;rw[pg];omega
  rw[e];refine S.ld 1 ?_;refine S.bin ?_ (hv:=ig (by omega) (by omega));refine S.fz (n:=i) ht (by omega) (by omega) fun vS nA=>?_;refine S.bP ?_ (l:=aH.f (nodeAt t i));refine S.store 0 ?_;exact⟨_,.cN 0 rfl rfl rfl rfl .nil,.none rfl⟩
theorem Wi [Fx F] {tv:V} {t:an} {i:Int} (ht:aa aH O tv t) (hb:rp t):ai F 255 [.agg [tv],.j i] O [] (fun r ψ R=>R=[]∧aa c9 ψ r (aR t i)) never:=by
 have st:=ht.av;have dD:=Wh hb i;refine au ?_;refine S.box fun a2=>?_;refine S.af 0 ?_ (l:=[tv]);refine S.ak (aly (i:=i) ht hb.1) ?_;refine S.alloc fun a5=>?_;refine S.store 0 ?_;refine S.ld 0 ?_;refine S.bin ?_;refine C.B (fun eM=>?_) fun eM=>?_
 ·have e:aR t i=[]:=by rw[GS];unfold gj;rw[pg (by simpa using eM)]
  rw[e];exact⟨_,.t rfl .nil,.none ⟨rfl,aa.nil _⟩⟩
 ·have e:aR t i=(cY (nd t i).body).getD []:=by rw[GS];unfold gj;rw[B4 (by simpa using eM)]
  rw[e];refine S.ld 0 ?_;refine S.call (V7 (b:=(nd t i).body) dD) fun k0 rO rP rQ bX=>?_;obtain⟨rfl,w,rfl,hw⟩:=bX;exact⟨_,.t rfl .nil,.none ⟨rfl,hw⟩⟩
theorem alz [Fx F] {n:cM} (hb:n.body.length≤10000):ai F 242 [.agg (aH.f n)] O [] (fun r _ R=>R=[]∧r=.bool (fR n)) never:=by
 refine au ?_;refine S.box fun bs=>?_;refine S.ld 0 ?_;refine S.bin ?_;refine C.D (fun ml=>?_) fun ml=>?_
 ·refine S.af 0 ?_ (l:=[.j (n).kind,.j (n).mode,.str (n).body]);refine S.build ?_;refine S.bin ?_ (hv:=eqN n ff);exact⟨_,.t rfl .nil,.none ⟨rfl,by show V.bool _=V.bool _;unfold fR;rw[B4 ml]⟩⟩
 ·refine S.bin ?_;refine C.D (fun k8=>?_) fun k8=>?_
  ·refine S.ld 0 ?_;refine S.cD ?_;refine S.bin ?_;refine G.aE ?_;refine G.ld 0 ?_;refine G.bin ?_;refine G.and ?_;refine G.aE ?_;refine G.ld 0 ?_;refine G.bin ?_;refine G.and ?_;refine⟨_,.t rfl .nil,.none ⟨rfl,?_⟩⟩;show V.bool _=V.bool _;unfold fR zM;rw[pg ml,B4 k8];rw[←Bool.and_assoc];simp only[show((n.body.length:Int)≤120)↔n.body.length≤120 by omega]
  ·refine S.bin ?_;refine C.D (fun bq=>?_) fun bq=>?_
   ·refine S.ld 0 ?_;refine S.call (V7 hb) fun Be wq Eh ud io=>?_;obtain⟨rfl,w,rfl,hw⟩:=io;refine G.aE ?_;refine G.ld 0 ?_;refine G.bin ?_;refine G.and ?_;refine G.aE ?_;refine G.ld 0 ?_;refine G.bin ?_;refine G.and ?_;refine⟨_,.t rfl .nil,.none ⟨rfl,?_⟩⟩;show V.bool _=V.bool _;unfold fR zM;rw[pg ml,pg k8,B4 bq];rw[←Bool.and_assoc]
   ·exact⟨_,.t rfl .nil,.none ⟨rfl,by show V.bool _=V.bool _;unfold fR;rw[pg ml,pg k8,pg bq]⟩⟩
theorem alA [Fx F] {n:cM} (hb:n.body.length≤10000):ai F 241 [.agg (aH.f n)] O [] (fun r _ R=>R=[]∧r=.bool (!fR n)) never:=by
 refine au ?_;refine S.box fun bs=>?_;refine S.af 0 ?_ (l:=[.j (n).kind,.j (n).mode,.str (n).body]);refine S.call (alz hb) fun v4 ψ4 aar aas h4=>?_;obtain⟨rfl,rfl⟩:=h4;refine S.un ?_;exact⟨_,.t rfl .nil,.none ⟨rfl,rfl⟩⟩
theorem alB [Fx F] {tv:V} {t:an} (ht:aa aH O tv t) (hb:rp t):ai F 253 [tv,.fn 241 []] O [] (fun r _ R=>R=[]∧∃k:Int,r=.j k∧(0≤k↔t.all fR=false)) never:=by
 have b0:=hb.1;refine au ?_;refine S.len ?_ (hl:=aa.len ht);refine SW.bG (fun m E ψ R=>∃j:Nat,j+m=t.length∧t.all fR=(t.drop j).all fR∧aa aH ψ tv t∧R=[]∧Sub [(0,tv),(1,.fn 241 []),(7,.j (t.length:Int)),(8,.j (j:Int))] E) (m:=t.length) (.done ⟨0,by omega,rfl,ht,rfl,.r rfl⟩) ?_;intro m0 E ψ R ac hI;obtain⟨j,hj,hd,ht,rfl,hE⟩:=hI;refine C.sub hE ?_;refine S.bin ?_;refine C.D (fun eN=>?_) fun eN=>?_
 ·have hk:j<t.length:=by omega
  rw[Rm hk,aqJ]at hd;have hbk:=hb.2 _ (W1 hk);refine S.aF ht hk fun QP Ko=>?_;refine S.bP ?_ (l:=aH.f t[j]);refine S.alx (alA hbk) fun oP qe vZ kZ c2=>?_;obtain⟨rfl,rfl⟩:=c2;refine C.B (fun d9=>?_) fun d9=>?_
  ·refine⟨_,.t rfl .nil,.none ⟨rfl,_,rfl,?_⟩⟩;have:fR t[j]=false:=by simpa using d9
   rw[hd,this];simp
  ·refine S.bin ?_;have hf:fR t[j]=true:=by simpa using d9
   rw[hf,aql]at hd;exact⟨m0-1,by omega,.done ⟨j+1,by omega,hd,ht.mono kZ,rfl,.r rfl⟩⟩
 ·obtain rfl:j=t.length:=by omega
  rw[WV]at hd;exact⟨_,.t rfl .nil,.none ⟨rfl,_,rfl,by rw[hd];simp⟩⟩
theorem alC [Fx F] {tv:V} {t:an} (ht:aa aH O tv t) (hb:rp t):ai F 240 [tv,.fn 241 []] O [] (fun r _ R=>R=[]∧r=.bool (!t.all fR)) never:=by
 refine au ?_;refine S.call (alB ht hb) fun v7 wn O7 A9 h7=>?_;obtain⟨rfl,k,rfl,hk⟩:=h7;refine S.bin ?_;refine⟨_,.t rfl .nil,.none ⟨rfl,?_⟩⟩;have:decide (0≤k)=!t.all fR:=by rw[aqC];simp[hk]
 rw[←this];(try rfl)
theorem Wj {t:an} (hb:rp t) (i:Int):(aR t i).length≤10000:=by
 rw[GS];unfold gj;split
 ·cases h:cY (nd t i).body with
  |none=>exact amu _
  |some l=>exact aqb (Mj h) (Wh hb i)
 ·exact amu _
theorem alD [Fx F] {tv:V} {t:an} (ht:aa aH O tv t) (hb:rp t):ai F 244 [.agg [tv]] O [] (fun r _ R=>∃a,r=.sl a 0 10 (.ex 10)∧(l0 t).length=10∧R=[bp.ob (some a) (l0 t)]) never:=by
 have st:=ht.av;have b0:=hb.1;refine au ?_;refine S.box fun bs=>?_;refine S.xh (n:=10) (m:=10) (by omega) (by omega) (by omega) fun c1=>?_;have o7:∀l:List Int,l.length=10→ae bp (.sl c1 0 10 (.ex 10)) l (some c1):=fun l hl=>ae.new hl;refine S.ld 1 ?_;refine S.len ?_ (hl:=aa.len ht);refine SW.bG (fun m E ψ R=>∃(j:Nat) (nm:List Int),j+m=t.length∧nm.length=10∧(∀x∈nm,0≤x∧x≤j*10001)∧nm=xF t j 1 (List.replicate 10 0)∧aa aH ψ tv t∧R=[bp.ob (some c1) nm,(some bs,.cells [tv] false)]∧Sub [(1,.ptr bs 0),(3,.sl c1 0 10 (.ex 10)),(10,.j (t.length:Int)),(11,.j (j:Int))] E) (m:=t.length) (.done ⟨0,List.replicate 10 0,by omega,by simp,fun x hx=>by rw[aq8 hx];omega,rfl,ht,rfl,.r rfl⟩) ?_;intro m0 E ψ R ac hI;obtain⟨j,nm,hm,d2,oG,ab,ht,rfl,hE⟩:=hI;refine C.sub hE ?_;refine S.bin ?_;refine C.D (fun k8=>?_) fun k8=>?_
 ·refine S.af 1 ?_ (l:=[tv]);refine S.bin ?_ (hv:=ei (by omega) (by omega));refine S.call (Wi (i:=((j+1:Nat):Int)) ht hb) fun k0 rO rP rQ bX=>?_;obtain⟨rfl,bX⟩:=bX;have ht:=ht.mono rQ;have Jl:=Wj hb ((j+1:Nat):Int);obtain⟨l,ny⟩:∃l,l=aR t ((j+1:Nat):Int):=⟨_,rfl⟩
  rw[←ny]at bX Jl;have abu:∀e∈l,1≤e.ino∧e.ino≤9:=by rw[ny];exact pF
  refine S.len ?_ (hl:=aa.len bX);refine SW.loop (fun m E ψ R=>∃(k:Nat) (nk:List Int),k+m=l.length∧nk.length=10∧(∀x∈nk,0≤x∧x≤j*10001+k)∧l.foldl bump nm=(l.drop k).foldl bump nk∧aa aH ψ tv t∧aa c9 ψ k0 l∧R=[bp.ob (some c1) nk,(some bs,.cells [tv] false)]∧Sub [(1,.ptr bs 0),(3,.sl c1 0 10 (.ex 10)),(10,.j (t.length:Int)),(11,.j (j:Int)),(17,k0),(18,.j (l.length:Int)),(19,.j (k:Int))] E) (m:=l.length) ⟨0,nm,by omega,d2,by simpa using oG,rfl,ht,bX,rfl,.r rfl⟩ ?_;intro m2 E ψ R ac hI;obtain⟨k,nk,DU,nB,tW,oU,ht,hw,rfl,hE⟩:=hI;refine C.sub hE ?_;refine S.bin ?_;refine C.D (fun gs=>?_) fun gs=>?_
  ·have hk:k<l.length:=by omega
   rw[Rm hk]at oU;have gc:=abu _ (W1 hk);obtain⟨q,mo⟩:∃q:Nat,(l[k]).ino=(q:Int):=⟨(l[k]).ino.toNat,by omega⟩
   have g3:q<nk.length:=by omega
   have Yy:=tW _ (W1 g3);have tX:bump nk l[k]=nk.set q (nk[q]+1):=by unfold bump;rw[mo,aqo];exact TF _ g3
   refine S.aF hw hk fun AG x9=>?_;refine S.bP ?_ (l:=c9.f l[k]);refine S.alloc fun cb=>?_;refine S.store 0 ?_;refine S.ld 0 ?_;refine S.cX (o7 nk nB) g3 (fun g5 fo=>?_) (hi:=by rw[←mo];exact .t rfl);cases fo;refine S.fM 0 1 ?_;refine S.bin ?_ (hv:=ei (by omega) (by omega));refine S.cX (o7 nk nB) g3 (fun El d6=>?_) (hi:=by rw[←mo];exact .t rfl);cases d6;refine S.pE (nk[q]+1) 1 ?_;refine S.drop 0 ?_;refine S.bin ?_;refine⟨m2-1,by omega,k+1,nk.set q (nk[q]+1),by omega,by simpa using nB,?_,by rw[oU,←tX];(try rfl),ht,hw,rfl,.r rfl⟩;rw[←tX];intro x hx;have:=TY tW x hx;omega
  ·obtain rfl:k=l.length:=by omega
   rw[WV]at oU;change l.foldl bump nm=nk at oU;refine S.bin ?_;exact⟨m0-1,by omega,.done ⟨j+1,nk,by omega,nB,fun x hx=>by have:=tW x hx;omega,by rw[Vx,←ab,←oU,ny,arA 1 j],ht,rfl,.r rfl⟩⟩
 ·obtain rfl:j=t.length:=by omega
  have cz:nm=l0 t:=ab;subst cz;exact⟨_,.t rfl .nil,.drop 1 (.done ⟨c1,rfl,d2,rfl⟩)⟩
end Go.Ev
set_option maxHeartbeats 2000000
namespace Go.Ev
variable{F:Nat→Option aN} {O:Fz}
theorem alE {b:Bool} {v u:V} (h:b=true→v=u):gv b v=gv b u:=by cases b with|false=>rfl|true=>rw[h rfl]
theorem Wk {a b:Bool}:cg .neq (.flat .b) (.bool a) (.bool b)=some (.bool (a !=b)):=by cases a<;>cases b<;>rfl
theorem alF {t:an} (h9:t.length=9) (hk:(nodeAt t 1).kind=2) (hf:t.all fR=true):bL t=([1,2,3,4,5,6,7,8,9].all (fun i=>!rk t i)&&decide (((l0 t)[1]?).getD 0=0)):=by
 rw[VP,h9,hk,hf];(try rfl)
theorem alG [Fx F] {tv:V} {t:an} {a:Pa} (hb:rp t) (k:Nat):∀{O:Fz} {Z:List Int} {i:Int},left Z<k→1≤i→i≤9→aa aH O tv t→
 ai F 243 [.agg [tv],.j i,.map a] O [(some a,pR Z)] (fun _ _ R=>∃S',R=[(some a,pR S')]∧Rd t i Z S') never:=by
 induction k with
 |zero=>intro O Z i h;exact absurd h (arv _)
 |succ k ih=>?_
 intro O Z i hk I h9 ht;have st:=ht.av;refine au ?_;refine S.box fun a3=>?_;refine S.look 1 ?_;refine C.B (fun bU=>?_) fun bU=>?_
 ·exact⟨_,.nil,.drop 0 (.done ⟨Z,rfl,Rd.there (by simpa using bU)⟩)⟩
 ·have xQ:i∉Z:=by simpa using bU
  refine S.alw 1 xQ ?_;refine S.af 0 ?_ (l:=[tv]);refine S.call (Wi (i:=i) ht hb) fun rM qd x7 oR dR=>?_;obtain⟨rfl,dR⟩:=dR;have ht:=ht.mono oR;have d2:=Wj hb i;refine S.len ?_ (hl:=aa.len dR);refine SW.bG (fun m E ψ R=>∃(j:Nat) (S1:List Int),j+m=(aR t i).length∧Rs t i Z S1 j∧aa aH ψ tv t∧aa c9 ψ rM (aR t i)∧R=[(some a,pR S1),(some a3,.cells [tv] false)]∧Sub [(2,.map a),(3,.ptr a3 0),(15,rM),(16,.j ((aR t i).length:Int)),(17,.j (j:Int))] E) (m:=(aR t i).length) (.front 1 rfl (.done ⟨0,Z++[i],by omega,Rs.start,ht,dR,rfl,.r rfl⟩)) ?_;intro m0 E ψ R ac hI;obtain⟨j,S1,hm,hR,ht,hw,rfl,hE⟩:=hI;refine C.sub hE ?_;refine S.bin ?_;refine C.D (fun cy=>?_) fun cy=>?_
  ·have hj:j<(aR t i).length:=by omega
   have gc:=pF _ (W1 hj);have ap:=akL I h9 xQ;have ac:=akK (S:=Z++[i]) (S':=S1) (fun x hx=>by simp at hx;rcases hx with hx|hx;exact hR.sub x hx;subst hx;exact hR.at_);refine S.aF hw hj fun vS nA=>?_;refine S.bP ?_ (l:=c9.f (aR t i)[j]);refine S.alloc fun c1=>?_;refine S.store 0 ?_;refine S.af 2 ?_ (l:=[tv]);refine S.ld 0 ?_;refine S.bb 1 rfl (ih (Z:=S1) (i:=(aR t i)[j].ino) (by omega) gc.1 gc.2 ht) fun v25 AW AX t6 fF=>?_;obtain⟨S2,rfl,BB⟩:=fF;refine S.bin ?_;exact⟨m0-1,by omega,.drop 1 (.done ⟨j+1,S2,by omega,hR.step hj BB,ht.mono t6,hw.mono t6,rfl,.r rfl⟩)⟩
  ·obtain rfl:j=(aR t i).length:=by omega
   exact⟨_,.nil,.drop 1 (.done ⟨S1,rfl,hR.done (B5 _)⟩)⟩
theorem alH [Fx F] {tv:V} {t:an} (ht:aa aH O tv t) (hb:rp t):ai F 225 [tv] O [] (fun r _ R=>R=[]∧r=.bool (bL t)) never:=by
 have st:=ht.av;have b0:=hb.1;refine au ?_;refine S.len ?_ (hl:=aa.len ht);refine S.bin ?_;refine G.mv ?_;refine G.aF ht (j:=0) (z:=nodeAt t 1) (fun DO tT=>?_) (hj:=fun hb=>by simp at hb;rw[KJ (show 0<t.length by omega)];unfold nodeAt;rw[show((1:Int)-1).toNat=0 by rfl,KJ (show 0<t.length by omega)];(try rfl));refine G.bl tT fun DQ vP=>?_;refine G.aX ?_;refine G.bin ?_;refine G.or ?_;refine G.mv ?_;refine G.call (fun _=>alC ht hb) fun v22 wj A7 qj=>?_;rw[alE qj];have ht:=ht.mono A7;refine G.or ?_;refine C.B (fun eu=>?_) fun eu=>?_
 ·have e:bL t=false:=by
   rw[VP];simp only[amt,apH,NI]at eu;rcases eu with(h|h)|h
   ·rw[decide_eq_false (by omega)];(try rfl)
   ·rw[decide_eq_false h,Bool.and_false];(try rfl)
   ·rw[h,Bool.and_false];(try rfl)
  exact⟨_,.t rfl .nil,.none ⟨rfl,by rw[e];(try rfl)⟩⟩
 ·simp only[W0,apR,G6]at eu;have tV:t.length=9:=by omega
  have QW:=alF tV eu.1.2 eu.2;refine S.build ?_;refine S.alloc fun a3=>?_;refine S.store 0 ?_;refine S.mkMap fun g5=>?_;refine S.af 1 ?_ (l:=[tv]);refine S.bb 0 rfl (alG hb 10 (Z:=[]) (i:=1) (by decide) (by omega) (by omega) ht) fun yb yc yd oT d6=>?_;obtain⟨abv,rfl,tA⟩:=d6;have ht:=ht.mono oT;refine S.af 1 ?_ (l:=[tv]);refine S.call (alD ht hb) fun vT rV AP mn fp=>?_;obtain⟨sy,rfl,d2,rfl⟩:=fp;have ht:=ht.mono mn;obtain⟨nm,rJ⟩:∃nm,nm=l0 t:=⟨_,rfl⟩
  rw[←rJ]at d2⊢;have ul:ae bp (.sl sy 0 10 (.ex 10)) nm (some sy):=ae.new d2;refine S.len ?_ (hl:=aa.len ht);refine SW.bG (fun m E ψ R=>∃j:Nat,j+m=t.length∧(∀i:Nat,1≤i→i≤j→rk t i=false)∧aa aH ψ tv t∧R=[bp.ob (some sy) nm,(some g5,pR abv),(some a3,.cells [tv] false)]∧Sub [(4,.map g5),(5,.sl sy 0 10 (.ex 10)),(32,tv),(33,.j (t.length:Int)),(34,.j (j:Int))] E) (m:=t.length) (.done ⟨0,by omega,fun i I J=>by omega,ht,rfl,.r rfl⟩) ?_;intro m0 E ψ R ac hI;obtain⟨j,hm,j0,ht,rfl,hE⟩:=hI;refine C.sub hE ?_;refine S.bin ?_;refine C.D (fun wO=>?_) fun wO=>?_
  ·have hj:j<t.length:=by omega
   have o3:j+1<nm.length:=by omega
   refine S.aF ht hj fun OT Ii=>?_;refine S.bP ?_ (l:=aH.f t[j]);refine S.alloc fun c1=>?_;refine S.store 0 ?_;refine S.bin ?_ (v:=.j ((j+1:Nat):Int)) (hv:=by rw[ei (by omega) (by omega)];(try rfl));refine S.cX ul o3 fun a42 oX=>?_;cases oX;refine S.fM (j:=j+1) 0 1 ?_;refine S.ld 0 ?_;refine S.bin ?_;refine S.bF 0 ?_;refine S.bin ?_ (v:=.j ((j+1:Nat):Int)) (hv:=by rw[ei (by omega) (by omega)];(try rfl));refine S.look 2 ?_;rw[tA.root (j+1)];refine S.bin ?_ (hv:=Wk);refine G.mv ?_;refine G.un ?_;refine G.mv ?_;refine G.mv ?_;refine G.bin ?_;refine G.jR ?_;refine G.or ?_;refine G.aE ?_;refine G.ld 0 ?_;refine G.bin ?_;refine G.mv ?_;refine G.mv ?_;refine G.bin ?_;refine G.jR ?_;refine G.mv ?_;refine G.mv ?_;refine G.bin ?_;refine G.jR ?_;refine G.or ?_;have tX:rk t (j+1)=(((!decide ((t[j]).kind=0)) !=((fg t)[j+1]?).getD false)||(!!decide ((t[j]).kind=0)&&decide (0<nm[j+1]))||(decide ((t[j]).kind=2)&&decide ((0:Int)<(j:Int))&&!decide (nm[j+1]=1))):=by
    unfold rk;rw[Gu hj,←rJ,KJ o3];rw[show decide (1<j+1)=decide ((0:Int)<(j:Int))from decide_eq_decide.2 (by omega)];(try rfl)
   refine C.B (fun Kr=>?_) fun Kr=>?_
   ·have e:bL t=false:=by
     rw[QW];have:[1,2,3,4,5,6,7,8,9].all (fun i=>!rk t i)=false:=by
      rw[aqO];intro h;have:=ap6.1 h (j+1) (xG.2 ⟨by omega,by omega⟩);rw[tX,Kr]at this;cases this
     rw[this];(try rfl)
    exact⟨_,.t rfl .nil,.none ⟨rfl,by rw[e];(try rfl)⟩⟩
   ·refine S.bin ?_;have abw:∀i:Nat,1≤i→i≤j+1→rk t i=false:=by
     intro i I J;by_cases h:i≤j
     ·exact j0 i I h
     ·have:i=j+1:=by omega
      subst this;exact tX.trans Kr
    exact⟨m0-1,by omega,.drop 0 (.done ⟨j+1,by omega,abw,ht,rfl,.r rfl⟩)⟩
  ·obtain rfl:j=t.length:=by omega
   have e:bL t=decide (nm[1]'(by omega)=0):=by
    rw[QW];have:[1,2,3,4,5,6,7,8,9].all (fun i=>!rk t i)=true:=by
     rw[ap6];intro i hi;have:=xG.1 hi;rw[j0 i this.1 (by omega)];(try rfl)
    rw[this,←rJ,KJ (show 1<nm.length by omega)];(try rfl)
   refine S.cX (j:=1) ul (by omega) fun a76 I1=>?_;cases I1;refine S.fM (j:=1) 0 0 ?_;refine S.bin ?_;exact⟨_,.t rfl .nil,.none ⟨rfl,by rw[e];(try rfl)⟩⟩
end Go.Ev
set_option maxHeartbeats 2000000
namespace Go.Ev
variable{F:Nat→Option aN} {O:Fz}
theorem alI [Fx F] {sv:V} (hs:isScalar sv=true):ai F 226 [sv,.j 40] O [] (fun r ψ R=>ψ=O∧∃jJ qu,r=.fn 245 [.ptr jJ 0,.ptr qu 0]∧R=[(some qu,.cells [.j 40] false),(some jJ,.cells [sv] false)]) never:=by
 have BQ:sv.cells=[sv]:=jm hs;refine au ?_;refine S.box (v:=sv) (fun a2=>?_) (hs:=by rw[BQ];simp[aY,hs]);rw[BQ];refine S.box fun a3=>?_;refine S.ld 0 ?_;refine S.bin ?_;refine C.D (fun ja=>?_) fun ja=>?_
 ·exact absurd ja (by omega)
 ·refine S.FX ?_;exact⟨_,.t rfl .nil,.done ⟨rfl,a2,a3,rfl,rfl⟩⟩
theorem alJ {b:Bs} {bC:V} {jJ qu l:Pa} {A B':IC al} {nt:Nat} {R:List Ob} {P:bB} (d0:Nat→Fz→List Ob→Prop) (hw:aa aQ O bC b) (hb:b.length≤1000000) (h0:d0 0 O R) (Ks:∀q ψ R,d0 q ψ R→R[2]? =some (some jJ,.cells [bC] false)) (QX:∀q ψ R,d0 q ψ R→R[1]? =some (some qu,.cells [.j 40] false))
 (hy:∀(q:Nat) (v:V) (ψ:Fz) (R:List Ob),O.Le ψ→40*q<b.length→d0 q ψ R→aa aQ ψ v ((b.drop (40*q)).take 40)→xm F (zs 245 nt l A B') l [v] ψ R (fun c χ O'=>(c=true→d0 (q+1) χ O')∧c≠false))
 (hn:∀E q ψ R,O.Le ψ→b.length≤40*q→d0 q ψ R→P.n E ψ R):SW F (zs 245 nt l A B') B.Tt.den [(0,.gV l),(1,.ptr jJ 0),(2,.ptr qu 0)] O R P:=by
 refine SC.w ?_;refine SW.loop (fun m E ψ R=>∃q:Nat,O.Le ψ∧b.length+40≤40*q+m+40∧40*q≤b.length+40∧d0 q ψ R∧Sub [(0,.gV l),(1,.ptr jJ 0),(2,.ptr qu 0),(4,.j ((40*q:Nat):Int))] E) (m:=b.length) ⟨0,.refl O,by omega,by omega,h0,.r rfl⟩ ?_;intro m E ψ R ac ⟨q,gU,yR,eo,hi,hE⟩;refine C.sub hE ?_;refine S.ld 2 ?_ (hi:=Ks _ _ _ hi);refine S.len ?_ (hl:=aa.len hw);refine S.bin ?_;refine C.D (fun eN=>?_) fun eN=>?_
 ·have hq:40*q<b.length:=by omega
  obtain⟨k,hk⟩:∃k,k=min 40 (b.length-40*q):=⟨_,rfl⟩
  refine S.ld 1 ?_ (hi:=QX _ _ _ hi);refine S.ld 2 ?_ (hi:=Ks _ _ _ hi);obtain⟨oP,c2,f16⟩:=(hw.mono gU).lo (j:=40*q) (by omega);refine S.slice c2 ?_;refine S.len ?_ (hl:=aa.len f16);rw[Rn];refine S.pB (CE 40 (b.length-40*q)) ?_;rw[←hk];refine S.ld 2 ?_ (hi:=Ks _ _ _ hi);refine S.bin ?_ (v:=.j ((40*q+k:Nat):Int)) (hv:=by rw[ei (by omega) (by omega)];(try rfl));refine S.bin ?_ (v:=.j ((40*q+k:Nat):Int)) (hv:=by rw[ei (by omega) (by omega)];(try rfl));obtain⟨nE,dv,f28⟩:=(hw.mono gU).full (i:=40*q) (j:=40*q+k) (by omega) (by omega);refine S.slice dv ?_;have eX:(b.drop (40*q)).take (40*q+k-40*q)=(b.drop (40*q)).take 40:=by
   rw[List.take_eq_take_iff,Rn];omega
  rw[eX]at f28;refine S.yield (hy q nE ψ R gU hq hi f28) fun c χ O' eJ hc=>?_;have HE:c=true:=by cases c with|true=>rfl|false=>exact absurd rfl hc.2
  subst HE;refine S.un ?_;refine C.B (t:=!true) (fun qf=>by cases qf) fun _=>?_;have i2:=hc.1 rfl;refine S.ld 1 ?_ (hi:=QX _ _ _ i2);refine S.bin ?_ (v:=.j ((40*(q+1):Nat):Int)) (hv:=by rw[ei (by omega) (by omega)];(try rfl));exact⟨m-40,by omega,q+1,gU.trans eJ,by omega,by omega,i2,.r rfl⟩
 ·show P.n _ _ _;exact hn _ q _ _ gU (by omega) hi
theorem alK {ino idx:Int} {f:Nat} {b:Bs} (h:b=[]):kJ ino f idx b=[]:=by subst h;exact Ux
def alL (e:T V) (fn nt:Nat) (l jJ qu cb a5 a4 a3:Pa) (bC:V) (n:cM) (j q:Nat) (w:V) (out:List bH) (s:Option Pa):List Ob:=
 [(some l,.loop {state:=.ready,pending:=none,fn:=fn,nt:=nt,env:=e,params:=[pa 41]}),(some qu,.cells [.j 40] false),(some jJ,.cells [bC] false),(some cb,.cells [.j ((q:Int)+1)] false),(some a5,.cells [.j n.kind,.j n.mode,.str n.body] false),(some a4,.cells [.j (j:Int)] false),br.ob s out,(some a3,.cells [w] false)]
theorem alM [Fx F] {tv:V} {t:an} (ht:aa aH O tv t) (hb:rp t):
 ai F 197 [tv] O [] (fun r ψ R=>R=[]∧aa br ψ r (cn t)) never:=by
 have b0:=hb.1;refine au ?_;refine S.call (alH ht hb) fun v9 x6 O9 vM h9=>?_;obtain⟨rfl,rfl⟩:=h9;have ht:=ht.mono vM;refine S.un ?_;refine C.B (fun bU=>?_) fun bU=>?_
 ·have e:cn t=[]:=by unfold cn;rw[pg];intro h;rw[h]at bU;cases bU
  rw[e];exact⟨_,.t rfl .nil,.none ⟨rfl,aa.nil _⟩⟩
 ·have e:cn t=hQ 1 t:=by unfold cn;rw[B4];simpa using bU
  rw[e];refine S.alloc fun a3=>?_;refine S.len ?_ (hl:=aa.len ht);refine SW.new br ?_;refine SW.bG (fun m E ψ R=>∃(j:Nat) (out:List bH) (v:V) (s:Option Pa),j+m=t.length∧out++hQ ((j:Int)+1) (t.drop j)=hQ 1 t∧out.length≤20000*j∧aa aH ψ tv t∧R=[br.ob s out,(some a3,.cells [v] false)]∧ae br v out s∧Sub [(3,.ptr a3 0),(11,tv),(12,.j (t.length:Int)),(13,.j (j:Int))] E) (m:=t.length) (.done ⟨0,[],.no .sl,none,by omega,rfl,by simp,ht,rfl,ae.nil,.r rfl⟩) ?_;intro m0 E ψ R ac hI;obtain⟨j,out,v,s,e5,ab,dC,ht,rfl,ho,hE⟩:=hI;refine C.sub hE ?_;refine S.bin ?_;refine C.D (fun dG=>?_) fun dG=>?_
  ·have hj:j<t.length:=by omega
   obtain⟨n,hn⟩:∃n,n=t[j]:=⟨_,rfl⟩
   have oG:n.body.length≤10000:=by rw[hn];exact hb.2 _ (W1 hj)
   rw[Rm hj,←hn]at ab;simp only[hQ]at ab;refine S.aF ht hj fun DQ vP=>?_;rw[←hn]at vP;refine S.bP ?_ (l:=aH.f n);refine S.alloc fun a4=>?_;refine S.alloc fun a5=>?_;refine S.store 1 ?_;refine S.store 0 ?_;refine S.ld 0 ?_;refine S.bin ?_;refine C.D (fun gs=>?_) fun gs=>?_
   ·refine S.bin ?_;have e2:lS ((j:Int)+1) n=[]:=by unfold lS;exact B4 gs
    rw[e2,aqa]at ab;exact⟨m0-1,by omega,.drop 0 (.drop 0 (.done ⟨j+1,out,v,s,by omega,ab,by omega,ht,rfl,ho,.r rfl⟩))⟩
   ·have e2:lS ((j:Int)+1) n=⟨(j:Int)+1,0,[bS n.kind,bS n.mode,bS n.body.length]⟩::kJ ((j:Int)+1) n.body.length 1 n.body:=by unfold lS;exact pg gs
    rw[e2]at ab;refine S.ld 3 ?_;refine S.ld 1 ?_;refine S.bin ?_ (v:=.j ((j:Int)+1)) (hv:=ei (by omega) (by omega));refine S.ld 0 ?_;refine S.ld 0 ?_;refine S.ld 0 ?_;refine S.cD ?_;refine S.a8 fun sy=>?_;have ul:ae bp (.sl sy 0 3 (.ex 3)) [n.kind,n.mode,(n.body.length:Int)] (some sy):=ae.new rfl;refine S.ct 0 ul fun rV mn fp=>?_;have ht:=ht.mono mn;refine S.call (Dj (b:=[]) (n:=1) (aa.nil _) fp (by omega) (by omega) (by simp) (by simp)) fun Py Eg O32 yu oY=>?_;obtain⟨oY,s32,rfl,EU⟩:=oY;have oY:=oY.symm;subst oY;have jD:[]++bo 1 [n.kind,n.mode,(n.body.length:Int)]=[bS n.kind,bS n.mode,bS n.body.length]:=rfl;rw[jD]at EU⊢;refine S.bF 2 ?_;refine S.bF 4 ?_ (hs:=ho.same);refine S.jS 0 EU ?_;refine S.drop 0 ?_;refine S.build ?_;refine S.a8 fun Bj=>?_;refine S.bu (m:=[⟨(j:Int)+1,0,[bS n.kind,bS n.mode,bS n.body.length]⟩]) 3 ho (.lit 0) (by simp;omega) fun ue yv j7=>?_;refine S.drop 0 ?_;refine S.store 3 ?_ (hs:=by rw[jm j7.av];simp[aY,j7.av]) (cI:=by rw[jm j7.av];(try rfl)) (hl:=by rw[jm j7.av];(try rfl));refine S.alloc fun cb=>?_;refine S.store 0 ?_;refine S.ld 1 ?_;refine S.mV fun v39 yj qh g6=>?_;have ht:=ht.mono qh;refine S.call (alI g6.av) fun wt QF QG Ka mF=>?_;obtain⟨mF,jJ,qu,rfl,rfl⟩:=mF;have mF:=mF.symm;subst mF;have abx:=g6;have dD:n.body.length≤10000:=oG;refine SW.Tx (Fx.h (f:=245) rfl) rfl fun l e he=>?_;refine alJ (b:=n.body) (fun q ψ R=>yj.Le ψ∧∃(f:Nat) (out:List bH) (w:V) (s:Option Pa),out++(kJ ((j:Int)+1) f ((q:Int)+1) (n.body.drop (40*q))++hQ ((j:Int)+1+1) (t.drop (j+1)))=hQ 1 t∧(n.body.drop (40*q)).length≤f∧out.length+f≤20000*j+1+n.body.length∧40*q≤n.body.length+40∧ae br w out s∧R=alL e 197 55 l jJ qu cb a5 a4 a3 v39 n j q w out s) abx (by omega) ⟨.refl _,n.body.length,_,ue,yv,by rw[←ab,KK];(try rfl),by simp,by simp;omega,by omega,j7,rfl⟩ (fun q ψ R h=>by obtain⟨_,_,_,_,_,_,_,_,_,_,rfl⟩:=h;rfl) (fun q ψ R h=>by obtain⟨_,_,_,_,_,_,_,_,_,_,rfl⟩:=h;rfl) ?hy ?hn
    case hy=>
     intro q v ψ O2 ac hq hI hv;obtain⟨gU,f,QY,w,s2,cz,fW,PX,PE,ow,sx⟩:=hI;subst sx;have QZ:(n.body.drop (40*q)).length=n.body.length-40*q:=Rn;obtain⟨f1,rfl⟩:∃f1,f=f1+1:=⟨f-1,by omega⟩
     rw[Uw (by intro h;rw[h]at QZ;simp at QZ;omega),aq6]at cz;refine xm.round (r:={state:=.ready,pending:=none,fn:=197,nt:=55,env:=e,params:=[pa 41]}) rfl rfl (he.set 41 _) ?_;refine SC.w ?_;refine SC.w ?_;refine S.ld 6 ?_;refine S.ld 4 ?_;refine S.bin ?_ (v:=.j ((j:Int)+1)) (hv:=ei (by omega) (by omega));refine S.ld 2 ?_;refine S.Gt hv ?_;refine S.build ?_;refine S.a8 fun Bf=>?_;refine S.bu (m:=[⟨(j:Int)+1,(q:Int)+1,(n.body.drop (40*q)).take 40⟩]) 6 ow (.lit 0) (by simp;omega) fun v50 BP mG=>?_;refine S.drop 0 ?_;refine S.store 6 ?_ (hs:=by rw[jm mG.av];simp[aY,mG.av]) (cI:=by rw[jm mG.av];(try rfl)) (hl:=by rw[jm mG.av];(try rfl));refine S.ld 2 ?_;refine S.bin ?_ (v:=.j (((q+1:Nat):Int)+1)) (hv:=by rw[ei (by omega) (by omega)];(try rfl));refine S.store 2 ?_;refine⟨fun _=>⟨gU,f1,_,v50,BP,by rw[←cz,KK];(try rfl),by rw[Rn]at fW⊢;omega,by simp;omega,by omega,mG,rfl⟩,by simp⟩
    intro E2 q ψ2 O2 ac hq hI;obtain⟨gU,f,QY,w,s2,cz,fW,PX,PE,ow,sx⟩:=hI;subst sx;refine⟨_,_,rfl,(by intro h;cases h),.inl ⟨rfl,?_⟩⟩;rw[alK (arl hq),aqa]at cz;have ht:=ht.mono gU;refine S.bin ?_;exact⟨m0-1,by omega,.drop 0 (.drop 0 (.drop 0 (.drop 0 (.drop 0 (.done ⟨j+1,QY,w,s2,by omega,cz,by omega,ht,rfl,ow,.r rfl⟩)))))⟩
  ·obtain rfl:j=t.length:=by omega
   rw[WV]at ab;simp only[hQ,ap9]at ab;rw[ab]at ho⊢;refine S.ld 1 ?_;exact⟨_,.t rfl .nil,.drop 1 (.bR 0 rfl ho fun ψ l hf=>.done ⟨rfl,hf⟩)⟩
end Go.Ev
set_option maxHeartbeats 1000000
namespace Go.Ev
variable{F:Nat→Option aN} {O:Fz}
theorem alN {t:an} (h:bL t=true):cn t≠[]:=by
 obtain⟨h9,hk,_⟩:=MZ h;unfold cn;rw[B4 h];cases t with
 |nil=>simp at h9
 |cons n r=>
  have hn:n.kind=2:=hk;simp only[hQ];unfold lS;rw[pg (by omega)];simp
theorem alO {l:List bH} {t:an} (h:jV (List.replicate 9 ff) l=some t) (I:(cn t).length≠0) (J:cn t=l):fh l=some t:=by
 unfold fh;rw[h];simp only;have hm:bL t=true:=by
  apply Decidable.byContradiction;intro hm;apply I;unfold cn;rw[pg hm];(try rfl)
 rw[hm,J];simp
theorem alP {l:List bH} {t:an} (h:jV (List.replicate 9 ff) l=some t) (I:(cn t).length=0∨cn t≠l):fh l=none:=by
 unfold fh;rw[h];simp only;rw[pg];intro hm;simp only[G7,G6]at hm;rcases I with I|I
 ·exact alN hm.1 (ap8 I)
 ·exact I hm.2
theorem alQ [Fx F] {ew:Pa} {t:an} {r:bH} (di:t.length=9) (mw:∀x∈t,x.body.length≤10000) (yw:r.load.length≤60) (Bt:0≤r.idx):
 ai F 196 [.agg [.sl ew 0 9 (.ex 9)],.agg (br.f r)] O [aH.ob (some ew) t] (fun v ψ R=>ψ=O∧v=.bool (fB t r).isSome∧R=[aH.ob (some ew) ((fB t r).getD t)]) never:=by
 have ot:ae aH (.sl ew 0 9 (.ex 9)) t (some ew):=ae.new di;refine au ?_;refine S.box fun a2=>?_;refine S.box fun a3=>?_;refine S.ld 0 ?_;refine S.bin ?_;refine G.aE ?_;refine G.ld 0 ?_;refine G.aE ?_;refine G.ld 1 ?_;refine G.len ?_ (hl:=ae.len ot);refine G.bin ?_;refine G.or ?_;refine C.B (fun d9=>?_) fun d9=>?_
 ·have aj:fB t r=none:=by
   unfold fB;rw[B4];simp only[amt,G6]at d9;omega
  refine⟨_,.t rfl .nil,.drop 0 (.drop 0 (.done ⟨rfl,by rw[aj];(try rfl),by rw[aj];(try rfl)⟩))⟩
 ·simp only[W0,NI]at d9;obtain⟨i,hi⟩:∃i:Nat,r.ino-1=(i:Int):=⟨(r.ino-1).toNat,by omega⟩
  have dj:i<t.length:=by omega
  have hib:=mw _ (W1 dj);refine S.ld 1 ?_;refine S.ld 0 ?_;refine S.bin ?_ (v:=.j (i:Int)) (hv:=by rw[ig (by omega) (by omega),hi]);refine S.cX ot dj fun a22 qj=>?_;cases qj;refine S.ld 0 ?_;refine S.bin ?_;refine C.D (fun bV=>?_) fun bV=>?_
  ·have aj:fB t r=some (t.set i {t[i]with body:=t[i].body++r.load}):=by
    unfold fB;rw[pg (by omega),pg (by omega),zC hi,CW hi dj]
   refine S.aE ?_;refine S.fM (e:=aH) (l:=t) (j:=i) 2 2 ?_;refine S.ld 0 ?_;refine S.bin ?_;refine S.aE ?_;refine S.zr (e:=aH) (l:=t) (j:=i) {t[i]with body:=t[i].body++r.load} 2 2 ?_;refine⟨_,.t rfl .nil,.drop 0 (.drop 0 (.done ⟨rfl,by rw[aj];(try rfl),by rw[aj];(try rfl)⟩))⟩
  ·refine S.ld 0 ?_;refine S.cD ?_;refine S.bin ?_;refine C.B (fun j6=>?_) fun j6=>?_
   ·have aj:fB t r=none:=by unfold fB;rw[pg (by omega),B4 (by omega),pg (by simp at j6;omega)]
    refine⟨_,.t rfl .nil,.drop 0 (.drop 0 (.done ⟨rfl,by rw[aj];(try rfl),by rw[aj];(try rfl)⟩))⟩
   ·have wu:r.load.length=3:=by simp at j6;omega
    have h0:r.load[0]? =some r.load[0]:=KJ (by omega);have I:r.load[1]? =some r.load[1]:=KJ (by omega);have aj:fB t r=some (t.set i {t[i]with kind:=(r.load[0]).toNat,mode:=(r.load[1]).toNat}):=by
     unfold fB;rw[pg (by omega),B4 (by omega),B4 wu,zC hi,CW hi dj,h0,I];(try rfl)
    refine S.ld 0 ?_;refine S.iS h0 ?_;refine S.lK ?_;refine S.ld 0 ?_;refine S.iS I ?_;refine S.lK ?_;refine S.aE ?_;refine S.zr (e:=aH) (l:=t) (j:=i) {t[i]with kind:=(r.load[0]).toNat} 0 2 ?_;refine S.T7 (b:=r.load[1]) ?_;refine S.bF 0 ?_;refine S.aE ?_;refine S.zr (e:=aH) (l:=t.set i {t[i]with kind:=(r.load[0]).toNat}) (j:=i) {t[i]with kind:=(r.load[0]).toNat,mode:=(r.load[1]).toNat} 1 2 ?_ (hj:=by simpa using dj) (hu:=by rw[arX];(try rfl));refine⟨_,.t rfl .nil,.drop 0 (.drop 0 (.done ⟨rfl,by rw[aj];(try rfl),by rw[aj];exact congrArg (fun x=>[aH.ob (some ew) x]) (List.set_set _)⟩))⟩
theorem alR {t t':an} {r:bH} {B:Nat} (h:fB t r=some t') (hl:t.length=9) (hb:∀x∈t,x.body.length≤60*B) (hr:r.load.length≤60):t'.length=9∧∀x∈t',x.body.length≤60*(B+1):=by
 unfold fB at h;split at h
 ·cases h
 ·rename_i h0;obtain⟨i,hi⟩:∃i:Nat,r.ino-1=(i:Int):=⟨(r.ino-1).toNat,by omega⟩
  have dj:i<t.length:=by omega
  have hib:=hb _ (W1 dj);rw[zC hi,zC hi,CW hi dj]at h;split at h
  ·split at h
   ·cases h;refine⟨by simpa using hl,fun x hx=>?_⟩;rcases ara hx with hx|rfl
    ·have:=hb x hx;omega
    ·show(t[i]).body.length≤_;omega
   ·cases h
  ·cases h;refine⟨by simpa using hl,fun x hx=>?_⟩;rcases ara hx with hx|rfl
   ·have:=hb x hx;omega
   ·show((t[i]).body++r.load).length≤_;rw[amv];omega
theorem alS [Fx F] {lv:V} {l:List bH} (hl:aa br O lv l) (hlen:l.length≤150) (hb:∀r∈l,r.load.length≤60∧0≤r.idx):
 ai F 149 [lv] O [] (fun r ψ R=>R=[]∧∃tv,r=.aM [tv,.bool (fh l).isSome]∧aa aH ψ tv ((fh l).getD [])) never:=by
 refine au ?_;refine S.u0 (e:=aH) ff (n:=9) (by omega) (by omega) fun ew o8=>?_;refine S.build ?_;refine S.alloc fun a4=>?_;refine S.store 0 ?_;refine S.len ?_ (hl:=aa.len hl);refine SW.bG (fun m E ψ R=>∃(j:Nat) (t:an),j+m=l.length∧jV (List.replicate 9 ff) l=jV t (l.drop j)∧t.length=9∧(∀x∈t,x.body.length≤60*j)∧O=ψ∧R=[(some a4,.cells [.sl ew 0 9 (.ex 9)] false),aH.ob (some ew) t]∧Sub [(0,lv),(4,.ptr a4 0),(10,lv),(11,.j (l.length:Int)),(12,.j (j:Int))] E) (m:=l.length) (.done ⟨0,List.replicate 9 ff,by omega,rfl,by simp,fun x hx=>by rw[aq8 hx];simp[ff],rfl,rfl,.r rfl⟩) ?_;intro m0 E ψ R ac hI;obtain⟨j,t,e5,ab,di,mw,rfl,rfl,hE⟩:=hI;refine C.sub hE ?_;refine S.bin ?_;refine C.D (fun eM=>?_) fun eM=>?_
 ·have hj:j<l.length:=by omega
  obtain⟨r,hr⟩:∃r,r=l[j]:=⟨_,rfl⟩
  have yw:=hb l[j] (W1 hj);rw[←hr]at yw;rw[Rm hj,←hr]at ab;refine S.aF hl hj fun QP Ko=>?_;rw[←hr]at Ko;refine S.bP ?_ (l:=[.j r.ino,.j r.idx,.str r.load]);refine S.alloc fun cb=>?_;refine S.store 0 ?_;refine S.af 1 ?_ (l:=[.sl ew 0 9 (.ex 9)]);refine S.af 0 ?_ (l:=[.j r.ino,.j r.idx,.str r.load]);refine S.bb 2 rfl (alQ (ew:=ew) (t:=t) (r:=r) di (fun x hx=>by have:=mw x hx;omega) yw.1 yw.2) fun r7 j5 AT mq cK=>?_;obtain⟨cK,rfl,rfl⟩:=cK;have cK:=cK.symm;subst cK;refine S.un ?_;refine C.B (fun cG=>?_) fun cG=>?_
  ·have aj:fB t r=none:=by cases h:fB t r with
    |none=>rfl
    |some t'=>rw[h]at cG;cases cG
   have e:fh l=none:=by
    unfold fh;rw[ab];simp only[jV];rw[aj]
   clear aj;exact⟨_,.t rfl (.t rfl .nil),.none ⟨rfl,_,by rw[e];(try rfl),by rw[e];exact aa.nil _⟩⟩
  ·refine S.bin ?_;obtain⟨t',aj⟩:∃t',fB t r=some t':=by cases h:fB t r with
    |none=>rw[h]at cG;cases cG
    |some t'=>exact⟨t',rfl⟩
   rw[aj];simp only[jV]at ab;rw[aj]at ab;simp only at ab;obtain⟨k1,k2⟩:=alR aj di mw yw.1;exact⟨m0-1,by omega,.drop 1 (.front 1 rfl (.done ⟨j+1,t',by omega,ab,k1,fun x hx=>by have:=k2 x hx;omega,rfl,rfl,.r rfl⟩))⟩
 ·obtain rfl:j=l.length:=by omega
  rw[WV]at ab;simp only[jV]at ab;have ot:ae aH (.sl ew 0 9 (.ex 9)) t (some ew):=ae.new di;have ug:rp t:=⟨by omega,fun x hx=>by have:=mw x hx;omega⟩
  refine S.ld 0 ?_;refine S.ct 1 ot fun PF lt qn=>?_;have hl:=hl.mono lt;refine S.call (alM qn ug) fun Ea Bb Eb uc eB=>?_;obtain⟨rfl,eB⟩:=eB;have hl:=hl.mono uc;have qn:=qn.mono uc;have lh:=Va t;refine S.len ?_ (hl:=aa.len eB);refine S.bin ?_;refine G.mv ?_;refine G.mv ?_;refine G.ak (fun _=>alo eB hl (by omega)) ?_;refine G.un ?_;refine G.or ?_;refine C.B (fun eA=>?_) fun eA=>?_
  ·have e:fh l=none:=by
    refine alP ab ?_;simp only[amt,G6,apH,NI]at eA;rcases eA with h|h
    ·exact .inl (by omega)
    ·exact .inr h
   exact⟨_,.t rfl (.t rfl .nil),.none ⟨rfl,_,by rw[e];(try rfl),by rw[e];exact aa.nil _⟩⟩
  ·have e:fh l=some t:=by
    simp only[W0,NI,apR,G6]at eA;exact alO ab (by omega) eA.2
   refine S.ld 0 ?_;exact⟨_,.t rfl (.t rfl .nil),.none ⟨rfl,_,by rw[e];(try rfl),by rw[e];exact qn⟩⟩
end Go.Ev
set_option maxHeartbeats 1000000
namespace Go.Ev
variable{F:Nat→Option aN} {O:Fz}
def Dk (c:Prop):V→Fz→List Ob→Prop:=fun v _ _=>c∧v=.iface 126 (.agg [])
abbrev l4 (lv wv:V) (d:ay) (next id:Int) (v6 v7 v8 v9 eL:V):List V:=[lv,wv,.j d.arm,.bool d.down,.j next,.j id,v6,v7,v8,v9,eL]
theorem xJ [Fx F] {b:Bool}:ai F 90 [.bool b] O [] (fun _ ψ R=>ψ=O∧b=true∧R=[]) (Dk (b=false)):=by
 refine au ?_;refine S.un ?_;refine C.B (fun pT=>?_) fun pT=>?_
 ·refine S.build ?_ (l:=[]);refine S.L0 ?_;refine S.panic ?_;exact⟨by simpa using pT,rfl⟩
 ·exact⟨_,.nil,.done ⟨rfl,by simpa using pT,rfl⟩⟩
theorem G4 [Fx F] (hr:F 223=some (.c7 ji)) {lv wv v6 v7 v8 v9 eL:V} {d:ay} {nx id:Int} {a:Pa} {s:Option Pa} {bQ:List ag} {b6 pe:Int} (hd:cP O [lv,wv,.j d.arm,.bool d.down] d) (cL:d.wait.length≤1000000) (ho:ae aq eL bQ s) (dD:bQ.length≤100000):
 ai F 89 [.ptr a 0,.agg [.j b6,.j pe]] O [(some a,.cells (l4 lv wv d nx id v6 v7 v8 v9 eL) false),aq.ob s bQ] (fun r ψ R=>∃x w s',b7 d b6 pe=some x∧r=.agg (bw.f x)∧R=[(some a,.cells (l4 lv wv d nx id v6 v7 v8 v9 w) false),aq.ob s' (bQ++[⟨b6,x.gen⟩])]∧ae aq w (bQ++[⟨b6,x.gen⟩]) s') (Dk (b7 d b6 pe=none)):=by
 refine au ?_;refine S.box fun a3=>?_;refine S.alloc fun a4=>?_;refine S.af 2 ?_ (l:=[lv,wv,.j d.arm,.bool d.down]);refine S.ld 1 ?_;refine S.ak (ak9 hd cL) ?_;refine S.lJ 0 (xJ) (fun mr wa wb r8 cu=>?_) ?aby
 case aby=>
  intro v ψ O' l h;obtain⟨I,J⟩:=h;exact⟨by unfold b7;rw[pg (by rw[I];decide)],J⟩
 obtain⟨cu,abz,rfl⟩:=cu;have cu:=cu.symm;subst cu;refine S.ak (ak5 hr (s:=(d.read b6).1)) ?_;have Q0:∀T:Option aV,T=hJ (d.read b6).1→b7 d b6 pe=(match T with|none=>none|some x=>if 0≤pe∧x.gen≠pe then none else some x):=fun T h=>by subst h;unfold b7;rw[B4 abz];(try rfl)
 obtain⟨T,kW⟩:∃T,T=hJ (d.read b6).1:=⟨_,rfl⟩
 have Q1:=Q0 T kW;clear Q0;rw[←kW];obtain⟨x,hx⟩:∃x,x=T.getD hG:=⟨_,rfl⟩
 rw[←hx];refine S.alloc fun c1=>?_;refine S.store 0 ?_;refine G.aE ?_;refine G.ld 2 ?_;refine G.bin ?_;refine G.mv ?_;refine G.aE ?_;refine G.ld 0 ?_;refine G.aE ?_;refine G.ld 2 ?_;refine G.bin ?_;refine G.xl ?_;refine G.and ?_;refine S.lJ 0 (xJ) (fun ya yM EH BF fZ=>?_) ?abA
 case abA=>
  intro v ψ O' l h;obtain⟨I,J⟩:=h;refine⟨?_,J⟩;rw[Q1];cases T with
  |none=>rfl
  |some y=>
   simp only;obtain rfl:x=y:=hx;rw[B4];simp at I;omega
 obtain⟨fZ,Q2,rfl⟩:=fZ;have fZ:=fZ.symm;subst fZ;have abB:b7 d b6 pe=some x:=by
  rw[Q1];cases T with
  |none=>simp at Q2
  |some y=>
   simp only;obtain rfl:x=y:=hx;rw[pg];simp at Q2;omega
 refine S.ld 3 ?_;refine S.ld 2 ?_;refine S.ld 0 ?_;refine S.build ?_;refine S.a8 fun Bf=>?_;refine S.bu (m:=[(⟨b6,x.gen⟩:ag)]) 5 ho (.lit 0) (by simp;omega) fun v50 BP mG=>?_;refine S.drop 0 ?_;refine S.nil? ?_;refine S.store 3 ?_ (hs:=by rw[jm mG.av];simp[aY,mG.av]) (cI:=by rw[jm mG.av];(try rfl)) (hl:=by rw[jm mG.av];(try rfl));refine S.af 0 ?_ (l:=[.j x.kind,.j x.gen,.str x.load]);refine S.store 1 ?_;exact⟨_,.cN 1 rfl rfl rfl rfl .nil,.drop 0 (.drop 0 (.drop 0 (.done ⟨x,v50,BP,abB,rfl,rfl,mG⟩)))⟩
end Go.Ev
set_option maxHeartbeats 4000000
namespace Go.Ev
variable{F:Nat→Option aN} {O:Fz}
theorem alT [Fx F] (hr:F 223=some (.c7 ji)) {lv wv v6 v7 v8 v9 eL:V} {d:ay} {nx id:Int} {a:Pa} {s:Option Pa} {bQ:List ag} {h:bH} {p:ag} (hd:cP O [lv,wv,.j d.arm,.bool d.down] d) (cL:d.wait.length≤1000000) (ho:ae aq eL bQ s) (dD:bQ.length≤100000) (hg:0≤p.gen):
 ai F 148 [.ptr a 0,.agg [.j (h).ino,.j (h).idx,.str (h).load],.agg [.j p.addr,.j p.gen]] O [(some a,.cells (l4 lv wv d nx id v6 v7 v8 v9 eL) false),aq.ob s bQ] (fun r _ R=>∃x w s',recAt d h p=some x∧r=.agg (br.f x)∧R=[(some a,.cells (l4 lv wv d nx id v6 v7 v8 v9 w) false),aq.ob s' (bQ++[p])]∧ae aq w (bQ++[p]) s') (Dk (recAt d h p=none)):=by
 refine au ?_;refine S.box fun a4=>?_;refine S.box fun a5=>?_;refine S.alloc fun cb=>?_;refine S.af 1 ?_ (l:=[.j p.addr,.j p.gen]);refine S.front 4 ?_;refine S.front 4 ?_;refine S.lJ 2 (G4 hr (b6:=p.addr) (pe:=p.gen) hd cL ho dD) (fun g4 kX p7 mj cd=>?_) ?Kt
 case Kt=>
  intro v ψ O' l h;obtain⟨I,J⟩:=h;exact⟨by unfold recAt;rw[I];(try rfl),J⟩
 obtain⟨EX,PC,Ay,Ku,rfl,rfl,Q3⟩:=cd;have apu:=oe Ku;rw[show(⟨p.addr,EX.gen⟩:ag)=p by rw[GV Ku hg]]at Q3⊢;refine S.ak (alm (x:=EX) (by omega)) ?_;have Q4:∀ad:Option bH,ad=fP EX→recAt d h p=(match ad with|none=>none|some r=>if r.ino≠h.ino∨r.idx≠h.idx then none else some r):=fun ad hR=>by subst hR;unfold recAt;rw[Ku,aqP];(try rfl)
 obtain⟨ad,hR⟩:∃ad,ad=fP EX:=⟨_,rfl⟩
 have BW:=Q4 ad hR;clear Q4;obtain⟨r,mf⟩:∃r,r=ad.getD ⟨0,0,[]⟩:=⟨_,rfl⟩
 rw[←hR,←mf];refine S.alloc fun c1=>?_;refine S.store 0 ?_;refine G.aE ?_;refine G.ld 0 ?_;refine G.aE ?_;refine G.ld 5 ?_;refine G.bin ?_;refine G.and ?_;refine G.aE ?_;refine G.ld 0 ?_;refine G.aE ?_;refine G.ld 5 ?_;refine G.bin ?_;refine G.and ?_;refine S.lJ 0 (xJ) (fun vT rV AP mn fp=>?_) ?abC
 case abC=>
  intro v ψ O' l h;obtain⟨I,J⟩:=h;refine⟨?_,J⟩;rw[BW];cases ad with
  |none=>rfl
  |some y=>
   simp only;obtain rfl:r=y:=mf;rw[B4];simp at I;omega
 obtain⟨fp,Q5,rfl⟩:=fp;have fp:=fp.symm;subst fp;have abD:recAt d h p=some r:=by
  rw[BW];cases ad with
  |none=>simp at Q5
  |some y=>
   simp only;obtain rfl:r=y:=mf;rw[pg];simp at Q5;omega
 refine S.af 0 ?_ (l:=[.j (r).ino,.j (r).idx,.str (r).load]);refine S.store 3 ?_;exact⟨_,.cN 3 rfl rfl rfl rfl .nil,.drop 0 (.drop 2 (.drop 2 (.drop 2 (.done ⟨r,PC,Ay,abD,rfl,rfl,Q3⟩))))⟩
theorem alU [Fx F] (hr:F 223=some (.c7 ji)) {lv wv v6 v7 v8 v9 eL:V} {d:ay} {nx id:Int} {a:Pa} {s:Option Pa} {bQ:List ag} {n7 n8 n9:List SV} {ts:List jW} {s6 s7 s8 s9:Option Pa} {p:ag} (hd:cP O [lv,wv,.j d.arm,.bool d.down] d) (cL:d.wait.length≤1000000) (ho:ae aq eL bQ s) (dD:bQ.length≤10000) (hg:0≤p.gen) (di:ts.length≤1000)
 (o6:ae dW v6 (ts.map (·.root)) s6) (o7:ae bT v7 n7 s7) (vB:NR br O n7 (ts.map (fun t=>t.ao.map (·.1)))) (o8:ae bT v8 n8 s8) (yE:NR aq O n8 (ts.map (fun t=>t.ao.map (·.2)))) (rL:ae bT v9 n9 s9) (BX:NR aH O n9 (ts.map (·.tree))):
 ai F 91 [.ptr a 0,.agg [.j p.addr,.j p.gen]] O [(some a,.cells (l4 lv wv d nx id v6 v7 v8 v9 eL) false),aq.ob s bQ,dW.ob s6 (ts.map (·.root)),bT.ob s7 n7,bT.ob s8 n8,bT.ob s9 n9] (fun _ ψ R=>∃x u6 u7 u8 u9 iv q6 q7 q8 q9 jK m7 m8 m9,nf d p=some x∧R=[(some a,.cells (l4 lv wv d nx id u6 u7 u8 u9 iv) false),aq.ob jK (bQ++p::x.2),dW.ob q6 ((ts++[x.1]).map (·.root)),bT.ob q7 m7,bT.ob q8 m8,bT.ob q9 m9]∧ae aq iv (bQ++p::x.2) jK∧ae dW u6 ((ts++[x.1]).map (·.root)) q6∧ae bT u7 m7 q7∧NR br ψ m7 ((ts++[x.1]).map (fun t=>t.ao.map (·.1)))∧ae bT u8 m8 q8∧NR aq ψ m8 ((ts++[x.1]).map (fun t=>t.ao.map (·.2)))∧ae bT u9 m9 q9∧NR aH ψ m9 ((ts++[x.1]).map (·.tree))) (Dk (nf d p=none)):=by
 have hn7:n7.length≤1000:=by rw[vB.1];simpa using di
 have hn8:n8.length≤1000:=by rw[yE.1];simpa using di
 have hn9:n9.length≤1000:=by rw[BX.1];simpa using di
 refine au ?_;refine S.box fun a3=>?_;refine S.af 0 ?_ (l:=[.j p.addr,.j p.gen]);refine S.front 2 ?_;refine S.front 2 ?_;refine S.lJ 2 (G4 hr (b6:=p.addr) (pe:=p.gen) hd cL ho (by first|omega|(simp;omega))) (fun Aw EQ ER BM eO=>?_) ?Kv
 case Kv=>
  intro v ψ O' l h;obtain⟨I,J⟩:=h;exact⟨by unfold nf;rw[I];(try rfl),J⟩
 obtain⟨BY,QV,Ox,Kw,rfl,rfl,Q6⟩:=eO;have apv:=oe Kw;rw[show(⟨p.addr,BY.gen⟩:ag)=p by rw[GV Kw hg]]at Q6⊢;refine S.call (als (x:=BY) (by omega)) fun v22 wj O22 A7 qj=>?_;obtain⟨rfl,pv,rfl,mH⟩:=qj;have li:nf d p=(match eT BY with|none=>none|some (r,q)=>match gp d q []with|none=>none|some ao=>match hU d ao []with|none=>none|some dp=>match fh dp with|none=>none|some t=>some (⟨r,ao,t⟩,q++ao.map (·.2))):=by unfold nf;rw[Kw,aqP];(try rfl)
 have wT:∀y,eT BY=some y→y.2.length≤6∧∀z∈y.2,0≤z.gen:=fun y hy=>⟨ME hy,VU hy⟩;generalize eT BY=RO at mH li wT⊢;obtain⟨rt,Q7⟩:∃rt,rt=(RO.map (·.1)).getD ⟨0,0,0,0,0⟩:=⟨_,rfl⟩
 rw[←Q7];have lp:=BM.trans A7;refine S.alloc fun a4=>?_;refine S.store (v:=.agg [.j rt.kind,.j rt.id,.j rt.dx,.j rt.base,.j rt.done]) 0 ?_;refine S.lJ 0 (xJ) (fun um sq wD o9 c3=>?_) ?abE
 case abE=>
  intro v ψ O' l h;obtain⟨I,J⟩:=h;refine⟨?_,J⟩;rw[li];cases RO with
  |none=>rfl
  |some y=>cases I
 obtain⟨c3,abF,rfl⟩:=c3;have c3:=c3.symm;subst c3;obtain⟨q,rfl⟩:∃q,RO=some (rt,q):=by
  cases RO with
  |none=>cases abF
  |some y=>obtain⟨y1,y2⟩:=y;exact⟨y2,by rw[show rt=y1 from Q7]⟩
 change aa aq wj pv q at mH;obtain⟨wT,EY⟩:=wT _ rfl;change q.length≤6 at wT;change∀z∈q,0≤z.gen at EY;change nf d p=(match gp d q []with|none=>none|some ao=>match hU d ao []with|none=>none|some dp=>match fh dp with|none=>none|some t=>some (⟨rt,ao,t⟩,q++ao.map (·.2)))at li;refine S.len ?_ (hl:=aa.len mH);refine SW.new br ?_;refine SW.new aq ?_;refine SW.bG (fun m E ψ R=>∃(j:Nat) (ao:List b2) (w7 yS qk:V) (BZ z9 pf:Option Pa),j+m=q.length∧gp d (q.drop j) ao=gp d q []∧ao.length≤6*j∧wj.Le ψ∧R=[(some a,.cells (l4 lv wv d nx id v6 v7 v8 v9 qk) false),aq.ob pf (bQ++p::q.take j),br.ob BZ (ao.map (·.1)),aq.ob z9 (ao.map (·.2)),(some a4,.cells [.j rt.kind,.j rt.id,.j rt.dx,.j rt.base,.j rt.done] false),(some a3,.cells [.j p.addr,.j p.gen] false),dW.ob s6 (ts.map (·.root)),bT.ob s7 n7,bT.ob s8 n8,bT.ob s9 n9]∧ae aq qk (bQ++p::q.take j) pf∧ae br w7 (ao.map (·.1)) BZ∧ae aq yS (ao.map (·.2)) z9∧Sub [(0,.ptr a 0),(3,.ptr a3 0),(4,.ptr a4 0),(7,w7),(9,yS),(8,.no .sl),(28,pv),(29,.j (q.length:Int)),(30,.j (j:Int))] E) (m:=q.length) (.front 1 rfl (.front 4 rfl (.front 4 rfl (.done ⟨0,[],.no .sl,.no .sl,QV,none,none,Ox,by omega,rfl,by simp,.refl _,rfl,Q6,ae.nil,ae.nil,.r rfl⟩)))) ?_;intro m0 E ψ R ac hI;obtain⟨j,ao,w7,yS,qk,BZ,z9,pf,e5,ab,IH,lq,rfl,ow,DY,Q8,hE⟩:=hI;refine C.sub hE ?_;refine S.bin ?_;refine C.D (fun rU=>?_) fun rU=>?_
 ·have hj:j<q.length:=by omega
  have B1:=EY _ (W1 hj);obtain⟨y,hy⟩:∃y,y=q[j]:=⟨_,rfl⟩
  rw[←hy]at B1;rw[Rm hj,←hy]at ab;simp only[gp]at ab;have mH:=mH.mono lq;have hd:=hd.mono (lp.trans lq);refine S.aF mH hj fun vQ jD=>?_;rw[←hy]at jD;refine S.bP ?_ (l:=[.j y.addr,.j y.gen]);refine S.alloc fun gR=>?_;refine S.store 0 ?_;refine S.af 0 ?_ (l:=[.j y.addr,.j y.gen]);refine S.front 2 ?_;refine S.front 2 ?_;refine S.lJ 2 (G4 hr (b6:=y.addr) (pe:=y.gen) hd cL ow (by first|omega|(simp;omega))) (fun v37 Qg Qh JJ pd=>?_) ?abG
  case abG=>
   intro v ψ O' l h;obtain⟨I,J⟩:=h;exact⟨by rw[li,←ab,I];(try rfl),J⟩
  obtain⟨EZ,w37,s37,Kx,rfl,rfl,Q9⟩:=pd;have apw:=oe Kx;rw[show(⟨y.addr,EZ.gen⟩:ag)=y by rw[GV Kx B1]]at Q9⊢;refine S.call (alr (x:=EZ) (by omega)) fun ya yM EH BF fZ=>?_;obtain⟨rfl,g4,oO,rfl,cd,c0⟩:=fZ;rw[Kx,aqP]at ab;have EW:∀l,er EZ=some l→l.length≤6:=fun l hl=>(VW hl).1;generalize er EZ=RI at cd c0 ab EW⊢;refine S.lJ 0 (xJ) (fun Qk Ql Qm Qn mE=>?_) ?abH
  case abH=>
   intro v ψ O' l h;obtain⟨I,J⟩:=h;refine⟨?_,J⟩;rw[li,←ab];cases RI with
   |none=>rfl
   |some y=>cases I
  obtain⟨mE,abI,rfl⟩:=mE;have mE:=mE.symm;subst mE;obtain⟨l,rfl⟩:∃l,RI=some l:=by
   cases RI with
   |none=>cases abI
   |some l=>exact⟨l,rfl⟩
  have EW:=EW l rfl;change aa br yM g4 (l.map (·.1))at cd;change aa aq yM oO (l.map (·.2))at c0;simp only at ab;refine S.bu (m:=l.map (·.1)) 3 DY (.f cd) (by simp;omega) fun v46 DP tU=>?_;refine S.bu (m:=l.map (·.2)) 4 Q8 (.f c0) (by simp;omega) fun Qp s49 Kl=>?_;refine S.bin ?_;refine⟨m0-1,by omega,.drop 2 (.done ⟨j+1,ao++l,v46,Qp,w37,DP,s49,s37,by omega,ab,by simp;omega,(lq.trans JJ).trans BF,?_,?_,by rw[amw];exact tU,by rw[amw];exact Kl,.r rfl⟩)⟩
  ·rw[aqd hj,←hy,amw,amw,←aqI (a:=p),←KK bQ];(try rfl)
  ·rw[aqd hj,←hy,←aqI (a:=p),←KK bQ];exact Q9
 ·obtain rfl:j=q.length:=by omega
  rw[WV]at ab;simp only[gp]at ab;rw[←ab]at li;simp only at li;rw[ap2]at ow⊢;obtain⟨_,Ky⟩:=Np ab.symm;have Ky:=Ky (fun i hi=>(by cases hi));have IH:ao.length≤36:=by omega
  have lq:=lp.trans lq;refine S.ct 2 DY fun o4 la iL=>?_;refine S.ct 2 Q8 fun Bm my mI=>?_;have iL:=iL.mono my;have lq:=(lq.trans la).trans my;refine S.len ?_ (hl:=aa.len mI);rw[apZ];refine SW.new br ?_;refine SW.bG (fun m E ψ R=>∃(i:Nat) (rs:List bH) (ET qk:V) (B2 pf:Option Pa),i+m=ao.length∧hU d (ao.drop i) rs=hU d ao []∧rs.length≤i∧(∀r∈rs,r.load.length≤60∧0≤r.idx)∧Bm.Le ψ∧R=[(some a,.cells (l4 lv wv d nx id v6 v7 v8 v9 qk) false),aq.ob pf (bQ++p::(q++(ao.map (·.2)).take i)),br.ob B2 rs,(some a4,.cells [.j rt.kind,.j rt.id,.j rt.dx,.j rt.base,.j rt.done] false),(some a3,.cells [.j p.addr,.j p.gen] false),dW.ob s6 (ts.map (·.root)),bT.ob s7 n7,bT.ob s8 n8,bT.ob s9 n9]∧ae aq qk (bQ++p::(q++(ao.map (·.2)).take i)) pf∧ae br ET rs B2∧Sub [(0,.ptr a 0),(3,.ptr a3 0),(4,.ptr a4 0),(7,w7),(9,yS),(8,ET),(51,yS),(52,.j (ao.length:Int)),(53,.j (i:Int))] E) (m:=ao.length) (.front 2 rfl (.front 2 rfl (.done ⟨0,[],.no .sl,qk,none,pf,by omega,rfl,by simp,fun r hr=>(by cases hr),.refl _,by rw[aq5,ap9];(try rfl),by rw[aq5,ap9];exact ow,ae.nil,.r rfl⟩))) ?_;intro m2 E ψ R ac hI;obtain⟨i,rs,ET,qk,B2,pf,Bk,cz,DG,Dy,l2,rfl,ow,Ra,hE⟩:=hI;refine C.sub hE ?_;refine S.bin ?_;refine C.D (fun k9=>?_) fun k9=>?_
  ·have hi:i<ao.length:=by omega
   obtain⟨it,dj⟩:∃it,it=ao[i]:=⟨_,rfl⟩
   have Rb:=Ky _ (W1 hi);rw[←dj]at Rb;rw[Rm hi,←dj]at cz;simp only[hU]at cz;have iL:=iL.mono l2;have mI:=mI.mono l2;have hd:=hd.mono (lq.trans l2);have rR:(ao.map (·.1))[i]'(by simpa using hi)=it.1:=by rw[aqX,dj]
   have i2:(ao.map (·.2))[i]'(by simpa using hi)=it.2:=by rw[aqX,dj]
   refine S.aF mI (j:=i) (by simpa using hi) fun Oz HX=>?_;rw[i2]at HX;refine S.bP ?_ (l:=[.j it.2.addr,.j it.2.gen]);refine S.alloc fun Em=>?_;refine S.store 0 ?_;refine S.aF iL (j:=i) (by simpa using hi) fun p62 e62=>?_;rw[rR]at e62;refine S.bP ?_ (l:=[.j (it.1).ino,.j (it.1).idx,.str (it.1).load]);refine S.af 0 ?_ (l:=[.j it.2.addr,.j it.2.gen]);refine S.front 2 ?_;refine S.front 2 ?_;refine S.lJ 2 (alT hr (h:=it.1) (p:=it.2) hd cL ow (by simp;omega) Rb) (fun v65 aa3 O65 Qo JS=>?_) ?abJ
   case abJ=>
    intro v ψ O' l h;obtain⟨I,J⟩:=h;exact⟨by rw[li,←cz,I],J⟩
   obtain⟨r,w65,s65,BW,rfl,rfl,abK⟩:=JS;obtain⟨abL,hri⟩:=akO BW;rw[BW]at cz;simp only at cz;refine S.a8 fun a66=>?_;refine S.bu (m:=[r]) 4 Ra (.lit 0) (by simp;omega) fun v67 s67 Ix=>?_;refine S.drop 0 ?_;refine S.mv ?_;refine S.bin ?_;have Rc:bQ++p::(q++(ao.map (·.2)).take (i+1))=bQ++p::(q++(ao.map (·.2)).take i)++[it.2]:=by rw[aqd (by simpa using hi),i2];simp
   refine⟨m2-1,by omega,.drop 2 (.done ⟨i+1,rs++[r],v67,w65,s67,s65,by omega,cz,by simp;omega,fun y hy=>?_,l2.trans Qo,by rw[Rc];(try rfl),by rw[Rc];exact abK,Ix,.r rfl⟩)⟩;rcases aqh.1 hy with hy|hy
   ·exact Dy y hy
   ·obtain rfl:=aqj.1 hy;exact⟨abL,hri⟩
  ·obtain rfl:i=ao.length:=by omega
   rw[WV]at cz;simp only[hU]at cz;rw[←cz]at li;simp only at li;rw[aqz (by simp)]at ow⊢;have lq:=lq.trans l2;have iL:=iL.mono l2;have mI:=mI.mono l2;refine S.ct 2 Ra fun PJ lc abM=>?_;refine S.call (alS abM (by omega) Dy) fun Zb OZ Zc D4 vX=>?_;obtain⟨rfl,tv,rfl,qq⟩:=vX;have lq:=(lq.trans lc).trans D4;have iL:=(iL.mono lc).mono D4;have mI:=(mI.mono lc).mono D4;generalize fh rs=RT at li qq⊢;refine S.lJ 0 (xJ) (fun v75 apx O75 l75 B3=>?_) ?abN
   case abN=>
    intro v ψ O' l h;obtain⟨I,J⟩:=h;refine⟨?_,J⟩;rw[li];cases RT with
    |none=>rfl
    |some y=>cases I
   obtain⟨B3,abO,rfl⟩:=B3;have B3:=B3.symm;subst B3;obtain⟨t,rfl⟩:∃t,RT=some t:=by
    cases RT with
    |none=>cases abO
    |some t=>exact⟨t,rfl⟩
   change aa aH OZ tv t at qq;simp only at li;have sf7:=iL.av;have sf9:=mI.av;have sft:=qq.av;refine S.ld 0 ?_;refine S.af 2 ?_ (l:=[.j rt.kind,.j rt.id,.j rt.dx,.j rt.base,.j rt.done]);refine S.a8 fun a84=>?_;refine S.ld 1 ?_;refine S.a8 (fun a92=>?_) (hs:=by simp[aY,iL.av]) (d3:=by simp[aY,iL.av]);refine S.bu (e:=dW) (m:=[rt]) 6 o6 (.lit 1) (by simp;omega) fun v85 s85 Re=>?_;have apy:=Re.av;refine S.gi 0 ?_ (hm:=iL.cm);refine S.bF 2 ?_ (hs:=o7.same);refine S.bu (e:=bT) (m:=[⟨w7,iL.av⟩]) 7 o7 (.lit 0) (by simp;omega) fun v93 s93 Rg=>?_;have apz:=Rg.av;refine S.hK 2 ?_;refine S.hK 2 ?_;refine S.drop 0 ?_;refine S.drop 0 ?_;refine S.ld 0 ?_;refine S.a8 (fun apA=>?_) (hs:=by simp[aY,mI.av]) (d3:=by simp[aY,mI.av]);refine S.ld 1 ?_;refine S.a8 (fun a116=>?_) (hs:=by simp[aY,qq.av]) (d3:=by simp[aY,qq.av]);refine S.bu (e:=bT) (m:=[⟨yS,mI.av⟩]) 8 o8 (.lit 1) (by simp;omega) fun v109 abP Rh=>?_;have apB:=Rh.av;refine S.gi 0 ?_ (hm:=qq.cm);refine S.bF 2 ?_ (hs:=rL.same);refine S.bu (e:=bT) (m:=[⟨tv,qq.av⟩]) 9 rL (.lit 0) (by simp;omega) fun v117 abQ Ri=>?_;have apC:=Ri.av;refine S.hK 2 ?_;refine S.hK 2 ?_;exact⟨_,.nil,.drop 0 (.drop 0 (.drop 2 (.drop 2 (.done ⟨_,v85,v93,v109,v117,qk,s85,s93,abP,abQ,pf,_,_,_,li,by rw[amw];(try rfl),ow,by rw[amw];exact Re,Rg,by rw[amw];exact(vB.mono lq).snoc iL,Rh,by rw[amw];exact(yE.mono lq).snoc mI,Ri,by rw[amw];exact(BX.mono lq).snoc qq⟩))))⟩
end Go.Ev
set_option maxHeartbeats 2000000
namespace Go.Ev
variable{F:Nat→Option aN} {O:Fz}
theorem Fin.LY {O:Fz} {O1 O2:List Ob} {P:Fz→List Ob→Prop} (hn:Fin O O2 P):Fin O (O1++O2) P:=fun ad h sh=>hn ad h (by
 refine sh.pick (fun j=>j+O1.length) (fun j x hj=>?_) (fun _ _ _ _ e=>by omega);rw[KK,apG (by omega),arn];exact hj)
theorem S.assert {F:Nat→Option aN} {K:KX} {E:Env} {O:Fz} {R:List Ob} {Q:bB} {rs:List Op} {d:Nat} {x:Od} {t:Nat} {z v:V} (hn:SA F K rs ((d,.aM [v,.bool true])::E) O R Q) (hx:ax E x (.iface t v):=by exact .t rfl):SR F K (.op ⟨some (pa d),KT t z x true,none⟩::Op.aI rs) E O R Q:=fun W h sh=>
 ad.pu .none (fun e he=>by simp only[hx e he,eQ,E7];rfl) (S.r hn W h sh)
def tl:xH:=⟨0,0,[],[]⟩
def Wl (a:Pa) (lv wv:V) (d:ay) (y:xH) (u6 u7 u8 u9 iv:V) (q6 q7 q8 q9 jK:Option Pa) (m7 m8 m9:List SV):List Ob:=
 [(some a,.cells (l4 lv wv d y.next y.id u6 u7 u8 u9 iv) false),aq.ob jK y.all,dW.ob q6 (y.trees.map (·.root)),bT.ob q7 m7,bT.ob q8 m8,bT.ob q9 m9]
structure Dl (ψ:Fz) (y:xH) (u6 u7 u8 u9 iv:V) (q6 q7 q8 q9 jK:Option Pa) (m7 m8 m9:List SV):Prop where
 all:ae aq iv y.all jK
 roots:ae dW u6 (y.trees.map (·.root)) q6
 apS:ae bT u7 m7 q7
 apT:NR br ψ m7 (y.trees.map (fun t=>t.ao.map (·.1)))
 apU:ae bT u8 m8 q8
 GM:NR aq ψ m8 (y.trees.map (fun t=>t.ao.map (·.2)))
 trees:ae bT u9 m9 q9
 nt:NR aH ψ m9 (y.trees.map (·.tree))
theorem Dl.no (O:Fz):Dl O tl (.no .sl) (.no .sl) (.no .sl) (.no .sl) (.no .sl) none none none none none [] [] []:=⟨ae.nil,ae.nil,ae.nil,NR.nil _,ae.nil,NR.nil _,ae.nil,NR.nil _⟩
theorem Wm {d:ay}:∀{q:List ag} {ts:List jW} {bQ:List ag} {x:List jW×List ag},bQ≠[]→kQ d q ts bQ=some x→x.2≠[]
 |[],ts,bQ,x,h,e=>by cases e;exact h
 |p::q,ts,bQ,x,h,e=>by
  simp only[kQ]at e;split at e
  ·cases e
  ·exact Wm (by simp[h]) e
theorem alV {d:ay} {sum:Int} {y:xH} (h:fS d sum=some y):y.all≠[]:=by
 unfold fS at h;split at h
 ·cases h
 ·split at h
  ·cases h
  ·obtain⟨z,I,J⟩:=aqp.1 h;subst J;exact Wm (by simp) I
theorem Wn {d:ay} {p:ag} {x:jW×List ag} (h:nf d p=some x):x.2.length≤336:=by
 rw[VT]at h;exact Ur (x:=x.1) (l:=x.2) h
theorem alW [Fx F] (hr:F 223=some (.c7 ji)) {lv wv:V} {d:ay} {a:Pa} {sum:Int} (hd:cP O [lv,wv,.j d.arm,.bool d.down] d) (cL:d.wait.length≤1000000):
 ai F 52 [.ptr a 0,.j sum] O [(some a,.cells (l4 lv wv d 0 0 (.no .sl) (.no .sl) (.no .sl) (.no .sl) (.no .sl)) false)] (fun _ ψ R=>∃y u6 u7 u8 u9 iv q6 q7 q8 q9 jK m7 m8 m9,fS d sum=some y∧R=Wl a lv wv d y u6 u7 u8 u9 iv q6 q7 q8 q9 jK m7 m8 m9∧Dl ψ y u6 u7 u8 u9 iv q6 q7 q8 q9 jK m7 m8 m9) (Dk (fS d sum=none)):=by
 refine au ?_;refine S.build ?_;refine S.new aq ?_;refine S.front 1 ?_;refine S.lJ 2 (G4 hr (b6:=sum) (pe:=-1) hd cL ae.nil (by simp)) (fun nw tQ tR qc b4=>?_) ?abR
 case abR=>
  intro v ψ O' l h;obtain⟨I,J⟩:=h;exact⟨by unfold fS;rw[I],J⟩
 obtain⟨wU,IR,H0,Rj,rfl,rfl,abS⟩:=b4;have apD:=oe Rj;refine S.call (alu (x:=wU) (by omega)) fun rM qd x7 oR dR=>?_;obtain⟨rfl,pv,rfl,mH⟩:=dR;have yT:fS d sum=(match dX wU with|none=>none|some (next,id,p)=>(kQ d p [] [⟨sum,wU.gen⟩]).map (fun y=>(⟨next,id,y.1,y.2⟩:xH))):=by unfold fS;rw[Rj];(try rfl)
 have Kz:∀n i q,dX wU=some (n,i,q)→q.length≤7∧∀z∈q,0≤z.gen:=fun n i q hy=>⟨CV hy,VV hy⟩;generalize dX wU=TS at mH yT Kz⊢;have lp:=qc.trans oR;refine S.lJ 0 (xJ) (fun Aw EQ ER BM eO=>?_) ?Kv
 case Kv=>
  intro v ψ O' l h;obtain⟨I,J⟩:=h;refine⟨?_,J⟩;rw[yT];cases TS with
  |none=>rfl
  |some y=>cases I
 obtain⟨eO,abT,rfl⟩:=eO;have eO:=eO.symm;subst eO;obtain⟨nx,ix,q,rfl⟩:∃nx ix q,TS=some (nx,ix,q):=by
  cases TS with
  |none=>cases abT
  |some y=>obtain⟨y1,y2,Ak⟩:=y;exact⟨y1,y2,Ak,rfl⟩
 change aa aq qd pv q at mH;obtain⟨Kz,EY⟩:=Kz _ _ _ rfl;change fS d sum=(kQ d q [] [⟨sum,wU.gen⟩]).map (fun y=>(⟨nx,ix,y.1,y.2⟩:xH))at yT;refine S.store (v:=.j nx) 0 ?_;refine S.store (v:=.j ix) 0 ?_;refine S.len ?_ (hl:=aa.len mH);refine SW.new bT ?_;refine SW.new bT ?_;refine SW.new bT ?_;refine SW.new dW ?_;refine SW.bG (fun m E ψ R=>∃(j:Nat) (ts:List jW) (bQ:List ag) (v6 v7 v8 v9 eL:V) (s6 s7 s8 s9 qb:Option Pa) (n7 n8 n9:List SV),j+m=q.length∧kQ d (q.drop j) ts bQ=kQ d q [] [⟨sum,wU.gen⟩]∧ts.length≤j∧bQ.length≤1+337*j∧qd.Le ψ∧R=[(some a,.cells (l4 lv wv d nx ix v6 v7 v8 v9 eL) false),aq.ob qb bQ,dW.ob s6 (ts.map (·.root)),bT.ob s7 n7,bT.ob s8 n8,bT.ob s9 n9]∧ae aq eL bQ qb∧ae dW v6 (ts.map (·.root)) s6∧ae bT v7 n7 s7∧NR br ψ n7 (ts.map (fun t=>t.ao.map (·.1)))∧ae bT v8 n8 s8∧NR aq ψ n8 (ts.map (fun t=>t.ao.map (·.2)))∧ae bT v9 n9 s9∧NR aH ψ n9 (ts.map (·.tree))∧Sub [(0,.ptr a 0),(32,pv),(33,.j (q.length:Int)),(34,.j (j:Int))] E) (m:=q.length) (.front 5 rfl (.front 5 rfl (.done ⟨0,[],_,.no .sl,.no .sl,.no .sl,.no .sl,IR,none,none,none,none,H0,[],[],[],by omega,rfl,by simp,by simp,.refl _,rfl,abS,ae.nil,ae.nil,NR.nil _,ae.nil,NR.nil _,ae.nil,NR.nil _,.r rfl⟩))) ?_;intro m0 E ψ R ac hI;obtain⟨j,ts,bQ,v6,v7,v8,v9,eL,s6,s7,s8,s9,qb,n7,n8,n9,e5,ab,di,dD,lq,rfl,ow,o6,o7,vB,o8,yE,rL,BX,hE⟩:=hI;refine C.sub hE ?_;refine S.bin ?_;refine C.D (fun wO=>?_) fun wO=>?_
 ·have hj:j<q.length:=by omega
  have B1:=EY _ (W1 hj);obtain⟨y,hy⟩:∃y,y=q[j]:=⟨_,rfl⟩
  rw[←hy]at B1;rw[Rm hj,←hy]at ab;simp only[kQ]at ab;have mH:=mH.mono lq;have hd:=hd.mono (lp.trans lq);refine S.aF mH hj fun Ow DH=>?_;rw[←hy]at DH;refine S.bP ?_ (l:=[.j y.addr,.j y.gen]);refine S.alloc fun a9=>?_;refine S.store 0 ?_;refine S.af 0 ?_ (l:=[.j y.addr,.j y.gen]);refine S.front 6 ?_;refine S.front 6 ?_;refine S.front 6 ?_;refine S.front 6 ?_;refine S.front 6 ?_;refine S.front 6 ?_;refine S.lJ 6 (alU hr hd cL ow (by omega) B1 (by omega) o6 o7 vB o8 yE rL BX) (fun wt QF QG Ka mF=>?_) ?abU
  case abU=>
   intro v ψ O' l h;obtain⟨I,J⟩:=h;exact⟨by rw[yT,←ab,I];(try rfl),J⟩
  obtain⟨x,u6,u7,u8,u9,iv,abV,BZ,B2,z9,pf,m7,m8,m9,hx,rfl,owz,k6,zP,ml,Kn,g7,abW,eN⟩:=mF;have kT:=Wn hx;rw[hx]at ab;simp only at ab;refine S.bin ?_;exact⟨m0-1,by omega,.drop 6 (.done ⟨j+1,ts++[x.1],_,u6,u7,u8,u9,iv,abV,BZ,B2,z9,pf,m7,m8,m9,by omega,ab,by simp;omega,by simp;omega,lq.trans Ka,rfl,owz,k6,zP,ml,Kn,g7,abW,eN,.r rfl⟩)⟩
 ·obtain rfl:j=q.length:=by omega
  rw[WV]at ab;simp only[kQ]at ab;rw[←ab]at yT;exact⟨_,.nil,.done ⟨⟨nx,ix,ts,bQ⟩,v6,v7,v8,v9,eL,s6,s7,s8,s9,qb,n7,n8,n9,yT,rfl,⟨ow,o6,o7,vB,o8,yE,rL,BX⟩⟩⟩
theorem alX [Fx F] (hr:F 223=some (.c7 ji)) {cs:List V} {d:ay} {sum:Int} (hd:cP O cs d) (cL:d.wait.length≤1000000):
 ai F 31 [.agg cs,.j sum] O [] (fun r ψ R=>∃a lv wv d' u6 u7 u8 u9 iv q6 q7 q8 q9 jK m7 m8 m9,r=.aM [.ptr a 0,.bool (fS d sum).isSome]∧R=Wl a lv wv d' ((fS d sum).getD tl) u6 u7 u8 u9 iv q6 q7 q8 q9 jK m7 m8 m9∧Dl ψ ((fS d sum).getD tl) u6 u7 u8 u9 iv q6 q7 q8 q9 jK m7 m8 m9∧(((fS d sum).getD tl).all=[]→iv=.no .sl)) never:=by
 obtain⟨lv,wv,rfl,hl,hw,sl,sw⟩:=hd.open;refine aih (gP:=6) (iJ:=5) (xs:=[.t (pa 4),.t (pa 5)]) (Fx.h (f:=31) rfl) rfl (Fx.h (f:=51) rfl) rfl rfl ?_;refine SC.w ?_;refine S.box fun a2=>?_;refine S.alloc fun a4=>?_;refine S.alloc fun a5=>?_;refine⟨[.ptr a4 0,.ptr a5 0],rfl,?_⟩;refine SC.w ?_;refine S.af 2 ?_ (l:=[lv,wv,.j d.arm,.bool d.down]);refine S.build ?_ (l:=l4 lv wv d 0 0 (.no .sl) (.no .sl) (.no .sl) (.no .sl) (.no .sl));refine S.box (fun a9=>?_) (hs:=by simp[V.cells,l4,aY,sl,sw,lH,mR,pD]);refine S.store (v:=.ptr a9 0) 2 ?_;refine S.ld 2 ?_;refine S.lJ 1 (alW hr (a:=a9) (sum:=sum) hd cL) (fun g4 kX p7 mj cd=>?_) ?Kt
 case Kt=>
  intro v ψ O' l h;obtain⟨I,rfl⟩:=h;show SW F _ _ ((5,.iface 126 (.agg []))::(0,.ptr a4 0)::(1,.ptr a5 0)::[]) ψ (O'++[(some a5,.cells [.bool false] false),(some a4,.cells [.ptr a9 0] false),(some a2,.cells [lv,wv,.j d.arm,.bool d.down] false)]) _;refine SW.fin (.LY (.done ?_));refine SC.w ?_;refine S.bin ?_ (v:=.bool false) (hv:=rfl);refine C.B (t:=false) (fun c=>by cases c) fun _=>?_;refine S.assert ?_;refine C.B (t:=true) (fun _=>?_) fun c=>by cases c
  refine S.alloc fun a3=>?_;refine S.store (v:=.agg []) 0 ?_;refine S.build ?_ (l:=l4 (.no .sl) (.no .sl) ⟨[],[],0,false⟩ 0 0 (.no .sl) (.no .sl) (.no .sl) (.no .sl) (.no .sl));refine S.box fun ez=>?_;refine S.store (v:=.ptr ez 0) 3 ?_;refine S.store (v:=.bool false) 2 ?_;refine⟨_,.fK 3 rfl rfl rfl (.fK 2 rfl rfl rfl .nil),.drop 1 (.drop 1 (.drop 1 (.drop 1 (.new bT (.new bT (.new bT (.new dW (.new aq (.front 5 rfl (.done ?_))))))))))⟩;rw[I];exact⟨ez,.no .sl,.no .sl,⟨[],[],0,false⟩,_,_,_,_,_,none,none,none,none,none,[],[],[],rfl,rfl,Dl.no _,fun _=>rfl⟩
 obtain⟨y,u6,u7,u8,u9,iv,q6,q7,q8,q9,jK,m7,m8,m9,hy,rfl,hR⟩:=cd;refine S.ld 7 ?_;refine S.store (v:=.ptr a9 0) 7 ?_;refine S.store (v:=.bool true) 6 ?_;refine SC.w ?_;refine S.bin ?_ (v:=.bool true) (hv:=rfl);refine C.B (t:=true) (fun _=>?_) fun c=>by cases c
 refine⟨_,.fK 7 rfl rfl rfl (.fK 6 rfl rfl rfl .nil),.drop 6 (.drop 6 (.drop 6 (.done ?_)))⟩;rw[hy];exact⟨a9,lv,wv,d,u6,u7,u8,u9,iv,q6,q7,q8,q9,jK,m7,m8,m9,rfl,rfl,hR,fun h=>absurd h (alV hy)⟩
end Go.Ev
namespace Go.Ev
open Go
section
variable{F:Nat→Option aN}
theorem alY {h:Hp} {f:Nat} {fn:hZ} {args:List V} {v0:V} (hf:F f=some (.code fn)) (hw:WC F ⟨⟨f,fn.nt,false,none⟩,fun _=>True⟩ fn.body (ie 0 args) h (CD fn.res (fun v _=>v=v0) (fun _ _=>False))):
 ∃n h',run F n (enter fn f args false) [] h []=.done v0 h':=by
 obtain⟨r,I,J⟩:=hw _ (zj args);have e0:enter fn f args false=⟨⟨f,fn.nt,false,none⟩,h2 args .z .E,[.code fn.body],[],.run⟩:=rfl;have back:∀(e:T V) (E:Env) (h':Hp) (ms:List Pa) (l:List V) (td:List Item),ch e E→mO ms h'→kC E (kill ms h') fn.res l→∀ls,Reach F (.go ⟨⟨f,fn.nt,false,none⟩,e,td,marks ms [],.returning⟩ [] h' ls) (.done (oneOf l) (kill ms h')):=by
  intro e E h' ms l td he ha hl ls;refine(sR (fr:=⟨⟨f,fn.nt,false,none⟩,e,td,[],.returning⟩) ms ha (by intro e;cases e)).trans (.one ?_);show unwind F ⟨⟨f,fn.nt,false,none⟩,e,td,[],.returning⟩ [] (kill ms h') ls=_;simp only[unwind,hf,hl e he,doReturn,KL]
 have go:qT r []→∃x,Ends ⟨⟨f,fn.nt,false,none⟩,fun _=>True⟩ [] [] [] [] r x∧Reach F (.go (enter fn f args false) [] h []) x:=fun ho=>by
  obtain⟨x,hx,hr⟩:=J [] [] [] [] trivial ho;exact⟨x,hx,by rw[e0];exact(qU _ _ _ _ _ _ _ _).trans hr⟩
 have fin:∀v h',Reach F (.go (enter fn f args false) [] h []) (.done v h')→v=v0→∃n h',run F n (enter fn f args false) [] h []=.done v0 h':=fun v h' hr hv=>by
  subst hv;obtain⟨n,hn⟩:=hr.run rfl;exact⟨n,h',hn⟩
 cases I with
 | @n e' h' ms E' ca hq=>
   obtain⟨ha,l,hl,hR⟩:=hq;obtain⟨x,hx,hr⟩:=go (fun _ _ _ _ e1=>by cases e1);cases hx with|n _ _ _ xs _=>
   exact fin _ _ (hr.trans (.trans (.one rfl) (back _ _ _ _ _ _ ca ha hl _))) hR
 |x _ hq=>exact hq.elim
 | @r e' h' ms E' ca hq=>
   obtain⟨ha,l,hl,hR⟩:=hq;obtain⟨x,hx,hr⟩:=go (fun _ _ _ _ e1=>by cases e1);cases hx with
   |r _ _ _ td xs _=>exact fin _ _ (hr.trans (back _ _ _ _ _ _ ca ha hl _)) hR
 |p _ hq=>exact hq.2.elim
theorem SH.start:SH (fun _=>none) jO []:=⟨WF.start,fun _ _ h=>(by cases h),fun i a b h=>(by simp at h),fun i j a b c h=>(by simp at h)⟩
theorem alZ {P:Program} (hN:xe P=true) (hF:sQ P F) (hI:∀f g,F f≠some (.c7 g)) {f:Nat} {fn:hZ} (hf:F f=some (.code fn)) {args:List V} {cE:List Value} {v:V} (ha:bd (fun _=>none) args cE)
 (hw:SW F ⟨⟨f,fn.nt,false,none⟩,fun _=>True⟩ fn.body (ie 0 args) (fun _=>none) [] (sU fn.res (fun u _ _=>u=v) never)) (w:World):
 Calls P f cE.toArray w fun e w'=>∃c U,e=.returned c∧VR U v c∧Kept w w'∧w'.tape=w.tape∧w.drawn≤w'.drawn:=by
 intro bh;have hc:=hF.code f fn hf;have hwc:WC F ⟨⟨f,fn.nt,false,none⟩,fun _=>True⟩ fn.body (ie 0 args) jO (CD fn.res (fun u _=>u=v) (fun _ _=>False)):=by
  refine WC.mono (Q:=(sU fn.res (fun u _ _=>u=v) never).at (fun _=>none) []) ?_ ?_ ?_ ?_ (hw [] jO (by simpa using SH.start))
  ·rintro E' h' ms ⟨ψ,O',I,J,l,h3,h4⟩;obtain⟨ka,ks⟩:=lG ms J;obtain⟨χ,O2,k1,k2,k3⟩:=h4 _ _ ks;exact⟨ka,l,h3 _ _ ks,k3⟩
  ·rintro i E' h' ms ⟨ψ,O',I,J,h3⟩;exact h3.elim
  ·rintro E' h' ms ⟨ψ,O',I,J,l,h3,h4⟩;obtain⟨ka,ks⟩:=lG ms J;obtain⟨χ,O2,k1,k2,k3⟩:=h4 _ _ ks;exact⟨ka,l,h3 _ _ ks,k3⟩
  ·rintro E' u h' ms ⟨ψ,O',I,J,h3⟩;exact h3.elim
 obtain⟨n,h',cJ⟩:=alY hf hwc;have s0:aP ⟨P,w,w.heap.size,true⟩ (fun _=>none) (fun _=>False) jO [] w:=by
  have no:∀(a:Pa) (L:Loc),(fun _=>none:AM) a=some L→False:=fun a L h=>by cases h
  exact{ia:=fun a L h=>(no a L h).elim,aw:=fun a L h=>(no a L h).elim,inj:=fun a _ L _ h=>(no a L h).elim,live:=fun a L _ h=>(no a L h).elim,wr:=fun a L _ h=>(no a L h).elim,
        low:=fun i _=>rfl,size:=B5 _,still:=pq.refl _ w,fresh:=fun a _=>by(show T.E.get a=none);cases a<;>rfl,jj:=fun a x h=>by(simp[gb]at h)}
 have fm:=ze (C:=⟨P,w,w.heap.size,true⟩) (U:=fun _=>none) (h:=jO) (m:=0) (f:=f) hc (args:=args) (cE:=cE) ha false;have arg:Rel ⟨P,w,w.heap.size,true⟩ bh f (enter fn f args false) [] jO [] (lone (Frame.enter P f cE.toArray .normal) bh w):=
  ⟨_,_,w,0,_,_,rfl,s0,amu _,fm.1,by rw[fm.2.1,fm.2.2];exact .nil 0⟩
 have tI:=FI (C:=⟨P,w,w.heap.size,true⟩) (bh:=bh) (f0:=f) F (LW P) ⟨hF,fun f g h=>(hI f g h).elim⟩ (LX hN) n arg;rw[cJ]at tI;obtain⟨dQ,w',c,aA,dh,pm,I,J,h3,h4,h5⟩:=tI;exact⟨.returned c,w',dQ,⟨c,aA,rfl,h5,⟨h4.size,fun i hi=>h4.low i hi,h4.still.1,h4.still.2.1⟩,(h4.still.2.2 rfl).1,(h4.still.2.2 rfl).2⟩,I,J,h3⟩
end
end Go.Ev
namespace Go.Ev
open Go
def isUnit:Nx→Bool
 |.done v _=>match v with
  |.aM l=>match l with
   |[]=>true
   |_::_=>false
  |_=>false
 |_=>false
theorem al0 {P:Program} (hN:xe P=true) {f:Nat} {fn:hZ} (hc:e9 P f=some fn) {args:List V} {cE:List Value} (ha:bd (fun _=>none) args cE) {n:Nat} (cJ:isUnit (run (fun i=>(e9 P i).map .code) n (enter fn f args false) [] jO [])=true) (w:World):
 Calls P f cE.toArray w fun e w'=>e=.returned (.tuple #[])∧Kept w w':=by
 intro bh;have s0:aP ⟨P,w,w.heap.size,false⟩ (fun _=>none) (fun _=>False) jO [] w:=aP.start P w;have fm:=ze (C:=⟨P,w,w.heap.size,false⟩) (U:=fun _=>none) (h:=jO) (m:=0) (f:=f) hc (args:=args) (cE:=cE) ha false;have arg:Rel ⟨P,w,w.heap.size,false⟩ bh f (enter fn f args false) [] jO [] (lone (Frame.enter P f cE.toArray .normal) bh w):=
  ⟨_,_,w,0,_,_,rfl,s0,amu _,fm.1,by rw[fm.2.1,fm.2.2];exact .nil 0⟩
 have tI:=FI (C:=⟨P,w,w.heap.size,false⟩) (bh:=bh) (f0:=f) (fun i=>(e9 P i).map .code) (LW P) ((LN P).c rfl) (LX hN) n arg;generalize run (fun i=>(e9 P i).map .code) n (enter fn f args false) [] jO []=r at cJ tI;cases r with
 |go=>simp[isUnit]at cJ
 |bad=>simp[isUnit]at cJ
 |done v h'=>
  simp only[isUnit]at cJ;cases v<;>simp only at cJ<;>(try(cases cJ;done))
  rename_i l;cases l with
  |cons=>cases cJ
  |nil=>
   obtain⟨dQ,w',c,aA,dh,pm,I,J,h3,h4,h5⟩:=tI;cases h5 with
   |aM _ _ h6=>
    cases h6;exact⟨.returned (.tuple #[]),w',dQ,⟨rfl,h4.size,fun i hi=>h4.low i hi,h4.still.1,h4.still.2.1⟩,I,J,h3⟩
end Go.Ev
namespace Go.Ev
open Go
noncomputable def Wo (h:Hp):Fz:=fun a=>h.get a
theorem SH.all {h:Hp} (wf:WF h):SH (Wo h) h []:=⟨wf,fun _ _ h=>h,fun i a b h=>(by simp at h),fun i j a b c h=>(by simp at h)⟩
theorem al1 {h:Hp} {a:Pa} {l:List V} (hc:h.cells a=some l):∃b,h.get a=some b∧b.rd=some l:=by
 unfold bm.cells at hc;cases hg:h.get a with
 |none=>rw[hg]at hc;cases hc
 |some b=>
  rw[hg]at hc;refine⟨b,rfl,?_⟩;cases b with
  |cells m d=>cases d<;>simp_all [al.rd]
  |ro m=>simp_all [al.rd]
  |map es c=>simp at hc
  |loop r=>simp at hc
  |dH l=>simp at hc
theorem FS.al2 {h:Hp} {v:V} {k n:Nat} {cs:List V} (hs:Sl h v k n cs) (hc:Tl v k):FS (Wo h) v k n cs:=by
 refine⟨hs.1,?_⟩;rcases hs.2 with I|⟨a,o,c,rfl,l,J,h3⟩
 ·exact .inl I
 ·obtain⟨b,h4,h5⟩:=al1 J;refine .inr ⟨a,o,c,b,l,rfl,h4,h5,h3,?_⟩;cases c<;>exact hc
theorem al3 {P:Program} {F:Nat→Option aN} (hN:xe P=true) (hF:sQ P F) {f:Nat} {fn:hZ} (hf:F f=some (.code fn)) {args:List V} {cE:List Value} {w:World} {U:AM} {Λ:Pa→Prop} {h0:Hp} {O:Fz}
 (s0:aP ⟨P,w,w.heap.size,false⟩ U Λ h0 [] w) (ha:bd U args cE) (sh:SH O h0 [])
 (hw:SW F ⟨⟨f,fn.nt,false,none⟩,fun _=>True⟩ fn.body (ie 0 args) O [] (sU fn.res (fun u _ _=>u=.bool true) never)):
 Calls P f cE.toArray w fun e w'=>e=.returned (.bool true)∧Kept w w':=by
 refine aeW hN hF hf s0 ha (WC.mono (Q:=(sU fn.res (fun u _ _=>u=.bool true) never).at O []) ?_ ?_ ?_ ?_ (hw [] h0 (by simpa using sh)))
 ·rintro E' h' ms ⟨ψ,O',I,J,l,h3,h4⟩;obtain⟨ka,ks⟩:=lG ms J;obtain⟨χ,O2,k1,k2,k3⟩:=h4 _ _ ks;exact⟨ka,l,h3 _ _ ks,k3⟩
 ·rintro i E' h' ms ⟨ψ,O',I,J,h3⟩;exact h3.elim
 ·rintro E' h' ms ⟨ψ,O',I,J,l,h3,h4⟩;obtain⟨ka,ks⟩:=lG ms J;obtain⟨χ,O2,k1,k2,k3⟩:=h4 _ _ ks;exact⟨ka,l,h3 _ _ ks,k3⟩
 ·rintro E' u h' ms ⟨ψ,O',I,J,h3⟩;exact h3.elim
end Go.Ev
