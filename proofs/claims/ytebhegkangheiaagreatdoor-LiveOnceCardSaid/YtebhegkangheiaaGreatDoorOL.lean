/- A part of the proof of glacislaw13.LiveOnce. -/
import Derived.Test.YtebhegkangheiaaGreatDoorOK
set_option maxHeartbeats 1000000
namespace Go.Ev
variable{F:Nat->Option aP} {O:Fz}
theorem L4 {q:cy} {x:Int} {k:Nat} (h0:0<=x) (o:x<256) (hk:k<=3):b0 .shl q (.j x) (.j (8*(k:Int)))=some (.j (x*256^k)):=by
 show nc true .i64 x (8*(k:Int))=_;have hl:gM (8*(k:Int)) 0=false:=by rw[mf];simp;omega
 simp only[nc,hl,bw,aE];have d:(8*(k:Int)).toNat=8*k:=by omega
 have A:min (8*k) (IntKind.bits .i64)=8*k:=by simp[IntKind.bits];omega
 have B:(2:Int)^(8*k)=256^k:=by
  have:(256:Nat)^k=2^(8*k):=by rw[Nat.pow_mul]
  have h:=congrArg (fun(n:Nat)=>(n:Int)) this;simp only[rX]at h;exact h.symm
 rw[d,A,B];have hw:∀z:Int,0<=z->z<4294967296->IntKind.wrap .i64 z=z:=fun z a b=>by
  rw[<-nr];exact qT (by omega) (by omega)
 have hp:(256:Int)^k<=16777216:=by
  have:k=0\/k=1\/k=2\/k=3:=by omega
  rcases this with rfl|rfl|rfl|rfl<;>decide
 have D:(0:Int)<256^k:=Int.pow_pos (by decide);have hm:x*256^k<=255*16777216:=Int.mul_le_mul (by omega) hp (by omega) (by omega);rw[hw _ (Int.mul_nonneg h0 (by omega)) (by omega)]
theorem L5 {q:cy} {a b:Nat} {k:Nat} (ha:a<256^k) (B:b<256) (hk:k<=3):b0 .or q (.j (a:Int)) (.j ((b:Int)*256^k))=some (.j ((a+b*256^k:Nat):Int)):=by
 show(if cr .i64 .i64 then some (V.j (IntKind.wrap .i64 (BitVec.ofInt 64 (a:Int)|||BitVec.ofInt 64 ((b:Int)*256^k)).toNat))else none)=_;rw[ae (show cr .i64 .i64=true from rfl)];have h:((b:Int)*256^k)=((b*256^k:Nat):Int):=by simp
 have d:(256:Nat)^k=2^(8*k):=by rw[Nat.pow_mul]
 have A:(256:Nat)^k<=16777216:=by
  have:k=0\/k=1\/k=2\/k=3:=by omega
  rcases this with rfl|rfl|rfl|rfl<;>decide
 have hm:b*256^k<=255*16777216:=nW (by omega) A;rw[h,BitVec.ofInt_natCast,BitVec.ofInt_natCast];have o:(BitVec.ofNat 64 a|||BitVec.ofNat 64 (b*256^k)).toNat=a+b*256^k:=by
  rw[BitVec.toNat_or,BitVec.toNat_ofNat,BitVec.toNat_ofNat,qd (by omega),qd (by omega),Nat.or_comm,d,Nat.mul_comm,<-Nat.two_pow_add_eq_or_of_lt (by rw[<-d];exact ha)];omega
 rw[o,<-nr,sQ .i64 (show a+b*256^k<=9223372036854775807 by omega)]
theorem aa.nil? {U:Type} {e:bG U} {v:V} {b:List U} (h:aa e O v b):∃q,b0 .eql .slice v (.no .sl)=some (.bool q)/\(q=true->b=[]):=by
 rcases h.2 with⟨rfl,hn⟩|⟨a,I,c,_,_,rfl,_⟩
 ·exact⟨true,rfl,fun _=>e8 hn⟩
 ·exact⟨false,rfl,fun h=>by cases h⟩
theorem BI [Fx F] {d:V} {b:Bs} (h:aa aU O d b) (I:b.length<=1000000):ai F 218 [d] O [] (fun r ψ R=>ψ=O/\∃s,R=[aU.ob s (b)]/\af aU r (b) s) never:=by
 obtain⟨q,j,o⟩:=h.nil?;refine ai.same (ar ?_);refine S.bin ?_ (v:=.bool q) (hv:=j);refine C.B (fun O9=>?_) fun O9=>?_
 ·obtain rfl:=o O9;exact⟨_,.t rfl .nil,.new aU (.done ⟨none,rfl,af.nil⟩)⟩
 ·refine S.a8 fun a5=>?_;have A:af aU (.sl a5 0 0 (.ex 0)) [] (some a5):=af.new rfl;refine S.br 0 A (.f h) (by simp;omega) fun L G D=>?_;exact⟨_,.t rfl .nil,.only 0 ⟨G,rfl,D⟩⟩
theorem rI [Fx F] {I h:V} {b:Bs} {n:Nat} {l:List Int} (M:aa aU O I b) (hl:aa bt O h l) (hn:1<=n) (an:n<=4) (al:b.length+l.length*n<=1000000) (am:l.length<=1000000):ai F 170 [I,.j (n:Int),h] O [] (fun r ψ R=>ψ=O/\∃s,R=[aU.ob s (b++bo n l)]/\af aU r (b++bo n l) s) never:=by
 refine ai.same (ar ?_);refine S.call (BI M (by omega)) fun ae au ah ao d=>?_;obtain⟨d,ab,rfl,Y⟩:=d;have d:=d.symm;subst d;refine S.bin ?_;refine G.mv ?_;refine G.bin ?_;refine G.or ?_;refine C.B (fun O1=>?_) fun O1=>?_
 ·exfalso;simp at O1;omega
 ·refine S.len ?_ (hl:=aa.len hl);refine SW.bF (fun m E ψ R=>∃(j:Nat) (v:V) (s:Option Pa),j+m=l.length/\O=ψ/\R=[aU.ob s (b++bo n (l.take j))]/\af aU v (b++bo n (l.take j)) s/\Sub [(0,v),(1,.j (n:Int)),(19,h),(20,.j (l.length:Int)),(21,.j (j:Int))] E) (m:=l.length) (.done ⟨0,ae,ab,by omega,rfl,by simp[bo],by simpa[bo]using Y,.r rfl⟩) ?_;intro U E ψ R Q A;obtain⟨j,v,s,hj,rfl,rfl,ho,o⟩:=A;refine C.sub o ?_;refine S.bin ?_;refine C.D (fun O2=>?_) fun O2=>?_
  ·have hc:j<l.length:=by omega
   have L:b.length+(j+1)*n<=1000000:=by have:=o6 n (show j+1<=l.length from hc);omega
   have hlen:(b++bo n (l.take j)).length=b.length+j*n:=by rw[c2,fW,cE,hD (by omega)]
   rw[iH,pd]at L;refine S.aF hl hc fun ap ak=>?_;refine S.a1 ?_;refine SW.bF (fun m E ψ R=>∃(i:Nat) (v:V) (s:Option Pa),i+m=n/\O=ψ/\R=[aU.ob s (b++bo n (l.take j)++le i l[j])]/\af aU v (b++bo n (l.take j)++le i l[j]) s/\Sub [(0,v),(1,.j (n:Int)),(8,.j l[j]),(19,h),(20,.j (l.length:Int)),(21,.j (j:Int)),(25,.j (n:Int)),(26,.j (i:Int))] E) (m:=n) (.done ⟨0,v,s,by omega,rfl,by simp[le],by simpa[le]using ho,.r rfl⟩) ?_;intro W E ψ R Q A;obtain⟨i,v,s,hi,rfl,rfl,ho,o⟩:=A;refine C.sub o ?_;refine S.bin ?_;refine C.D (fun Pd=>?_) fun Pd=>?_
   ·refine S.bin ?_;refine S.bin ?_ (hv:=zi (by omega));refine S.mH ?_;refine S.a8 fun aj=>?_;refine S.br (m:=[bM (l[j]/256^i)]) 1 ho (.lit 0) (by rw[c2,hlen,fz];simp;omega) fun ag ac Z=>?_;refine S.drop 0 ?_;refine S.mv ?_;refine S.bin ?_;refine⟨W-1,by omega,.done ⟨i+1,ag,ac,by omega,rfl,by rw[s9,<-bp]<;>rfl,by rw[s9,<-bp];exact Z,.r rfl⟩⟩
   ·refine S.bin ?_;obtain rfl:i=n:=by omega
    refine⟨U-1,by omega,.done ⟨j+1,v,s,by omega,rfl,?_,?_,.r rfl⟩⟩
    ·rw[tj hc,ta,<-bp]
    ·rw[tj hc,ta,<-bp];exact ho
  ·obtain rfl:j=l.length:=by omega
   rw[dT]at ho⊢;exact⟨_,.t rfl .nil,.only 0 ⟨s,rfl,ho⟩⟩
theorem tN [Fx F] {d:V} {b:Bs} {n:Nat} (A:aa aU O d b) (hn:n<=1000) (ak:b.length<=1000000):bm F 164 [d,.j (n:Int)] O (.aN [.j (cf b n).1,.bool (cf b n).2]):=by
 refine ai.al (ar ?_);refine S.bin ?_;refine G.mv ?_;refine G.bin ?_;refine G.or ?_;refine G.mv ?_;refine G.len ?_ (hl:=aa.len A);refine G.mv ?_;refine G.bin ?_;refine G.or ?_;refine C.B (fun Pb=>?_) fun Pb=>?_
 ·have e:cf b n=(0,false):=by unfold cf;simp only[cx,aR]at Pb;exact ae (by omega)
  rw[e];exact⟨_,.t rfl (.t rfl .nil),.done rfl⟩
 ·simp only[cg,bD]at Pb;have e:cf b n=(dB (b.take n),true):=by unfold cf;exact ab (by omega)
  obtain⟨Z,o⟩:∃Z,Z=dB (b.take n):=⟨_,rfl⟩
  rw[e,<-o];have an:(b.take n).length=n:=by rw[cE];omega
  obtain⟨w,hw,h⟩:=aa.hi A (j:=n) (by omega);refine S.slice hw ?_;refine S.len ?_ (hl:=aa.len h);refine SW.bF (fun m E ψ R=>∃k a:Nat,k+m=n/\dB ((b.take n).take k)=(a:Int)/\O=ψ/\R=[]/\Sub [(6,.j (a:Int)),(23,w),(24,.j ((b.take n).length:Int)),(25,.j (k:Int))] E) (m:=n) (.done ⟨0,0,by omega,rfl,rfl,rfl,.r rfl⟩) ?_;intro ag E ψ R am M;obtain⟨k,a,hk,ha,rfl,rfl,L⟩:=M;refine C.sub L ?_;refine S.bin ?_;refine C.D (fun Pj=>?_) fun Pj=>?_
  ·have hj:k<(b.take n).length:=by omega
   have U:=vH ((b.take n).take k);have I:((b.take n).take k).length=k:=by rw[cE];omega
   rw[I,ha]at U
   have W:a<256^k:=by
                      have aj:(256:Int)^k=((256^k:Nat):Int):=by rw[rX];(try rfl)
                      omega
   have ac:dB ((b.take n).take (k+1))=(a:Int)+(((b.take n)[k]).toNat:Int)*256^k:=by rw[fm hj,Jt,I,ha]
   refine S.aF h hj fun ao ah=>?_;refine S.a1 ?_;refine S.iY ?_;refine S.bin ?_;refine S.bin ?_ (hv:=L4 (k:=k) (by omega) (by have:=o7 (b.take n)[k];omega) (by omega));refine S.bin ?_ (hv:=L5 W (o7 _) (by omega));refine S.bin ?_;refine⟨ag-1,by omega,.done ⟨k+1,a+((b.take n)[k]).toNat*256^k,by omega,by rw[ac];simp,rfl,rfl,.r rfl⟩⟩
  ·have Y:k=n:=by omega
   have Q:Z=(a:Int):=by rw[o,<-ha,Y,List.take_take,Nat.min_self]
   subst Q;refine⟨_,.t rfl (.t rfl .nil),.done ?_⟩;rfl
theorem BJ [Fx F] {h:V} {b tx:Bs} (o:aa aU O h b) (Q:b.length<=500000) (hs:tx.length<=500000):ai F 214 [h,.str tx] O [] (fun r ψ R=>ψ=O/\∃s,R=[aU.ob s (gp b tx)]/\af aU r (gp b tx) s) never:=by
 refine ai.same (ar ?_);refine S.call (BI o (by omega)) fun ac ag L U d=>?_;obtain⟨d,I,rfl,j⟩:=d;have d:=d.symm;subst d;refine S.cb ?_;refine S.bin ?_;refine C.D (fun O7=>?_) fun O7=>?_
 ·have e:gp b tx=b:=by unfold gp;exact ae (by omega)
  rw[e];exact⟨_,.t rfl .nil,.only 0 ⟨I,rfl,j⟩⟩
 ·refine S.cb ?_;refine S.mH ?_;refine S.a8 fun M=>?_;refine S.br (m:=[bM (tx.length:Int)]) 1 j (.lit 0) (by simp;omega) fun Y W A=>?_;refine S.drop 0 ?_;refine S.mv ?_;refine S.br 0 A (.s tx) (by simp;omega) fun Z G B=>?_;have e:gp b tx=b++[bM (tx.length:Int)]++tx:=by unfold gp;rw[ab (by omega)];(try rfl)
  rw[e];exact⟨_,.t rfl .nil,.only 0 ⟨G,rfl,B⟩⟩
set_option maxHeartbeats 1000000
def lW (b:Bs):Bs×Nat×Bool:=match b with
 |[]=>([],0,false)
 |c::r=>if r.length<c.toNat then([],0,false)else(r.take c.toNat,1+c.toNat,true)
theorem BK:∀(l:List aX) (p:Option Bs) (s:Bs),120<s.length->eu p s l=none
 |[],p,s,h=>by simp only[eu];rw[ae h]
 |e::l,p,s,h=>by
  simp only[eu];rw[ae];unfold mE;simp[h]
def oY (p:Option Bs) (e:aX):Bool:=!et e.name||decide (e.ino<1)||decide (9<e.ino)||(match p with|some p=>!iu p e.name|none=>false)
theorem BL (p:Option Bs) (e:aX) (s:Bs):mE p e s=(oY p e||decide (120<s.length)):=by unfold mE oY;cases p<;>rfl
theorem L6 {p:Option Bs} {e:aX} {r:List aX} {s:Bs} (h:oY p e=false):eu p s (e::r)=eu (some e.name) (s++oG e) r:=by
 by_cases hs:120<s.length
 ·rw[BK _ _ _ hs,BK _ _ _ (by rw[c2];omega)]
 ·simp only[eu];rw[ab];rw[BL,h];simp[hs]
theorem L7 {p:Option Bs} {e:aX} {r:List aX} {s:Bs} (h:oY p e=true):eu p s (e::r)=none:=by
 simp only[eu];rw[ae];rw[BL,h];(try rfl)
def e6:Nat->Bs->List aX->Option (List aX)
 |_,[],d=>some d
 |0,_::_,_=>none
 |f+1,c::r,d=>if r.length<c.toNat+1 then none else e6 f (r.drop (c.toNat+1)) (d++[⟨r.take c.toNat,((r[c.toNat]?).getD 0).toNat⟩])
theorem BM:∀(f:Nat) (b:Bs) (d l:List aX),e6 f b d=some l->∀e∈d,e∈l
 |0,b,d,l,h=>by cases b with
  |nil=>simp only[e6,aL]at h;subst h;exact fun e he=>he
  |cons c r=>simp[e6]at h
 |f+1,b,d,l,h=>by cases b with
  |nil=>simp only[e6,aL]at h;subst h;exact fun e he=>he
  |cons c r=>
   simp only[e6]at h;split at h
   ·cases h
   ·exact fun e he=>BM f _ _ l h e (List.mem_append_left _ he)
theorem BN:∀(f:Nat) (b:Bs) (d:List aX),gr f b d=e6 f b d\/(gr f b d=none/\∀l,e6 f b d=some l->∃e∈l,6<e.name.length)
 |0,b,d=>by cases b<;>exact .inl rfl
 |f+1,b,d=>by
  cases b with
  |nil=>exact .inl rfl
  |cons c r=>
   simp only[gr,e6];by_cases o:r.length<c.toNat+1
   ·rw[ae (.inr o),ae o];exact .inl rfl
   ·rw[ab o];by_cases aj:6<c.toNat
    ·rw[ae (.inl aj)];refine .inr ⟨rfl,fun l hl=>⟨⟨r.take c.toNat,((r[c.toNat]?).getD 0).toNat⟩,BM f _ _ l hl _ (List.mem_append_right _ (hB.2 rfl)),?_⟩⟩;show 6<(r.take c.toNat).length;rw[cE];omega
    ·rw[ab (by omega)];exact BN f _ _
theorem BO:∀(l:List aX) (p:Option Bs) (s b:Bs),eu p s l=some b->∀e∈l,e.name.length<=6
 |[],_,_,_,_,e,he=>by cases he
 |a::l,p,s,b,h,e,he=>by
  simp only[eu]at h;split at h
  ·cases h
  ·rename_i d;rcases bS.1 he with rfl|he
   ·simp only[mE,cx,not_or,c3,Bool.not_eq_false]at d;have:=d.1.1.1.1;unfold et at this;simp only[be,aR]at this;omega
   ·exact BO l _ _ b h e he
theorem BP (b:Bs):cv b=match e6 b.length b []with
 |none=>none
 |some l=>if eK l=some b then some l else none:=by
 unfold cv;rcases BN b.length b []with h|⟨o,aj⟩
 ·rw[h];cases e6 b.length b []<;>rfl
 ·rw[o];cases hx:e6 b.length b []with
  |none=>rfl
  |some l=>
   obtain⟨e,he,hl⟩:=aj l hx;simp only;rw[ab];intro hp;have:=BO l none [] b hp e he;omega
theorem BQ [Fx F] {o:V} {b:Bs} (d:aa aU O o b) (M:b.length<=1000000):bm F 165 [o] O (.aN [.str (lW b).1,.j ((lW b).2.1:Int),.bool (lW b).2.2]):=by
 refine ai.al (ar ?_);refine S.len ?_ (hl:=aa.len d);refine S.bin ?_;refine G.mv ?_;refine G.len ?_ (hl:=aa.len d);refine G.mv ?_;refine G.aF d (j:=0) (z:=(b[0]?).getD 0) (fun Q I=>?_) (hj:=fun h=>by
  simp at h;rw[bj (by cases b with|nil=>exact absurd rfl h|cons a l=>simp)];(try rfl))
 refine G.a1 ?_;refine G.mw ?_ (n:=(((b[0]?).getD 0).toNat:Int)) (j:=.u8);rw[vJ];refine G.bin ?_;refine G.or ?_;refine C.B (fun O3=>?_) fun O3=>?_
 ·have e:lW b=([],0,false):=by
   unfold lW;cases b with
   |nil=>rfl
   |cons c r=>
    simp at O3;simp only;rw[ae (by omega)]
  rw[e];refine⟨_,.t rfl (.t rfl (.t rfl .nil)),.done ?_⟩;rfl
 ·obtain⟨c,r,rfl⟩:∃c r,b=c::r:=by
   cases b with
   |nil=>simp at O3
   |cons c r=>exact⟨c,r,rfl⟩
  simp at O3;have e:lW (c::r)=(r.take c.toNat,1+c.toNat,true):=by unfold lW;simp only;rw[ab (by omega)]
  rw[e];have hc:=o7 c;obtain⟨w,hw,D⟩:=aa.both d (i:=1) (j:=1+c.toNat) (by omega) (by simp;omega);refine S.aF d (j:=0) (by simp) fun R L=>?_;refine S.a1 ?_;refine S.iY ?_ (b:=c);refine S.bin ?_ (v:=.j ((1+c.toNat:Nat):Int)) (hv:=by rw[dz (by omega) (by omega)];(try rfl));refine S.slice hw ?_;refine S.tg D ?_;have A:(List.drop 1 (c::r)).take (1+c.toNat-1)=r.take c.toNat:=by rw[mV];(try rfl)
  rw[A];exact⟨_,.t rfl (.t rfl (.t rfl .nil)),.done rfl⟩
theorem L8 [Fx F] {s:Bs} (hs:s.length<=1000000):bm F 243 [.str s] O (.bool (et s)):=by
 refine ai.al (ar ?_);refine S.jH fun M Q Z h=>?_;refine S.len ?_ (hl:=aa.len h);refine SW.bF (fun m E ψ R=>∃j:Nat,j+m=s.length/\(s.take j).all (fun c=>!oF c)=true/\Q=ψ/\R=[]/\Sub [(0,.str s),(6,M),(7,.j (s.length:Int)),(8,.j (j:Int))] E) (m:=s.length) (.done ⟨0,by omega,rfl,rfl,rfl,.r rfl⟩) ?_;intro L E ψ R Y I;obtain⟨j,hj,ha,rfl,rfl,A⟩:=I;refine C.sub A ?_;refine S.bin ?_;refine C.D (fun O7=>?_) fun O7=>?_
 ·have d:j<s.length:=by omega
  have W:(s[j])=s[j]:=rfl;refine S.aF h d fun ab U=>?_;refine S.a1 ?_;refine S.bin ?_;refine G.mv ?_;refine G.bin ?_;refine G.or ?_;refine G.mv ?_;refine G.gy (j:=0) (c:=47) (hj:=fun _=>rfl) ?_;refine G.bin ?_;refine G.or ?_;refine C.B (fun O2=>?_) fun O2=>?_
  ·have o:et s=false:=by
    unfold et;rw[iF];left;rw[List.all_eq_false];exact⟨s[j],cw d,by rw[show oF s[j]=true from O2];simp⟩
   rw[o];refine⟨_,.t rfl .nil,.done ?_⟩;rfl
  ·refine S.bin ?_;refine⟨L-1,by omega,.done ⟨j+1,by omega,?_,rfl,rfl,.r rfl⟩⟩;rw[tl _ d,ha,gL,show oF s[j]=false from O2];(try rfl)
 ·have o:j=s.length:=by omega
  rw[o,dT]at ha;have aj:et s=(decide ((1:Int)<=(s.length:Int))&&decide ((s.length:Int)<=6)):=by unfold et;rw[ha,gL]
  rw[aj];refine S.cb ?_;refine S.bin ?_;refine G.mv ?_;refine G.cb ?_;refine G.bin ?_;refine G.and ?_;refine⟨_,.t rfl .nil,.done ?_⟩;rfl
set_option maxHeartbeats 4000000
theorem L9 {l:List aX} {j:Nat} (hj:j<l.length) (z:aX) (hz:0<j->l[j-1]? =some z):
 (!et (l[j]).name||(decide ((0:Int)<(j:Int))&&!iu z.name (l[j]).name)||decide ((l[j]).ino<1)||decide (9<(l[j]).ino))=oY (nI l j) l[j]:=by
 unfold oY nI;by_cases h0:j=0
 ·subst h0;simp
 ·rw[ab h0,hz (by omega),decide_eq_true (show(0:Int)<(j:Int) by omega),gL];simp only[kq];cases !et (l[j]).name<;>cases (!iu z.name (l[j]).name)<;>cases decide ((l[j]).ino<1)<;>cases decide (9<(l[j]).ino)<;>rfl
theorem Ma [Fx F] {A:V} {l:List aX} (hl:aa cC O A l) (hlen:l.length<=10000) (am:∀e∈l,e.name.length<=100000):bm F 216 [A] O (.aN [.str ((eK l).getD []),.bool (eK l).isSome]):=by
 refine ai.al (ar ?_);refine S.len ?_ (hl:=aa.len hl);refine SW.new aU ?_;refine SW.bF (fun m E ψ R=>∃(j:Nat) (s:Bs) (v:V) (q:Option Pa),j+m=l.length/\eK l=eu (nI l j) s (l.drop j)/\s.length<=8*j/\aa cC ψ A l/\R=[aU.ob q s]/\af aU v s q/\Sub [(4,v),(7,A),(0,A),(8,.j (l.length:Int)),(9,.j (j:Int))] E) (m:=l.length) (.done ⟨0,[],.no .sl,none,by omega,rfl,by simp,hl,rfl,af.nil,.r rfl⟩) ?_;intro ao E ψ R aC ak;obtain⟨j,s,v,q,hm,d,aI,hl,rfl,ho,aj⟩:=ak;refine C.sub aj ?_;refine S.bin ?_;refine C.D (fun OU=>?_) fun OU=>?_
 ·have hj:j<l.length:=by omega
  rw[bQ hj]at d;have aH:=am _ (cw hj);have hz:0<j->l[j-1]? =some ((l[j-1]?).getD ⟨[],0⟩):=fun h=>by rw[bj (show j-1<l.length by omega)];(try rfl)
  refine S.aF hl hj fun aJ aA=>?_;refine S.bJ ?_ (l:=[.str (l[j]).name,.j (l[j]).ino]);refine S.alloc fun az=>?_;refine S.store 0 ?_;refine S.ld 0 ?_;refine S.al (L8 (s:=(l[j]).name) (by omega)) ?_;refine S.un ?_;refine G.mv ?_;refine G.bin ?_;refine G.mv ?_;refine G.mv ?_;refine G.mv ?_;refine G.bin ?_ (hv:=fun o=>vI (by simp at o;omega) (by omega));refine G.aF hl (fun aK Y=>?_) (hj:=fun o=>hz (by simp at o;omega));refine G.bl Y fun aL aB=>?_;refine G.a1 ?_;refine G.aD ?_;refine G.ld 0 ?_;refine G.bin ?_ (hv:=fun _=>zk);refine G.fV ?_;refine G.or ?_;refine G.aD ?_;refine G.ld 0 ?_;refine G.bin ?_;refine G.or ?_;refine G.aD ?_;refine G.ld 0 ?_;refine G.bin ?_;refine G.or ?_;rw[L9 hj _ hz];refine C.B (fun I=>?_) fun I=>?_
  ·rw[L7 I]at d;rw[d];exact⟨_,.t rfl (.t rfl .nil),.none rfl⟩
  ·rw[L6 I]at d;have o:=I;unfold oY at o;simp only[cg,du,bD]at o;have aE:(l[j]).name.length<=6:=by
    have:=o.1.1.1;unfold et at this;simp only[be,aR]at this;omega
   refine S.ld 0 ?_;refine S.ld 0 ?_;refine S.a8 fun M=>?_;have ap:af bt (.sl M 0 1 (.ex 1)) [(l[j]).ino] (some M):=af.new rfl;refine S.jL 2 ho (fun ψ Q L=>BJ (tx:=(l[j]).name) L (by omega) (by omega)) fun v46 aw ac=>?_;obtain⟨aM,rfl,U⟩:=ac;have Z:gp s (l[j]).name=s++le 1 ((l[j]).name.length:Int)++(l[j]).name:=by unfold gp;rw[ab (by omega)]
   rw[Z]at U⊢;refine S.e2 1 ?_;refine S.bE 2 ?_;refine S.cd 1 ap fun aO an ag=>?_;refine S.jL 0 U (fun ψ Q L=>rI (n:=1) L (ag.mono Q) (by omega) (by omega) (by simp[fz];omega) (by simp)) fun v50 ay ah=>?_;obtain⟨av,rfl,au⟩:=ah;refine S.bin ?_;refine⟨ao-1,by omega,.drop 1 (.done ⟨j+1,s++oG l[j],v50,av,by omega,?_,?_,hl.mono an,?_,?_,.r rfl⟩)⟩
   ·rw[d,zy hj]
   ·unfold oG;simp[fz];omega
   ·unfold oG;simp[bo]
   ·unfold oG;simpa[bo]using au
 ·have hj:j=l.length:=by omega
  subst hj;rw[b6]at d;simp only[eu]at d;refine S.len ?_ (hl:=af.len ho);refine S.bin ?_;refine C.D (fun W=>?_) fun W=>?_
  ·rw[ae (by omega)]at d;rw[d];exact⟨_,.t rfl (.t rfl .nil),.none rfl⟩
  ·rw[ab (by omega)]at d;rw[d];refine S.hM 0 ho ?_;exact⟨_,.t rfl (.t rfl .nil),.none rfl⟩
theorem BS:∀(f g:Nat) (b:Bs) (d:List aX),b.length<=f->b.length<=g->e6 f b d=e6 g b d
 |0,g,b,d,h,_=>by
  have:b=[]:=e8 (by omega);subst this;cases g<;>rfl
 |f+1,g,b,d,o,aj=>by
  cases b with
  |nil=>cases g<;>rfl
  |cons c r=>
   cases g with
   |zero=>simp at aj
   |succ g=>
    simp only[e6];split
    ·rfl
    ·simp only[b7]at o aj;exact BS f g _ _ (by rw[bW];omega) (by rw[bW];omega)
theorem BT [Fx F] {b:Bs} (aQ:b.length<=10000):
 ai F 168 [.str b] O [] (fun r ψ R=>R=[]/\∃v,r=.aN [v,.bool (cv b).isSome]/\aa cC ψ v ((cv b).getD [])) never:=by
 refine ar ?_;refine S.jH fun aL aW aS aw=>?_;refine SW.new cC ?_;refine SW.bF (fun m E ψ R=>∃(I:Bs) (U:V) (d:List aX) (v:V) (q:Option Pa),m=I.length/\e6 b.length b []=e6 I.length I d/\d.length+I.length<=b.length/\(∀e∈d,e.name.length<=1000)/\aa aU ψ U I/\R=[cC.ob q d]/\af cC v d q/\Sub [(0,.str b),(4,v),(5,U)] E) (m:=b.length) (.done ⟨b,aL,[],.no .sl,none,rfl,rfl,by simp,(fun e he=>by cases he),aw,rfl,af.nil,.r rfl⟩) ?_;intro aV E ψ R aR az;obtain⟨I,U,d,v,q,hm,Y,am,an,Q,rfl,ho,ay⟩:=az;refine C.sub ay ?_;refine S.len ?_ (hl:=aa.len Q);refine S.bin ?_;refine C.D (fun O1=>?_) fun O1=>?_
 ·obtain⟨c,r,rfl⟩:∃c r,I=c::r:=by
   cases I with
   |nil=>simp at O1
   |cons c r=>exact⟨c,r,rfl⟩
  simp only[b7]at am hm;have hc:=o7 c;refine S.al (BQ Q (by simp;omega)) ?_;obtain⟨T,ak⟩:∃T,T=lW (c::r):=⟨_,rfl⟩
  have M:T=if r.length<c.toNat then([],0,false)else(r.take c.toNat,1+c.toNat,true):=ak;have aE:T.2.1<=(c::r).length:=by rw[M];split<;>simp;omega
  rw[<-ak];obtain⟨w,hw,ac⟩:=aa.lo Q (j:=T.2.1) aE;refine S.slice hw ?_;refine S.al (tN (n:=1) ac (by omega) (by simp;omega)) ?_;refine S.un ?_;refine G.mv ?_;refine G.bin ?_;refine G.or ?_;refine C.B (fun A=>?_) fun A=>?_
  ·have e:e6 (c::r).length (c::r) d=none:=by
    simp only[b7,e6];rw[ae];rw[M]at A;by_cases o:r.length<c.toNat
    ·omega
    ·rw[ab o]at A;have W:(c::r).drop (1+c.toNat)=r.drop c.toNat:=by rw[qn];(try rfl)
     simp only[W]at A;unfold cf at A;by_cases aj:(r.drop c.toNat).length<1
     ·rw[bW]at aj;omega
     ·rw[ab (by omega)]at A;simp at A;omega
   have ao:cv b=none:=by rw[BP,Y,e]
   rw[ao];exact⟨_,.t rfl (.t rfl .nil),.none ⟨rfl,_,rfl,aa.nil _⟩⟩
  ·have aA:¬r.length<c.toNat:=by
    intro o;rw[M,ae o]at A;simp at A
   have aC:T=(r.take c.toNat,1+c.toNat,true):=by rw[M,ab aA]
   obtain rfl:=aC;have W:(c::r).drop (1+c.toNat)=r.drop c.toNat:=by rw[qn];(try rfl)
   simp only[W]at A ac⊢;have aD:¬r.length<c.toNat+1:=by
    intro aj;unfold cf at A;rw[ae (by rw[bW];omega)]at A;simp at A
   have au:(cf (r.drop c.toNat) 1).1=(((r[c.toNat]?).getD 0).toNat:Int):=by
    unfold cf;rw[ab (by rw[bW];omega)];rw[bQ (show c.toNat<r.length by omega)];simp only[List.take_succ_cons,nX,dB];rw[bj (show c.toNat<r.length by omega)];simp
   rw[au];have av:e6 (c::r).length (c::r) d=e6 (r.drop (c.toNat+1)).length (r.drop (c.toNat+1)) (d++[⟨r.take c.toNat,((r[c.toNat]?).getD 0).toNat⟩]):=by
    simp only[b7,e6];rw[ab aD];exact BS _ _ _ _ (by rw[bW];omega) (aB _)
   obtain⟨aO,aI,ag⟩:=aa.lo Q (j:=1+c.toNat+1) (by simp;omega);have ap:(c::r).drop (1+c.toNat+1)=r.drop (c.toNat+1):=by rw[show 1+c.toNat+1=(c.toNat+1)+1 by omega];(try rfl)
   rw[ap]at ag;refine S.build ?_;refine S.a8 fun aP=>?_;refine S.br (m:=[⟨r.take c.toNat,((r[c.toNat]?).getD 0).toNat⟩]) 1 ho (.lit 0) (by simp;omega) fun aM aK aJ=>?_;refine S.drop 0 ?_;refine S.mv ?_;refine S.bin ?_ (v:=.j ((1+c.toNat+1:Nat):Int)) (hv:=by rw[dz (by omega) (by omega)];(try rfl));refine S.slice aI ?_;refine⟨_,?_,.done ⟨_,aO,_,aM,aK,rfl,Y.trans av,by simp;omega,?_,ag,rfl,aJ,.r rfl⟩⟩
   ·simp;omega
   ·intro e he;rw[fK,hB]at he;rcases he with he|rfl
    ·exact an e he
    ·show(r.take c.toNat).length<=1000;rw[cE];omega
 ·obtain rfl:I=[]:=by
   cases I with
   |nil=>rfl
   |cons c r=>simp at O1
  have aH:e6 b.length b []=some d:=Y;refine S.cd 0 ho fun aZ aT ah=>?_;have aF:d.length<=10000:=by simp at am;omega
  refine S.al (Ma ah aF (fun e he=>by have:=an e he;omega)) ?_;have Z:cv b=if eK d=some b then some d else none:=by rw[BP,aH]
  refine S.un ?_;refine G.mv ?_;refine G.mv ?_;refine G.bin ?_;refine G.or ?_;refine C.B (fun L=>?_) fun L=>?_
  ·have e:cv b=none:=by
    rw[Z,ab];intro h;rw[h]at L;simp at L
   rw[e];exact⟨_,.t rfl (.t rfl .nil),.none ⟨rfl,_,rfl,aa.nil _⟩⟩
  ·have e:cv b=some d:=by
    rw[Z,ae];cases hp:eK d with
    |none=>rw[hp]at L;simp at L
    |some x=>rw[hp]at L;simp at L;rw[L]
   rw[e];exact⟨_,.t rfl (.t rfl .nil),.none ⟨rfl,_,rfl,ah⟩⟩
end Go.Ev
namespace Go.Ev
namespace S
variable{F:Nat->Option aP} {K:KX} {E:Env} {O:Fz} {R:List Ob} {Q:bz} {rs:List Op} {d:Nat} {g:Option (Pa×Bool)}
theorem Mb {x:Od} {v:V} {n:Nat} {s:List UInt8} (hs:∀W h,SH O h (R++W)->Sl h v 1 n (s.map cz)) (hn:SA F K rs E O R Q) (hd:lk d E=some (.str s):=by rfl) (hx:ay E x v:=by first|exact .t rfl|exact .c) (hw:aA E g .yes:=by first|exact .none|exact .yes rfl):
 SR F K (.bX ⟨some (pa d),dk x,g⟩::Op.aK rs) E O R Q:=
 vZ (fun W h sh e he=>by
  have o:=hs W h sh;rcases o.2 with⟨rfl,rfl⟩|⟨a,I,c,rfl,hc⟩
  ·have:s=[]:=by simpa using o.1
   subst this;simp only[hx e he]
  ·have aj:=hc.all (n:=n) (by rw[o.1,Nat.mul_one]);simp only[hx e he,aj,yV]) hn hd (tc _) hw
theorem Mc {x:Od} {v:V} {l:Bs} {s:Option Pa} (i:Nat) (ho:af aU v l s) (hn:SA F K rs E O R Q) (hi:R[i]? =some (aU.ob s l):=by rfl) (hd:lk d E=some (.str l):=by rfl) (hx:ay E x v:=by exact .t rfl) (hw:aA E g .yes:=by first|exact .none|exact .yes rfl):SR F K (.bX ⟨some (pa d),dk x,g⟩::Op.aK rs) E O R Q:=
 Mb (fun _ _ sh=>ho.bytes hi sh) hn hd hx hw
end S
theorem ai.kept {F:Nat->Option aP} {O:Fz} {n:Nat} {vs:List V} {U:Type} {e:bG U} {l:List U} (hc:ai F n vs O [] (fun r ψ R=>ψ=O/\∃s,R=[e.ob s l]/\af e r l s) never):ai F n vs O [] (fun r ψ R=>R=[]/\aa e ψ r l) never:=fun ad h sh=>by
 rcases hc ad h sh with⟨r,h',o,ψ,G,aj,d,rfl,s,rfl,ho⟩|⟨_,_,_,_,_,_,_,h⟩
 ·obtain⟨D,I,j,k2,A,B⟩:=Fin.bL (P:=fun ψ R=>R=[]/\aa e ψ r l) (R:=[e.ob s l]) 0 rfl ho (fun ψ o aj=>.done ⟨rfl,aj⟩) ad h' d;subst A;exact .inl ⟨r,h',o,D,[],aj.trans j,k2,rfl,B⟩
 ·exact h.elim
theorem aa.dW {O:Fz} {U:Type} {e:bG U} {a:Pa} {l:List U} {n:Nat} (h:O a=some (.cells (e.fl l) false)) (hn:l.length=n):aa e O (.sl a 0 n (.ex n)) l:=
 OV.fs (af.new (e:=e) (a:=a) hn) rfl (fun b d=>by cases d;exact h)|>fun h=>by unfold aa;rw[hn];subst hn;exact h
theorem w7 {z xs:List V} (h:xs.length=z.length):cT 0 z xs=some xs:=by
 have:=s4 z [] xs h;rw[e9,e9]at this;exact this
namespace G
variable{F:Nat->Option aP} {K:KX} {E:Env} {O:Fz} {R:List Ob} {Q:bz} {rs:List Op} {d:Nat} {g:Option (Pa×Bool)} {b:Bool}
theorem Md {U:Type} {e:bG U} {x:Od} {u:V} {z:List V} {k:Nat} (z0:U) (hn:∀a ψ,O.Le ψ->(b=true->ψ a=some (.cells (e.f z0) false))->SA F K rs ((d,gv b (.sl a 0 1 (.ex 1)))::E) ψ R Q) (hu:u.cells=e.f z0:=by rfl) (hz:z.length=e.k:=by rfl) (hk:k=e.k:=by rfl)
 (j:Gd E g b:=by first|exact .y rfl|exact .n rfl|exact .yg rfl|exact .ng rfl) (hx:da E x b u:=by first|exact .g rfl|exact .gl rfl|exact .u (.t rfl)|exact .u .c):SR F K (.op ⟨some (pa d),aH z 1 [(0,k,x)],g⟩::Op.aK rs) E O R Q:=by
 subst hk;cases b with
 |false=>exact S.no j (hn .z O (.refl O) (fun h=>by cases h))
 |true=>
  intro W h sh;have o:kG E [(0,e.k,x)] z (e.f z0):=.cons (hx rfl) (by rw[hu,e.len];exact dU _) (by rw[hu];exact e.sc z0) (by rw[hu];exact w7 (by rw[e.len,hz])) .nil;have B:SH O (h.alloc (.cells (e.f z0) false)) ([(some h.next,.cells (e.f z0) false)]++(R++W)):=sh.alloc _;obtain⟨D,A⟩:=B.freeze (i:=0) rfl;exact WR.up A (ad.a8 j o (e.sc z0) (S.r (hn h.next _ A (fun _=>by simp[Fz.put])) W _ D))
theorem Me {U:Type} {e:bG U} {x:Od} {u:V} {z:List V} {k:Nat} {a:Pa} (z0:U) (A:b=true->O a=some (.cells (e.f z0) false)) (hn:SA F K rs E O R Q) (hm:b9 (e.f z0) (e.f z0)=true) (hd:lk d E=some (gv b (.sl a 0 1 (.ex 1))):=by rfl) (hu:u.cells=e.f z0:=by rfl) (hz:z.length=e.k:=by rfl) (hk:k=e.k:=by rfl)
 (j:Gd E g b:=by first|exact .y rfl|exact .n rfl|exact .yg rfl|exact .ng rfl) (hx:da E x b u:=by first|exact .g rfl|exact .gl rfl|exact .u (.t rfl)|exact .u .c):SR F K (.bX ⟨some (pa d),aH z 1 [(0,k,x)],g⟩::Op.aK rs) E O R Q:=by
 subst hk;cases b with
 |false=>exact S.sT j hd hn
 |true=>
  intro W h sh;have o:kG E [(0,e.k,x)] z (e.f z0):=.cons (hx rfl) (by rw[hu,e.len];exact dU _) (by rw[hu];exact e.sc z0) (by rw[hu];exact w7 (by rw[e.len,hz])) .nil;exact ad.y6 j hd o (e.sc z0) (sh.jE _ _ (A rfl)) hm (S.r hn W h sh)
end G
end Go.Ev
set_option maxHeartbeats 2000000
namespace Go.Ev
variable{F:Nat->Option aP} {O:Fz}
theorem BU (c:UInt8):∀n,nn [c] n=List.replicate n c
 |0=>rfl
 |n+1=>by show[c]++nn [c] n=_;rw[BU c n,rP];(try rfl)
theorem Mf (hr:F 215=some (.cA gR)) {s:Bs} {n:Nat} (hn:n<=1000000) (hs:s.length<=1000000):bm F 215 [.str s,.j (n:Int)] O (.str (nn s n)):=fun ad h sh=>by
 refine .inl ⟨_,h,vr hr ?_,O,[],.refl O,sh,rfl,rfl,rfl⟩;have o:Nat.ble n 9223372036854775807=true:=hA (by omega);have aj:s.length*n<=1000000*1000000:=nW hs hn;have d:Nat.ble (Nat.mul s.length n) 140737488355328=true:=hA (show s.length*n<=_ by omega);show(bif Nat.ble n 9223372036854775807 then bif Nat.ble (Nat.mul s.length n) 140737488355328 then some (V.str (nn s n),h)else none else none)=_;rw[o,d];(try rfl)
def kV (s:Bs):aT:=⟨((s[0]?).getD 0).toNat,dB ((s.drop 1).take 4),(lW (s.drop 5)).1⟩
theorem Mg {x:aT} (h:jG x=true):(dn x)[5]? =some (bM (x.load.length:Int)):=by
 have hl:x.load.length<=55:=by unfold jG at h;simp only[be,aR]at h;omega
 unfold dn;rw[ae h];unfold gq gp;rw[ab (by omega)];(try rfl)
theorem Mh (s:Bs):er s=if s.length=64 then(if dn (kV s)=s then some (kV s)else none)else none:=by
 unfold er;by_cases h0:s.length=64
 ·rw[ae h0,ae h0];have j:s[5]? =some s[5]:=bj (by omega);have hd:s.drop 5=s[5]::s.drop 6:=bQ (by omega);have o:∀x:aT,dn x=s->s[5].toNat=x.load.length/\x.load.length<=55:=by
   intro x hx;have hm:jG x=true:=by
    cases hm:jG x with
    |true=>rfl
    |false=>unfold dn at hx;rw[hm]at hx;simp at hx;rw[hx]at h0;cases h0
   have d:=Mg hm;rw[hx,j]at d;have hl:x.load.length<=55:=by unfold jG at hm;simp only[be,aR]at hm;omega
   simp only[aL]at d;rw[d];refine⟨?_,hl⟩;unfold bM;rw[UInt8.toNat_ofNat'];omega
  by_cases hs:s[5].toNat<=55
  ·have e:kV s=lM s:=by
    unfold kV lM;rw[hd,j];unfold lW;simp only[kq];rw[ab (by rw[bW];omega),hD hs]
   rw[e]
  ·rw[ab (fun h=>hs (by have:=o _ h;omega)),ab (fun h=>hs (by have:=o _ h;omega))]
 ·rw[ab h0,ab h0]
theorem Mi [Fx F] {x:aT}:bm F 213 [.agg [.j x.kind,.j x.gen,.str x.load]] O (.bool (jG x)):=by
 refine ai.al (ar ?_);refine S.box fun d=>?_;refine S.ld 0 ?_;refine S.bin ?_;refine G.aD ?_;refine G.ld 0 ?_;refine G.bin ?_;refine G.and ?_;refine G.aD ?_;refine G.ld 0 ?_;refine G.bin ?_;refine G.and ?_;refine G.aD ?_;refine G.ld 0 ?_;refine G.bin ?_;refine G.and ?_;refine G.aD ?_;refine G.ld 0 ?_;refine G.cb ?_;refine G.bin ?_;refine G.and ?_;refine⟨_,.t rfl .nil,.done ?_⟩;show V.bool _=V.bool _;unfold jG;rfl
theorem Mj [Fx F] (hr:F 215=some (.cA gR)) {x:aT}:bm F 166 [.agg [.j x.kind,.j x.gen,.str x.load]] O (.str (dn x)):=by
 refine ai.al (ar ?_);refine S.box fun ah=>?_;refine S.ag 0 ?_ (l:=[.j x.kind,.j x.gen,.str x.load]);refine S.al (Mi) ?_;refine S.un ?_;refine C.B (fun Pe=>?_) fun Pe=>?_
 ·have e:dn x=[]:=by unfold dn;rw[ab (by simpa using Pe)]
  rw[e];refine⟨_,.t rfl .nil,.done ?_⟩;rfl
 ·have hm:jG x=true:=by simpa using Pe
  have ak:x.load.length<=55:=by unfold jG at hm;simp only[be,aR]at hm;omega
  have e:dn x=gq x++List.replicate (64-(gq x).length) 0:=by unfold dn;rw[ae hm]
  rw[e];refine S.ld 0 ?_;refine S.a8 fun a9=>?_;have W:af bt (.sl a9 0 1 (.ex 1)) [x.kind] (some a9):=af.new rfl;refine S.cd 0 W fun aC ao M=>?_;refine S.aD ?_;refine S.ld 0 ?_;refine S.a8 fun A=>?_;have R:af bt (.sl A 0 1 (.ex 1)) [x.gen] (some A):=af.new rfl;refine S.ld 1 ?_;refine S.call (rI (n:=1) (aa.nil _) M (by omega) (by omega) (by simp) (by simp)) fun aw aA Y am d=>?_;obtain⟨d,ap,rfl,Q⟩:=d;have d:=d.symm;subst d;refine S.bE 2 ?_;refine S.e2 1 ?_;refine S.bE 2 ?_;refine S.cd 1 R fun aB an G=>?_;refine S.jL 0 Q (fun ψ l o=>rI (n:=4) o (G.mono l) (by omega) (by omega) (by simp[fW]) (by simp)) fun ay Z I=>?_;obtain⟨au,rfl,U⟩:=I;refine S.bE 1 ?_;refine S.jL 0 U (fun ψ l o=>BJ (tx:=x.load) o (by simp[fW]) (by omega)) fun az ac L=>?_;obtain⟨av,rfl,h⟩:=L;have D:gp ([]++bo 1 [x.kind]++bo 4 [x.gen]) x.load=gq x:=by unfold gq;simp[bo]
  rw[D]at h⊢;have aj:(gq x).length<=61:=by unfold gq gp;split<;>simp[fz];omega
  refine S.hM 0 h ?_;refine S.len ?_ (hl:=af.len h);refine S.bin ?_ (v:=.j ((64-(gq x).length:Nat):Int)) (hv:=by rw[fU (by omega) (by omega)];congr 2;omega);refine S.al (Mf hr (s:=[0]) (n:=64-(gq x).length) (by omega) (by simp)) ?_;rw[BU];refine S.Mc 0 h ?_;refine S.bin ?_ (hv:=my (by simp;omega));refine⟨_,.t rfl .nil,.done ?_⟩;rfl
theorem Mk [Fx F] (hr:F 215=some (.cA gR)) {s:Bs}:bm F 101 [.str s] O (.aN [.agg (bu.f ((er s).getD fA)),.bool (er s).isSome]):=by
 have ht:=Mh s;refine ai.al (ar ?_);refine S.alloc fun Q=>?_;refine S.cb ?_;refine S.bin ?_;refine C.B (fun Pc=>?_) fun Pc=>?_
 ·have I:¬s.length=64:=by simp at Pc;omega
  rw[ab I]at ht;rw[ht];refine S.build ?_;refine S.store 0 ?_;exact⟨_,.cN 0 rfl rfl rfl rfl (.t rfl .nil),.none rfl⟩
 ·have hlen:s.length=64:=by simp at Pc;omega
  have hs:s.length<=1000000:=by omega
  rw[ae hlen]at ht;refine S.alloc fun a4=>?_;refine S.jH fun U Z R h=>?_;obtain⟨W,L,D⟩:=aa.lo h (j:=1) (by omega);obtain⟨Y,M,G⟩:=aa.lo h (j:=5) (by omega);refine S.al (tN (n:=1) h (by omega) hs) ?_;have o:(cf s 1).1=(((s[0]?).getD 0).toNat:Int):=by
   unfold cf;rw[ab (by omega)];cases s with
   |nil=>cases hlen
   |cons c r=>simp[dB]
  rw[o];refine S.store 0 ?_;refine S.slice L ?_;refine S.al (tN (n:=4) D (by omega) (by rw[bW];omega)) ?_;have A:(cf (s.drop 1) 4).1=dB ((s.drop 1).take 4):=by unfold cf;rw[ab (by rw[bW];omega)]
  rw[A];refine S.store 0 ?_;refine S.slice M ?_;refine S.al (BQ G (by rw[bW];omega)) ?_;refine S.store 0 ?_;refine S.ag 0 ?_ (l:=[.j (kV s).kind,.j (kV s).gen,.str (kV s).load]);refine S.al (Mj hr (x:=kV s)) ?_;refine S.bin ?_;refine C.B (fun d=>?_) fun d=>?_
  ·rw[ab (by simpa using d)]at ht;rw[ht];refine S.build ?_;refine S.store 1 ?_;exact⟨_,.cN 1 rfl rfl rfl rfl (.t rfl .nil),.none rfl⟩
  ·rw[ae (by simpa using d)]at ht;rw[ht];refine S.ag 0 ?_ (l:=[.j (kV s).kind,.j (kV s).gen,.str (kV s).load]);refine S.store 1 ?_;exact⟨_,.cN 1 rfl rfl rfl rfl (.t rfl .nil),.none rfl⟩
set_option maxHeartbeats 4000000
theorem Ml [Fx F] {h wv:V} {d:au} {a:Pa} {i:Int} (hl:aa dA O h d.last):ai F 162 [.ptr a 0,.j i] O [(some a,.cells [h,wv,.j d.arm,.bool d.down] false)] (fun r ψ R=>ψ=O/\r=.bool (d.has i)/\R=[(some a,.cells [h,wv,.j d.arm,.bool d.down] false)]) never:=by
 refine ar ?_;refine S.ld 0 ?_;refine S.un ?_;refine G.mv ?_;refine G.bin ?_;refine G.and ?_;refine G.mv ?_;refine G.mv ?_;refine G.nil? ?_;refine G.aD ?_;refine G.aD ?_;refine G.ld 0 ?_;refine G.len ?_ (hl:=aa.len hl);refine G.bin ?_;refine G.and ?_;exact⟨_,.t rfl .nil,.done ⟨rfl,rfl,rfl⟩⟩
theorem Mm [Fx F] {wv:V} (hs:isScalar wv=true):ai F 163 [wv] O [] (fun r ψ R=>ψ=O/\∃a,r=.fn 212 [.ptr a 0]/\R=[(some a,.cells [wv] false)]) never:=by
 have d:wv.cells=[wv]:=gV hs;refine ar ?_;refine S.box (v:=wv) (fun h=>?_) (hs:=by rw[d];simp[aY,hs]);rw[d];refine S.sK ?_;exact⟨_,.t rfl .nil,.done ⟨rfl,h,rfl,rfl⟩⟩
theorem Mn {wl:List lK} {wv:V} {A l:Pa} {a b:IC ak} {nt:Nat} {R:List Ob} {P:bz} (d:Nat->Fz->List Ob->Prop) (D:Fz->List Ob->Prop) (hw:aa j5 O wv wl) (ac:wl.length<=1000000) (h0:d wl.length O R) (I:∀j ψ R,d j ψ R->R[1]? =some (some A,.cells [wv] false))
 (Z:∀(j:Nat) (hj:j<wl.length) (ψ:Fz) (R:List Ob),O.Le ψ->d (j+1) ψ R->oD F (pN 212 nt l a b) l [.j (j:Int),.agg (j5.f wl[j])] ψ R (fun q G o=>(q=true->d j G o)/\(q=false->D G o)))
 (hn:∀E ψ R,O.Le ψ->d 0 ψ R->P.n E ψ R) (hd:∀E ψ R,O.Le ψ->D ψ R->P.r E ψ R):SW F (pN 212 nt l a b) B.y9.den [(0,.fp l),(1,.ptr A 0)] O R P:=by
 refine SC.w ?_;refine S.ld 1 ?_ (hi:=I _ _ _ h0);refine S.len ?_ (hl:=aa.len hw);refine S.bin ?_;refine SW.loop (fun m E ψ R=>O.Le ψ/\m<=wl.length/\d m ψ R/\Sub [(0,.fp l),(1,.ptr A 0),(3,.j ((m:Int)-1))] E) (m:=wl.length) ⟨.refl O,aB _,h0,.r rfl⟩ ?_;intro m E ψ R ae ⟨h,ag,hi,Q⟩;refine C.sub Q ?_;refine S.bin ?_;refine C.D (fun Pc=>?_) fun Pc=>?_
 ·obtain⟨j,rfl⟩:∃j,m=j+1:=⟨m-1,by omega⟩
  have hj:j<wl.length:=by omega
  have M:(((j+1:Nat):Int)-1)=(j:Int):=by omega
  rw[M];refine S.ld 1 ?_ (hi:=I _ _ _ hi);refine S.aF (hw.mono h) hj fun ah ab=>?_;refine S.bJ ?_ (l:=j5.f wl[j]);refine S.yield (Z j hj ψ R h hi) fun q G o L hq=>?_;refine S.un ?_;refine C.B (fun OY=>?_) fun OY=>?_
  ·have W:q=false:=by simpa using OY
   exact hd _ _ _ (h.trans L) (hq.2 W)
  ·have Y:q=true:=by simpa using OY
   refine S.bin ?_;exact⟨j,by omega,h.trans L,by omega,hq.1 Y,.r rfl⟩
 ·have U:m=0:=by omega
  subst U;show P.n _ _ _;exact hn _ _ _ h hi
def BV (e:T V) (fn nt:Nat) (l o a5 a4 a3 h d:Pa) (st:LoopState) (A:Option k6) (s:Bs) (ok:Bool) (i:Int) (wv:V) (D:List V):List Ob:=
 [(some l,.loop {state:=st,pending:=A,fn:=fn,nt:=nt,env:=e,params:=[pa 19,pa 20]}),(some o,.cells [wv] false),(some d,.cells D false),(some a5,.cells [.bool ok] false),(some a4,.cells [.str s] false),(some a3,.cells [.j i] false),(some h,.cells D false)]
theorem Mo [Fx F] {cs:List V} {d:au} {i:Int} (hd:cu O cs d) (an:d.wait.length<=1000000):bm F 100 [.agg cs,.j i] O (.aN [.str (d.read i).1,.bool (d.read i).2]):=by
 obtain⟨L,wv,rfl,hl,hw,sl,ap⟩:=hd.open;refine ai.al (ar ?_);refine S.box fun ac=>?_;refine S.box fun a3=>?_;refine S.alloc fun a4=>?_;refine S.alloc fun a5=>?_;refine S.ag 3 ?_ (l:=[L,wv,.j d.arm,.bool d.down]);refine S.build ?_ (l:=[L,wv,.j d.arm,.bool d.down]);refine S.box fun Y=>?_;refine S.ld 3 ?_;refine S.ba 0 rfl (Ml (wv:=wv) (i:=i) hl) fun aC aE av az o=>?_;obtain⟨o,rfl,rfl⟩:=o;have o:=o.symm;subst o;refine S.un ?_;refine C.B (fun OX=>?_) fun OX=>?_
 ·have e:d.read i=([],false):=by unfold au.read;rw[ab (by intro h;rw[h]at OX;cases OX)]
  rw[e];refine S.store 2 ?_;refine S.store 1 ?_;exact⟨_,.eH 2 rfl rfl rfl (.eH 1 rfl rfl rfl .nil),.none rfl⟩
 ·have U:d.has i=true:=by simpa using OX
  refine S.ld 4 ?_;refine S.call (Mm ap) fun aD aH aw aA A=>?_;obtain⟨A,Z,rfl,rfl⟩:=A;have A:=A.symm;subst A;have hw:=hw;refine SW.ze (Fx.h (f:=212) rfl) rfl fun l e he=>?_;refine Mn (wl:=d.wait) (fun j ψ R=>O.Le ψ/\(d.wait.drop j).all (fun p=>!decide (p.at_=i))=true/\R=BV e 100 32 l Z a5 a4 a3 ac Y .ready none [] false i wv [L,wv,.j d.arm,.bool d.down]) (fun ψ R=>O.Le ψ/\∃s,d.read i=(s,true)/\R=BV e 100 32 l Z a5 a4 a3 ac Y .done (some .ret) s true i wv [L,wv,.j d.arm,.bool d.down]) hw an ⟨.refl O,by rw[b6];(try rfl),rfl⟩ (fun j ψ R h=>by obtain⟨_,_,rfl⟩:=h;rfl) ?ao ?hn ?hd
  case hd=>
   intro ak ψ W aj am;obtain⟨I,s,M,D⟩:=am;subst D;refine⟨_,_,rfl,(by intro h;cases h),.inr ⟨rfl,?_⟩⟩;exact⟨_,.eH 3 rfl rfl rfl (.eH 2 rfl rfl rfl .nil),.none (by rw[M];(try rfl))⟩
  case ao=>
   intro j hj ψ W aj Q;obtain⟨I,G,D⟩:=Q;subst D;refine oD.round (r:={state:=.ready,pending:=none,fn:=100,nt:=32,env:=e,params:=[pa 19,pa 20]}) rfl rfl ((he.set 19 _).set 20 _) ?_;refine SC.w ?_;refine S.alloc fun dL=>?_;refine S.store 0 ?_;refine SC.w ?_;refine S.ld 0 ?_;refine S.ld 5 ?_;refine S.bin ?_;refine SW.sS (.t rfl) (fun O8=>SC.w ?_) fun O8=>SW.fin (.drop 0 (.done (SW.skip ?_)))
   ·refine S.ld 0 ?_;refine S.drop 0 ?_;refine S.store 3 ?_;refine S.store 2 ?_;have M:d.read i=((d.wait[j]).b,true):=by unfold au.read;rw[ae U,zp hj G O8];(try rfl)
    exact⟨fun h=>(by cases h),fun _=>⟨I,(d.wait[j]).b,M,rfl⟩⟩
   ·exact⟨fun _=>⟨I,zr hj G (by simpa using O8),rfl⟩,fun h=>by cases h⟩
  intro ak aI W aj Q;obtain⟨I,G,D⟩:=Q;subst D;refine⟨_,_,rfl,(by intro h;cases h),.inl ⟨rfl,?_⟩⟩;have hl:=hl.mono I;rw[nb]at G;have ah:=U;unfold au.has at ah;simp only[be,aR]at ah;obtain⟨k,rfl⟩:∃k:Nat,i=(k:Int):=⟨i.toNat,by omega⟩
  have hk:k<d.last.length:=by omega
  refine S.ld 5 ?_;refine S.ld 4 ?_;refine S.aF hl hk fun aB ay=>?_;refine S.a1 ?_;refine S.store 3 ?_;refine S.store 2 ?_;have e:d.read k=(d.last[k],true):=by
   unfold au.read;rw[ae U,zq G,hC,bj hk];(try rfl)
  rw[e];exact⟨_,.eH 3 rfl rfl rfl (.eH 2 rfl rfl rfl .nil),.none rfl⟩
set_option maxHeartbeats 1000000
theorem jr [Fx F] {a:Pa} {o:V} {s:cL} {n:Nat} (d:aa aU O o s.1) (hn:n<=4) (I:s.1.length<=1000000):ai F 195 [.ptr a 0,.j (n:Int)] O [(some a,.cells [o,.bool s.2] false)] (fun r ψ R=>ψ=O/\r=.j (rdNum n s).1/\∃A,R=[(some a,.cells [A,.bool (rdNum n s).2.2] false)]/\aa aU O A (rdNum n s).2.1) never:=by
 have M:=d.ax;refine ai.same (ar ?_);refine S.ld 0 ?_;refine S.al (tN (n:=n) d (by omega) I) ?_;refine S.ld 0 ?_;refine G.mv ?_;refine G.un ?_;refine G.or ?_;refine S.store 0 ?_;refine S.ld 0 ?_;refine C.B (fun Pn=>?_) fun Pn=>?_
 ·have e:rdNum n s=(0,(s.1,true)):=by unfold rdNum;rw[ae Pn]
  rw[e,Pn];exact⟨_,.t rfl .nil,.done ⟨rfl,o,rfl,d⟩⟩
 ·have e:rdNum n s=((cf s.1 n).1,(s.1.drop n,false)):=by unfold rdNum;rw[ab (by rw[Pn];simp)]
  have hk:n<=s.1.length:=by
   have aj:(cf s.1 n).2=true:=by cases h:(cf s.1 n).2<;>simp[h]at Pn⊢
   unfold cf at aj;split at aj
   ·cases aj
   ·omega
  obtain⟨w,L,D⟩:=aa.lo d hk;have Q:=D.ax;rw[e,Pn];refine S.ld 0 ?_;refine S.slice L ?_;refine S.fB 0 ?_;exact⟨_,.t rfl .nil,.done ⟨rfl,w,rfl,D⟩⟩
theorem BW [Fx F] {a:Pa} {j:V} {s:cL} (A:aa aU O j s.1) (Q:s.1.length<=1000000):ai F 231 [.ptr a 0] O [(some a,.cells [j,.bool s.2] false)] (fun r ψ R=>ψ=O/\r=.agg (aq.f (fi s).1)/\∃o,R=[(some a,.cells [o,.bool (fi s).2.2] false)]/\aa aU O o (fi s).2.1) never:=by
 have M:=dh 2 s;refine ai.same (ar ?_);refine S.alloc fun L=>?_;refine S.ba 1 rfl (jr (s:=s) (n:=2) A (by omega) (by omega)) fun v5 ac G U d=>?_;obtain⟨d,rfl,Z,rfl,B⟩:=d;have d:=d.symm;subst d;have d:=B;refine S.ba 0 rfl (jr (s:=(rdNum 2 s).2) (n:=4) d (by omega) (by omega)) fun Y ae I W h=>?_;obtain⟨h,rfl,ab,rfl,D⟩:=h;have h:=h.symm;subst h;have h:=D;refine S.build ?_;refine S.store 1 ?_;exact⟨_,.cN 1 rfl rfl rfl rfl .nil,.only 0 ⟨rfl,_,rfl,h⟩⟩
theorem w8 (s:cL):0<=(rdNum 1 s).1/\(rdNum 1 s).1<=255:=by
 have d:0<=(cf s.1 1).1/\(cf s.1 1).1<=255:=by
  unfold cf;split
  ·exact⟨by decide,by decide⟩
  ·refine⟨vG _,?_⟩;have o:=vH (s.1.take 1);have j:(256:Int)^(s.1.take 1).length<=256:=by
    have:(s.1.take 1).length=0\/(s.1.take 1).length=1:=by rw[cE];omega
    rcases this with h|h<;>rw[h]<;>decide
   show dB (s.1.take 1)<=255;omega
 unfold rdNum;split
 ·exact⟨ej 0,(by decide:(0:Int)<=255)⟩
 ·exact d
theorem BX [Fx F] {a:Pa} {U:V} {s:cL} (ac:aa aU O U s.1) (aE:s.1.length<=1000000):ai F 196 [.ptr a 0] O [(some a,.cells [U,.bool s.2] false)] (fun r ψ R=>ψ=O/\∃W q,R=[(some a,.cells [W,.bool (gX s).2.2] false),aq.ob q (gX s).1]/\aa aU O W (gX s).2.1/\af aq r (gX s).1 q) never:=by
 have ay:=dh 1 s;have aH:=w8 s;refine ai.same (ar ?_);refine S.ba 0 rfl (jr (s:=s) (n:=1) ac (by omega) (by omega)) fun aK aM av aJ o=>?_;obtain⟨o,rfl,ap,rfl,al⟩:=o;have o:=o.symm;subst o;have o:=al;obtain⟨M,Y⟩:∃k:Nat,(rdNum 1 s).1=(k:Int):=⟨(rdNum 1 s).1.toNat,by omega⟩
 have ae:gX s=jK M (rdNum 1 s).2 []:=by unfold gX;rw[Y,hC]
 rw[ae,Y];refine SW.new aq ?_;refine SW.bF (fun m E ψ R=>∃(d:cL) (A:List ah) (w v:V) (q:Option Pa),jK m d A=jK M (rdNum 1 s).2 []/\d.1.length<=1000000/\A.length+m<=255/\O=ψ/\aa aU O w d.1/\R=[(some a,.cells [w,.bool d.2] false),aq.ob q A]/\af aq v A q/\Sub [(0,.ptr a 0),(3,v),(4,.j (m:Int))] E) (m:=M) (.front 1 rfl (.done ⟨(rdNum 1 s).2,[],ap,.no .sl,none,rfl,by omega,by simp;omega,rfl,o,rfl,af.nil,.r rfl⟩)) ?_;intro Q E ψ R aF ab;obtain⟨d,A,w,v,q,I,ag,aC,rfl,hw,rfl,ho,Z⟩:=ab;refine C.sub Z ?_;refine S.bin ?_;refine G.mv ?_;refine G.nil? ?_;refine G.aD ?_;refine G.ld 0 ?_;refine G.un ?_;refine G.and ?_;refine C.B (fun OX=>?_) fun OX=>?_
 ·simp only[be,c3,aR]at OX;obtain⟨L,rfl⟩:∃L,Q=L+1:=⟨Q-1,by omega⟩
  rw[zX OX.2]at I;have aA:=dh 2 d;have aB:=dh 4 (rdNum 2 d).2;have az:(fi d).2.1.length<=d.1.length:=by unfold fi;simp only;omega
  refine S.ba 0 rfl (BW (s:=d) hw ag) fun v20 aL au aI D=>?_;obtain⟨D,rfl,ao,rfl,ak⟩:=D;have D:=D.symm;subst D;refine S.a8 fun aw=>?_;refine S.br (m:=[(fi d).1]) 2 ho (.lit 0) (by simp;omega) fun v22 an am=>?_;refine S.drop 0 ?_;refine S.mv ?_;refine S.bin ?_ (v:=.j (L:Int)) (hv:=by rw[fU (by omega) (by omega)];congr 2;omega);exact⟨L,by omega,.done ⟨(fi d).2,A++[(fi d).1],ao,v22,an,I,by omega,by simp;omega,rfl,ak,rfl,am,.r rfl⟩⟩
 ·have aj:Q=0\/d.2=true:=by
   simp only[iF,bD,du]at OX;rcases OX with h|h
   ·exact .inl (by omega)
   ·exact .inr h
  rw[zW aj]at I;rw[<-I];exact⟨_,.t rfl .nil,.done ⟨_,q,rfl,hw,ho⟩⟩
def okB (m n:Int):Bool:=decide (0<=n)&&decide (n<=m)
def dE (b:Bool) (n m:Int):Bool:=b||decide (n<0)||decide (m<n)
theorem mO (b:Bool) (n m:Int):dE b n m=(b||!okB m n):=by
 unfold dE okB;by_cases o:n<0
 ·simp[o]
 ·have aj:0<=n:=by omega
  by_cases d:m<n
  ·simp[d]
  ·have h:n<=m:=by omega
   simp[o,aj,d,h]
theorem nR (m:Int):∀(l:List Int) (b:Bool),l.foldl (fun b n=>dE b n m) b=(b||!l.all (okB m))
 |[],b=>by simp
 |n::l,b=>by rw[gK,nR m l,mO,k4];cases b<;>cases okB m n<;>simp
def ki (b:Bool) (p:List ah):Bool:=p.foldl (fun b q=>dE (dE b q.addr 65535) q.gen 1073741824) b
theorem tO:∀(p:List ah) (b:Bool),ki b p=(b||!p.all dI)
 |[],b=>by simp[ki]
 |q::p,b=>by
  show ki (dE (dE b q.addr 65535) q.gen 1073741824) p=_;rw[tO p,mO,mO,k4];have:dI q=(okB 65535 q.addr&&okB 1073741824 q.gen):=rfl;rw[this];cases b<;>cases okB 65535 q.addr<;>cases okB 1073741824 q.gen<;>simp
def wB (a:Pa) (k g:Int) (ld:Bs) (bad:Bool):Ob:=(some a,.cells [.j k,.j g,.str ld,.bool bad] false)
theorem tP [Fx F] {a:Pa} {k g n dr:Int} {ld:Bs} {bad:Bool}:ai F 176 [.ptr a 0,.j n,.j dr] O [wB a k g ld bad] (fun r ψ R=>ψ=O/\r=.ptr a 0/\R=[wB a k g ld (dE bad n dr)]) never:=by
 refine ar ?_;refine S.ld 0 ?_;refine G.mv ?_;refine G.bin ?_;refine G.or ?_;refine G.mv ?_;refine G.mv ?_;refine G.bin ?_;refine G.or ?_;refine S.store 0 ?_;exact⟨_,.t rfl .nil,.done ⟨rfl,rfl,rfl⟩⟩
theorem tQ [Fx F] {k g:Int}:ai F 172 [.j k,.j g] O [] (fun r ψ R=>ψ=O/\∃a,r=.ptr a 0/\R=[wB a k g [] (dE false g 1073741824)]) never:=by
 refine ar ?_;refine S.build ?_ (l:=[.j k,.j g,.str []]);refine S.build ?_ (l:=[.j k,.j g,.str [],.bool false]);refine S.box fun h=>?_;refine S.ba 0 rfl (tP (a:=h) (k:=k) (g:=g) (ld:=[]) (bad:=false)) fun B D o A d=>?_;obtain⟨d,rfl,rfl⟩:=d;have d:=d.symm;subst d;exact⟨_,.t rfl .nil,.done ⟨rfl,h,rfl,rfl⟩⟩
theorem mP [Fx F] {a:Pa} {k g dr:Int} {ld:Bs} {bad:Bool} {n:Nat} {o:V} {l:List Int} (hl:aa bt O o l) (hn:1<=n) (Q:n<=4) (L:ld.length+l.length*n<=1000000) (M:l.length<=1000000):ai F 173 [.ptr a 0,.j (n:Int),.j dr,o] O [wB a k g ld bad] (fun r ψ R=>ψ=O/\R=[wB a k g (ld++bo n l) (l.foldl (fun b n=>dE b n dr) bad)]) never:=by
 refine ai.same (ar ?_);refine S.len ?_ (hl:=aa.len hl);refine SW.bF (fun m E ψ R=>∃j:Nat,j+m=l.length/\O=ψ/\R=[wB a k g ld ((l.take j).foldl (fun b n=>dE b n dr) bad)]/\Sub [(0,.ptr a 0),(1,.j (n:Int)),(2,.j dr),(3,o),(10,o),(11,.j (l.length:Int)),(12,.j (j:Int))] E) (m:=l.length) (.done ⟨0,by omega,rfl,rfl,.r rfl⟩) ?_;intro W E ψ R ae I;obtain⟨j,hj,rfl,rfl,G⟩:=I;refine C.sub G ?_;refine S.bin ?_;refine C.D (fun O6=>?_) fun O6=>?_
 ·have A:j<l.length:=by omega
  refine S.aF hl A fun aj ac=>?_;refine S.a1 ?_;refine S.ba 0 rfl (tP) fun al ao Z ag d=>?_;obtain⟨d,rfl,rfl⟩:=d;have d:=d.symm;subst d;refine S.bin ?_;exact⟨W-1,by omega,.done ⟨j+1,by omega,rfl,by rw[nK _ _ _ _ A];(try rfl),.r rfl⟩⟩
 ·obtain rfl:j=l.length:=by omega
  rw[dT];refine S.ld 0 ?_;refine S.jH fun am ap U B=>?_;have hl:=hl.mono U;refine S.call (rI (n:=n) B hl hn Q L M) fun an au ab ah h=>?_;obtain⟨h,ak,rfl,Y⟩:=h;have h:=h.symm;subst h;refine S.hM 0 Y ?_;refine S.store 1 ?_;exact⟨_,.nil,.only 1 rfl⟩
set_option maxHeartbeats 1000000
theorem Mp (p:ah):bo 2 [p.addr]++bo 4 [p.gen]=lP p:=by simp[bo,lP]
theorem w9 [Fx F] {a:Pa} {k g:Int} {ld:Bs} {bad:Bool} {o:V} {p:List ah} (hp:aa aq O o p) (ag:ld.length+p.length*6<=900000):ai F 175 [.ptr a 0,o] O [wB a k g ld bad] (fun _ ψ R=>ψ=O/\R=[wB a k g (ld++cM p) (ki bad p)]) never:=by
 refine ai.same (ar ?_);refine S.len ?_ (hl:=aa.len hp);refine SW.bF (fun m E ψ R=>∃j:Nat,j+m=p.length/\aa aq ψ o p/\R=[wB a k g (ld++cM (p.take j)) (ki bad (p.take j))]/\Sub [(0,.ptr a 0),(1,o),(6,o),(7,.j (p.length:Int)),(8,.j (j:Int))] E) (m:=p.length) (.done ⟨0,by omega,hp,by simp[cM,ki],.r rfl⟩) ?_;intro W E ψ R aj M;obtain⟨j,hj,hp,rfl,L⟩:=M;refine C.sub L ?_;refine S.bin ?_;refine C.D (fun O7=>?_) fun O7=>?_
 ·have A:j<p.length:=by omega
  have hlen:(cM (p.take j)).length=6*j:=by rw[re,cE,hD (by omega)]
  refine S.aF hp A fun am ae=>?_;refine S.bJ ?_ (l:=aq.f p[j]);refine S.alloc fun a5=>?_;refine S.store 0 ?_;refine S.ld 0 ?_;refine S.a8 fun B=>?_;have Y:af bt (.sl B 0 1 (.ex 1)) [p[j].addr] (some B):=af.new rfl;refine S.cd 0 Y fun ap Q G=>?_;refine S.ba 1 rfl (mP (n:=2) G (by omega) (by omega) (by rw[c2,hlen];simp;omega) (by simp)) fun an au ab ak d=>?_;obtain⟨d,rfl⟩:=d;have d:=d.symm;subst d;refine S.ld 1 ?_;refine S.a8 fun a20=>?_;have Z:af bt (.sl a20 0 1 (.ex 1)) [p[j].gen] (some a20):=af.new rfl;refine S.cd 0 Z fun av U I=>?_;refine S.ba 0 rfl (mP (n:=4) I (by omega) (by omega) (by rw[c2,c2,hlen];simp[fW];omega) (by simp)) fun ao aw ac al h=>?_;obtain⟨h,rfl⟩:=h;have h:=h.symm;subst h;refine S.bin ?_;refine⟨W-1,by omega,.drop 1 (.done ⟨j+1,by omega,((hp.mono Q).mono U),?_,.r rfl⟩)⟩;rw[wa A,<-Mp];unfold ki;rw[nK _ _ _ _ A,<-bp,<-bp];(try rfl)
 ·obtain rfl:j=p.length:=by omega
  rw[dT];exact⟨_,.nil,.done rfl⟩
def hy (k g:Int) (ld:Bs) (bad:Bool):aT:=if bad||decide (55<ld.length)then fA else⟨k,g,ld⟩
theorem tR [Fx F] {a:Pa} {k g:Int} {ld:Bs} {bad:Bool}:ai F 174 [.ptr a 0] O [wB a k g ld bad] (fun r ψ R=>ψ=O/\r=.agg (bu.f (hy k g ld bad))/\R=[wB a k g ld bad]) never:=by
 have hd:(bad||decide ((55:Int)<(ld.length:Int)))=(bad||decide (55<ld.length)):=by rw[show decide ((55:Int)<(ld.length:Int))=decide (55<ld.length)from decide_eq_decide.2 (by omega)]
 refine ar ?_;refine S.alloc fun d=>?_;refine S.ld 1 ?_;refine G.mv ?_;refine G.nil? ?_;refine G.aD ?_;refine G.aD ?_;refine G.ld 1 ?_;refine G.cb ?_;refine G.bin ?_;refine G.or ?_;refine C.B (fun OX=>?_) fun OX=>?_
 ·have e:hy k g ld bad=fA:=by unfold hy;rw[ae (by rw[<-hd];exact OX)]
  rw[e];refine S.build ?_;refine S.store 0 ?_;exact⟨_,.cN 0 rfl rfl rfl rfl .nil,.only 1 ⟨rfl,rfl,rfl⟩⟩
 ·have e:hy k g ld bad=⟨k,g,ld⟩:=by unfold hy;rw[ab (by rw[<-hd,OX];simp)]
  rw[e];refine S.ag 1 ?_ (l:=[.j k,.j g,.str ld]);refine S.store 0 ?_;exact⟨_,.cN 0 rfl rfl rfl rfl .nil,.only 1 ⟨rfl,rfl,rfl⟩⟩
theorem Mq (gen:Int) (r:bA):hy 1 gen ([]++bo 1 [r.ino,r.idx]++r.load) ([r.ino,r.idx].foldl (fun b n=>dE b n 255) (dE false gen 1073741824))=fZ gen r:=by
 rw[nR,mO];unfold hy fZ;have d:([]++bo 1 [r.ino,r.idx]++r.load)=[bM r.ino,bM r.idx]++r.load:=by simp[bo,le]
 rw[d];have j:q5 gen r=(okB 1073741824 gen&&(okB 255 r.ino&&okB 255 r.idx)&&decide (r.load.length<=53)):=by
  unfold q5 e1 kO okB;cases decide (0<=gen)<;>cases decide (gen<=1073741824)<;>cases decide (0<=r.ino)<;>cases decide (r.ino<=255)<;>cases decide (0<=r.idx)<;>cases decide (r.idx<=255)<;>rfl
 have o:decide (55<([bM r.ino,bM r.idx]++r.load).length)=!decide (r.load.length<=53):=by
  simp only[c2,b7,na];by_cases h:r.load.length<=53
  ·rw[decide_eq_true h,decide_eq_false (by omega)];(try rfl)
  ·rw[decide_eq_false h,decide_eq_true (by omega)];(try rfl)
 rw[j,o];simp only[k4,qo,k5,jw];cases okB 1073741824 gen<;>cases okB 255 r.ino<;>cases okB 255 r.idx<;>cases decide (r.load.length<=53)<;>rfl
theorem Mr [Fx F] {gen:Int} {r:bA} (R:r.load.length<=1000000):bm F 108 [.j gen,.agg [.j r.ino,.j r.idx,.str r.load]] O (.agg (bu.f (fZ gen r))):=by
 refine ai.al (ar ?_);refine S.box fun a3=>?_;refine S.alloc fun a4=>?_;refine S.call (tQ (k:=1) (g:=gen)) fun ae ak M Z o=>?_;obtain⟨o,Q,rfl,rfl⟩:=o;have o:=o.symm;subst o;refine S.ld 2 ?_;refine S.ld 2 ?_;refine S.a8 fun A=>?_;have G:af bt (.sl A 0 2 (.ex 2)) [r.ino,r.idx] (some A):=af.new rfl;refine S.cd 0 G fun ag U D=>?_;refine S.ba 0 rfl (mP (n:=1) D (by omega) (by omega) (by simp<;>omega) (by simp)) fun ab ah I W d=>?_;obtain⟨d,rfl⟩:=d;have d:=d.symm;subst d;refine S.ld 0 ?_;refine S.ld 2 ?_;refine S.bin ?_ (hv:=my (by simp[fW];omega));refine S.store 0 ?_;refine S.ba 0 rfl (tR) fun ac aj L Y h=>?_;obtain⟨h,rfl,rfl⟩:=h;have h:=h.symm;subst h;have B:hy 1 gen ([]++bo 1 [r.ino,r.idx]++r.load) ([r.ino,r.idx].foldl (fun b n=>dE b n 255) (dE false gen 1073741824))=fZ gen r:=Mq gen r;rw[B];refine S.store 1 ?_;exact⟨_,.cN 1 rfl rfl rfl rfl .nil,.none rfl⟩
set_option maxHeartbeats 2000000
theorem BY {l:Bs} (h:2<=l.length):rdNum 1 (rdNum 1 (l,false)).2=((((l[1]?).getD 0).toNat:Int),(l.drop 2,false))/\(rdNum 1 (l,false)).1=(((l[0]?).getD 0).toNat:Int):=by
 obtain⟨a,b,r,rfl⟩:∃a b r,l=a::b::r:=by
  cases l with
  |nil=>simp at h
  |cons a l=>cases l with
   |nil=>simp at h
   |cons b r=>exact⟨a,b,r,rfl⟩
 simp[rdNum,cf,dB]
theorem Ms {l:Bs} (h:¬2<=l.length):(rdNum 1 (rdNum 1 (l,false)).2).2.2=true:=by
 cases l with
 |nil=>simp[rdNum,cf]
 |cons a l=>cases l with
  |nil=>simp[rdNum,cf]
  |cons b r=>simp at h
theorem Mt (n:Int):e1 n=okB 1073741824 n:=rfl
theorem tS (n:Nat) (m:Nat):okB (m:Int) (n:Int)=decide (n<=m):=by
 unfold okB;rw[decide_eq_true (show(0:Int)<=(n:Int) by omega),gL];exact decide_eq_decide.2 (by omega)
theorem Mu (gen:Int) (r:cK) (p:List ah) (hp:p.length<=100000):hy 3 gen ([]++bo 1 [r.kind]++bo 4 [r.id,r.cZ,r.base,r.done]++bo 1 [(p.length:Int)]++cM p)
 (ki ([(p.length:Int)].foldl (fun b n=>dE b n 255) ([r.id,r.cZ,r.base,r.done].foldl (fun b n=>dE b n 1073741824) ([r.kind].foldl (fun b n=>dE b n 255) (dE (dE false gen 1073741824) (p.length:Int) 6)))) p)=ey gen r p:=by
 rw[tO,nR,nR,nR,mO,mO];unfold hy ey;have h:([]++bo 1 [r.kind]++bo 4 [r.id,r.cZ,r.base,r.done]++bo 1 [(p.length:Int)]++cM p)=le 1 r.kind++bo 4 [r.id,r.cZ,r.base,r.done]++le 1 (p.length:Int)++cM p:=by simp[bo]
 rw[h];have hlen:(le 1 r.kind++bo 4 [r.id,r.cZ,r.base,r.done]++le 1 (p.length:Int)++cM p).length=18+6*p.length:=by simp[fz,fW,re];omega
 rw[hlen];have A:okB 6 (p.length:Int)=decide (p.length<=6):=tS p.length 6;have o:okB 255 (p.length:Int)=decide (p.length<=255):=tS p.length 255;have j:kQ gen r p=(okB 1073741824 gen&&decide (p.length<=6)&&okB 255 r.kind&&okB 1073741824 r.id&&okB 1073741824 r.cZ&&okB 1073741824 r.base&&okB 1073741824 r.done&&p.all dI):=rfl;rw[j];simp only[k4,qo,k5,jw,A,o];by_cases d:p.length<=6
 ·rw[decide_eq_true d,decide_eq_true (show p.length<=255 by omega),decide_eq_false (show¬55<18+6*p.length by omega)];cases okB 1073741824 gen<;>cases okB 255 r.kind<;>cases okB 1073741824 r.id<;>cases okB 1073741824 r.cZ<;>cases okB 1073741824 r.base<;>cases okB 1073741824 r.done<;>cases p.all dI<;>rfl
 ·rw[decide_eq_false d];simp
theorem Mv (gen next id:Int) (p:List ah) (hp:p.length<=100000):hy 4 gen ([]++bo 4 [next,id]++bo 1 [(p.length:Int)]++cM p)
 (ki ([(p.length:Int)].foldl (fun b n=>dE b n 255) ([next,id].foldl (fun b n=>dE b n 1073741824) (dE (dE false gen 1073741824) (p.length:Int) 7))) p)=eM gen next id p:=by
 rw[tO,nR,nR,mO,mO];unfold hy eM;have h:([]++bo 4 [next,id]++bo 1 [(p.length:Int)]++cM p)=bo 4 [next,id]++le 1 (p.length:Int)++cM p:=by simp[bo]
 rw[h];have hlen:(bo 4 [next,id]++le 1 (p.length:Int)++cM p).length=9+6*p.length:=by simp[fz,fW,re];omega
 rw[hlen];have A:okB 7 (p.length:Int)=decide (p.length<=7):=tS p.length 7;have o:okB 255 (p.length:Int)=decide (p.length<=255):=tS p.length 255;have j:kR gen next id p=(okB 1073741824 gen&&okB 1073741824 next&&okB 1073741824 id&&decide (p.length<=7)&&p.all dI):=rfl
 rw[j];simp only[k4,qo,k5,jw,A,o];by_cases d:p.length<=7
 ·rw[decide_eq_true d,decide_eq_true (show p.length<=255 by omega),decide_eq_false (show¬55<9+6*p.length by omega)];cases okB 1073741824 gen<;>cases okB 1073741824 next<;>cases okB 1073741824 id<;>cases p.all dI<;>rfl
 ·rw[decide_eq_false d];simp
theorem Mw (i:bO):bo 1 [i.1.ino,i.1.idx]++cM [i.2]=pV i:=by simp[bo,pV,cM]
def lX (b:Bool) (l:List bO):Bool:=l.foldl (fun b i=>ki ([i.1.ino,i.1.idx].foldl (fun b n=>dE b n 255) b) [i.2]) b
theorem BZ:∀(l:List bO) (b:Bool),lX b l=(b||!l.all kP)
 |[],b=>by simp[lX]
 |i::l,b=>by
  show lX (ki ([i.1.ino,i.1.idx].foldl (fun b n=>dE b n 255) b) [i.2]) l=_;rw[BZ l,tO,nR];have:kP i=(okB 255 i.1.ino&&okB 255 i.1.idx&&dI i.2):=rfl;simp only[k4,qo,k5,this];cases b<;>cases okB 255 i.1.ino<;>cases okB 255 i.1.idx<;>cases dI i.2<;>simp
theorem Mx (gen:Int) (l:List bO) (hl:l.length<=6):hy 2 gen ([]++fC l) (lX (dE false gen 1073741824) l)=gW gen l:=by
 rw[BZ,mO];unfold hy gW;rw[fo,wb,decide_eq_false (show¬55<8*l.length by omega),Mt];cases okB 1073741824 gen<;>cases l.all kP<;>rfl
theorem My [Fx F] {gen:Int} {r:cK} {Q:V} {p:List ah} (hp:aa aq O Q p) (Z:p.length<=100000):bm F 112 [.j gen,.agg [.j r.kind,.j r.id,.j r.cZ,.j r.base,.j r.done],Q] O (.agg (bu.f (ey gen r p))):=by
 refine ai.al (ar ?_);refine S.box fun a4=>?_;refine S.alloc fun ay=>?_;refine S.call (tQ (k:=3) (g:=gen)) fun v9 aZ aw aH G=>?_;obtain⟨G,az,rfl,rfl⟩:=G;have G:=G.symm;subst G;refine S.len ?_ (hl:=aa.len hp);refine S.ba 0 rfl (tP) fun aI aP am aA d=>?_;obtain⟨d,rfl,rfl⟩:=d;have d:=d.symm;subst d;refine S.ld 2 ?_;refine S.a8 fun I=>?_;have ag:af bt (.sl I 0 1 (.ex 1)) [r.kind] (some I):=af.new rfl;refine S.cd 0 ag fun aQ ab U=>?_;refine S.ba 0 rfl (mP (n:=1) U (by omega) (by omega) (by simp[fW]<;>omega) (by simp)) fun aJ aR an aB h=>?_;obtain⟨h,rfl⟩:=h;have h:=h.symm;subst h;refine S.ld 2 ?_;refine S.ld 2 ?_;refine S.ld 2 ?_;refine S.ld 2 ?_;refine S.a8 fun L=>?_;have aj:af bt (.sl L 0 4 (.ex 4)) [r.id,r.cZ,r.base,r.done] (some L):=af.new rfl;refine S.cd 0 aj fun aS ac W=>?_;refine S.ba 0 rfl (mP (n:=4) W (by omega) (by omega) (by simp[fW]<;>omega) (by simp)) fun aK aT ao aC o=>?_;obtain⟨o,rfl⟩:=o;have o:=o.symm;subst o;refine S.len ?_ (hl:=aa.len hp);refine S.a8 fun M=>?_;have ak:af bt (.sl M 0 1 (.ex 1)) [(p.length:Int)] (some M):=af.new rfl;refine S.cd 0 ak fun aU ae Y=>?_;refine S.ba 0 rfl (mP (n:=1) Y (by omega) (by omega) (by simp[fW]<;>omega) (by simp)) fun aL aV ap aD A=>?_;obtain⟨A,rfl⟩:=A;have A:=A.symm;subst A;refine S.ba 0 rfl (w9 (hp.mono ab|>.mono ac|>.mono ae) (by simp[fW];omega)) fun aM aW au aE B=>?_;obtain⟨B,rfl⟩:=B;have B:=B.symm;subst B;refine S.ba 0 rfl (tR) fun aO aX av aF D=>?_;obtain⟨D,rfl,rfl⟩:=D;have D:=D.symm;subst D;have R:hy 3 gen ([]++bo 1 [r.kind]++bo 4 [r.id,r.cZ,r.base,r.done]++bo 1 [(p.length:Int)]++cM p) _=ey gen r p:=Mu gen r p Z;rw[R];refine S.store 1 ?_;exact⟨_,.cN 1 rfl rfl rfl rfl .nil,.none rfl⟩
theorem Mz [Fx F] {gen next id:Int} {L:V} {p:List ah} (hp:aa aq O L p) (U:p.length<=100000):bm F 197 [.j gen,.j next,.j id,L] O (.agg (bu.f (eM gen next id p))):=by
 refine ai.al (ar ?_);refine S.alloc fun dL=>?_;refine S.call (tQ (k:=4) (g:=gen)) fun az aF ac ao d=>?_;obtain⟨d,an,rfl,rfl⟩:=d;have d:=d.symm;subst d;refine S.len ?_ (hl:=aa.len hp);refine S.ba 0 rfl (tP) fun aA aH ae ap h=>?_;obtain⟨h,rfl,rfl⟩:=h;have h:=h.symm;subst h;refine S.a8 fun G=>?_;have Z:af bt (.sl G 0 2 (.ex 2)) [next,id] (some G):=af.new rfl;refine S.cd 0 Z fun aI W Q=>?_;refine S.ba 0 rfl (mP (n:=4) Q (by omega) (by omega) (by simp[fW]<;>omega) (by simp)) fun aB aJ ag au o=>?_;obtain⟨o,rfl⟩:=o;have o:=o.symm;subst o;refine S.len ?_ (hl:=aa.len hp);refine S.a8 fun I=>?_;have ab:af bt (.sl I 0 1 (.ex 1)) [(p.length:Int)] (some I):=af.new rfl;refine S.cd 0 ab fun aK Y R=>?_;refine S.ba 0 rfl (mP (n:=1) R (by omega) (by omega) (by simp[fW]<;>omega) (by simp)) fun aC aL aj av A=>?_;obtain⟨A,rfl⟩:=A;have A:=A.symm;subst A;refine S.ba 0 rfl (w9 (hp.mono W|>.mono Y) (by simp[fW];omega)) fun aD aM ak aw B=>?_;obtain⟨B,rfl⟩:=B;have B:=B.symm;subst B;refine S.ba 0 rfl (tR) fun aE aO am ay D=>?_;obtain⟨D,rfl,rfl⟩:=D;have D:=D.symm;subst D;have M:hy 4 gen ([]++bo 4 [next,id]++bo 1 [(p.length:Int)]++cM p) _=eM gen next id p:=Mv gen next id p U
 rw[M];refine S.store 1 ?_;exact⟨_,.cN 1 rfl rfl rfl rfl .nil,.none rfl⟩
theorem MA [Fx F] {x:aT} (hx:x.load.length<=1000000):bm F 233 [.agg [.j x.kind,.j x.gen,.str x.load]] O (.aN [.agg (bq.f ((eh x).getD ⟨0,0,[]⟩)),.bool (eh x).isSome]):=by
 have ap:=dh 1 (x.load,false);have au:=dh 1 (rdNum 1 (x.load,false)).2;have ao:(x.load,false).1.length<=1000000:=hx;refine ai.al (ar ?_);refine S.box fun ah=>?_;refine S.alloc fun am=>?_;refine S.ld 1 ?_;refine S.jH fun Y aH aw M=>?_;have aA:=M.ax;refine S.build ?_ (l:=[Y,.bool false]);refine S.box fun ak=>?_;refine S.ba 0 rfl (jr (s:=(x.load,false)) (n:=1) M (by omega) (by omega)) fun aB aI Z ay h=>?_;obtain⟨h,rfl,aE,rfl,R⟩:=h;have h:=h.symm;subst h;have h:=R;refine S.ba 0 rfl (jr (s:=(rdNum 1 (x.load,false)).2) (n:=1) h (by omega) (by omega)) fun aC aJ ac az o=>?_;obtain⟨o,rfl,aF,rfl,U⟩:=o;have o:=o.symm;subst o;have o:=U;refine S.ld 0 ?_;refine S.tg o ?_;refine S.build ?_;refine S.alloc fun an=>?_;obtain⟨ad,A⟩:∃ad:bA,ad=⟨(rdNum 1 (x.load,false)).1,(rdNum 1 (rdNum 1 (x.load,false)).2).1,(rdNum 1 (rdNum 1 (x.load,false)).2).2.1⟩:=⟨_,rfl⟩
 have Q:ad.load.length<=1000000:=by rw[A];simp only;omega
 refine S.store (v:=.agg [.j ad.ino,.j ad.idx,.str ad.load]) 0 ?_ (hx:=by rw[A];exact .t rfl);refine S.ld 1 ?_;refine G.aD ?_;refine G.ld 3 ?_;refine G.bin ?_;refine G.or ?_;refine G.aD ?_;refine G.ld 3 ?_;refine G.ag 0 ?_ (l:=[.j ad.ino,.j ad.idx,.str ad.load]);refine G.ag 3 ?_ (l:=[.j x.kind,.j x.gen,.str x.load]);refine G.al (fun _=>Mr Q) ?_;refine G.dg 3 ?_ (l:=[.j x.kind,.j x.gen,.str x.load]) (hs:=by simp[same,b9,e0,fx]);refine G.bin ?_ (hv:=fun _=>nJ (fZ x.gen ad) x);refine G.or ?_;refine C.B (fun d=>?_) fun d=>?_
 ·have e:eh x=none:=by
   unfold eh;by_cases aj:x.kind=1/\2<=x.load.length
   ·rw[ae aj];obtain⟨I,L⟩:=BY aj.2;have D:ad=lQ x:=by rw[A,I,L];(try rfl)
    rw[I,D]at d;simp[aj.1]at d;rw[ab d]
   ·rw[ab aj]
  rw[e];refine S.build ?_;refine S.store 2 ?_;exact⟨_,.cN 2 rfl rfl rfl rfl (.t rfl .nil),.none rfl⟩
 ·have e:eh x=some ad:=by
   unfold eh;simp only[cg]at d;by_cases aj:2<=x.load.length
   ·obtain⟨I,L⟩:=BY aj;have D:ad=lQ x:=by rw[A,I,L];(try rfl)
    obtain⟨⟨av,k2⟩,W⟩:=d;rw[ae ⟨by simpa using k2,aj⟩,ae (by rw[<-D];simpa using W),D]
   ·rw[Ms aj]at d;exact absurd d.1.1 (by simp)
  rw[e];refine S.ag 0 ?_ (l:=[.j ad.ino,.j ad.idx,.str ad.load]);refine S.store 2 ?_;exact⟨_,.cN 2 rfl rfl rfl rfl (.t rfl .nil),.none rfl⟩
set_option maxHeartbeats 4000000
theorem MB [Fx F] {d v2:V} {a b:List aT} (o:aa bu O d a) (aj:aa bu O v2 b) (hlen:a.length<=1000000000):bm F 232 [d,v2] O (.bool (decide (a=b))):=by
 refine ai.al (ar ?_);refine S.len ?_ (hl:=aa.len o);refine S.len ?_ (hl:=aa.len aj);refine S.bin ?_;refine C.B (fun OU=>?_) fun OU=>?_
 ·have e:decide (a=b)=false:=by
   rw[bD];intro h;subst h;simp at OU
  rw[e];refine⟨_,.t rfl .nil,.done ?_⟩;rfl
 ·have hl:a.length=b.length:=by simp at OU;omega
  refine S.len ?_ (hl:=aa.len o);refine SW.bF (fun m E ψ R=>∃j:Nat,j+m=a.length/\decide (a=b)=decide (a.drop j=b.drop j)/\O=ψ/\R=[]/\Sub [(0,d),(1,v2),(11,d),(12,.j (a.length:Int)),(13,.j (j:Int))] E) (m:=a.length) (.done ⟨0,by omega,rfl,rfl,rfl,.r rfl⟩) ?_;intro L E ψ R U I;obtain⟨j,hj,hd,rfl,rfl,G⟩:=I;refine C.sub G ?_;refine S.bin ?_;refine C.D (fun O0=>?_) fun O0=>?_
  ·have ha:j<a.length:=by omega
   have A:j<b.length:=by omega
   refine S.aF o ha fun W M=>?_;refine S.bJ ?_ (l:=bu.f a[j]);refine S.aF aj A fun Y Q=>?_;refine S.bJ ?_ (l:=bu.f b[j]);refine S.bin ?_ (hv:=nJ a[j] b[j]);refine C.B (fun O8=>?_) fun O8=>?_
   ·have e:decide (a=b)=false:=by
     rw[hd,bD,pS ha A];intro h;simp[h.1]at O8
    rw[e];refine⟨_,.t rfl .nil,.done ?_⟩;rfl
   ·refine S.bin ?_;refine⟨L-1,by omega,.done ⟨j+1,by omega,?_,rfl,rfl,.r rfl⟩⟩;rw[hd];refine decide_eq_decide.2 ?_;rw[pS ha A];exact⟨fun h=>h.2,fun h=>⟨by simpa using O8,h⟩⟩
  ·have e:decide (a=b)=true:=by
    rw[hd,jS (by omega),jS (by omega)];(try rfl)
   rw[e];refine⟨_,.t rfl .nil,.done ?_⟩;rfl
theorem MC [Fx F] {d v2:V} {a b:List bA} (o:aa bq O d a) (aj:aa bq O v2 b) (hlen:a.length<=1000000000):bm F 235 [d,v2] O (.bool (decide (a=b))):=by
 refine ai.al (ar ?_);refine S.len ?_ (hl:=aa.len o);refine S.len ?_ (hl:=aa.len aj);refine S.bin ?_;refine C.B (fun OU=>?_) fun OU=>?_
 ·have e:decide (a=b)=false:=by
   rw[bD];intro h;subst h;simp at OU
  rw[e];refine⟨_,.t rfl .nil,.done ?_⟩;rfl
 ·have hl:a.length=b.length:=by simp at OU;omega
  refine S.len ?_ (hl:=aa.len o);refine SW.bF (fun m E ψ R=>∃j:Nat,j+m=a.length/\decide (a=b)=decide (a.drop j=b.drop j)/\O=ψ/\R=[]/\Sub [(0,d),(1,v2),(11,d),(12,.j (a.length:Int)),(13,.j (j:Int))] E) (m:=a.length) (.done ⟨0,by omega,rfl,rfl,rfl,.r rfl⟩) ?_;intro L E ψ R U I;obtain⟨j,hj,hd,rfl,rfl,G⟩:=I;refine C.sub G ?_;refine S.bin ?_;refine C.D (fun O0=>?_) fun O0=>?_
  ·have ha:j<a.length:=by omega
   have A:j<b.length:=by omega
   refine S.aF o ha fun W M=>?_;refine S.bJ ?_ (l:=bq.f a[j]);refine S.aF aj A fun Y Q=>?_;refine S.bJ ?_ (l:=bq.f b[j]);refine S.bin ?_ (hv:=zP a[j] b[j]);refine C.B (fun O8=>?_) fun O8=>?_
   ·have e:decide (a=b)=false:=by
     rw[hd,bD,pS ha A];intro h;simp[h.1]at O8
    rw[e];refine⟨_,.t rfl .nil,.done ?_⟩;rfl
   ·refine S.bin ?_;refine⟨L-1,by omega,.done ⟨j+1,by omega,?_,rfl,rfl,.r rfl⟩⟩;rw[hd];refine decide_eq_decide.2 ?_;rw[pS ha A];exact⟨fun h=>h.2,fun h=>⟨by simpa using O8,h⟩⟩
  ·have e:decide (a=b)=true:=by
    rw[hd,jS (by omega),jS (by omega)];(try rfl)
   rw[e];refine⟨_,.t rfl .nil,.done ?_⟩;rfl
theorem B0 (gen:Int):∀(f h:Nat) (l:List bO),l.length<=f->l.length<=h->gC gen f l=gC gen h l
 |f,h,[],_,_=>by rw[tq,tq]
 |0,h,a::l,o,_=>by simp at o
 |f+1,0,a::l,_,aj=>by simp at aj
 |f+1,h+1,a::l,o,aj=>by
  rw[tp (by simp),tp (by simp)];simp only[b7]at o aj;rw[B0 gen f h ((a::l).drop 6) (by simp;omega) (by simp;omega)]
theorem MD {b:Bool} {l:List bO} {j:Nat} (hj:j<l.length):lX b (l.take (j+1))=ki ([l[j].1.ino,l[j].1.idx].foldl (fun b n=>dE b n 255) (lX b (l.take j))) [l[j].2]:=by
 unfold lX;rw[nK _ _ _ _ hj]
theorem ME [Fx F] {gen:Int} {au o:V} {an:List bO} (hr:aa bq O au (an.map (·.1))) (hp:aa aq O o (an.map (·.2))) (hlen:an.length<=1000000):
 ai F 110 [.j gen,au,o] O [] (fun r ψ R=>ψ=O/\∃s,R=[bu.ob s (gD gen an)]/\af bu r (gD gen an) s) never:=by
 have M:(an.map (·.1)).length=an.length:=hS ..;have aI:(an.map (·.2)).length=an.length:=hS ..;obtain⟨w,hw,d⟩:=aa.hi hr (j:=an.length) (by omega);rw[<-M,dT]at d;refine ai.same (ar ?_);refine S.len ?_ (hl:=aa.len hr);rw[M];refine S.len ?_ (hl:=aa.len hp);rw[aI];refine S.kH (qU _ _) ?_;rw[Nat.min_self];refine S.slice hw ?_;refine SW.new bu ?_;refine SW.bF (fun m E ψ R=>∃(i:Nat) (out:List aT) (v:V) (s:Option Pa),m=an.length-i/\gD gen an=out++gC gen an.length (an.drop i)/\i<=an.length+6/\out.length<=i/\aa bq ψ w (an.map (·.1))/\aa aq ψ o (an.map (·.2))/\R=[bu.ob s out]/\af bu v out s/\Sub [(0,.j gen),(1,w),(2,o),(7,v),(8,.j (i:Int))] E) (m:=an.length) (.done ⟨0,[],.no .sl,none,rfl,rfl,by omega,by simp,d,hp,rfl,af.nil,.r rfl⟩) ?_;intro bd E ψ R aC U;obtain⟨i,out,v,s,hm,ak,aZ,a2,d,hp,rfl,ho,Q⟩:=U;refine C.sub Q ?_;refine S.len ?_ (hl:=aa.len d);rw[M];refine S.bin ?_;refine C.D (fun Pl=>?_) fun Pl=>?_
 ·have hi:i<an.length:=by omega
  have W:(((an.drop i).take 6)).length=min 6 (an.length-i):=by simp
  obtain⟨L,hL⟩:∃L,L=an.length-1:=⟨_,rfl⟩
  have ah:an.length=L+1:=by omega
  have aH:gC gen an.length (an.drop i)=gW gen ((an.drop i).take 6)::gC gen an.length (an.drop (i+6)):=by
   rw[ah,tp (by intro h;have:=congrArg List.length h;simp at this;omega),nY,<-ah];congr 1;exact B0 gen _ _ _ (by simp<;>omega) (by simp<;>omega)
  refine S.call (tQ (k:=2) (g:=gen)) fun v25 bn aQ a6 A=>?_;obtain⟨A,ac,rfl,rfl⟩:=A;have A:=A.symm;subst A;refine SW.bF (fun m E ψ R=>∃q:Nat,q+m=((an.drop i).take 6).length/\aa bq ψ w (an.map (·.1))/\aa aq ψ o (an.map (·.2))/\R=[wB ac 2 gen ([]++fC (((an.drop i).take 6).take (q))) (lX (dE false gen 1073741824) (((an.drop i).take 6).take (q))),bu.ob s out]/\Sub [(0,.j gen),(1,w),(2,o),(7,v),(8,.j (i:Int)),(9,.ptr ac 0),(10,.j ((i+q:Nat):Int))] E) (m:=((an.drop i).take 6).length) (.done ⟨0,by omega,d,hp,by simp[fC,lX],.r rfl⟩) ?_;intro aJ E ψ R aC U;obtain⟨q,hq,d,hp,rfl,Q⟩:=U;refine C.sub Q ?_;refine S.bin ?_ (v:=.j ((i+6:Nat):Int)) (hv:=by rw[dz (by omega) (by omega)];(try rfl));refine S.len ?_ (hl:=aa.len d);rw[M];refine S.kH (qU _ _) ?_;refine S.bin ?_;refine C.D (fun av=>?_) fun av=>?_
  ·have hk:i+q<an.length:=by omega
   have al:q<((an.drop i).take 6).length:=by rw[W];omega
   obtain⟨it,Y⟩:∃it,it=an[i+q]:=⟨_,rfl⟩
   have aB:((an.drop i).take 6)[q]=it:=by rw[Y];simp
   have am:(an.map (·.1))[i+q]'(by omega)=it.1:=by rw[Y];simp
   have aE:(an.map (·.2))[i+q]'(by omega)=it.2:=by rw[Y];simp
   have aj:(fC (((an.drop i).take 6).take q)).length=8*q:=by rw[wb,cE,hD (by omega)]
   refine S.aF d (j:=i+q) (by omega) fun be ae=>?_;rw[am]at ae;refine S.bl ae fun bg aW=>?_;refine S.a1 ?_;refine S.aF d (j:=i+q) (by omega) fun bh ag=>?_;rw[am]at ag;refine S.bl ag fun bi aX=>?_;refine S.a1 ?_;refine S.a8 fun Z=>?_;have aK:af bt (.sl Z 0 2 (.ex 2)) [it.1.ino,it.1.idx] (some Z):=af.new rfl;refine S.cd 0 aK fun bo ao az=>?_;refine S.ba 0 rfl (mP (n:=1) az (by omega) (by omega) (by rw[fo,aj];simp<;>omega) (by simp)) fun bk bs aR a7 B=>?_;obtain⟨B,rfl⟩:=B;have B:=B.symm;subst B;have hp:=hp.mono ao;refine S.aF hp (j:=i+q) (by omega) fun bj aw=>?_;rw[aE]at aw;refine S.bJ ?_ (l:=aq.f it.2);refine S.a8 fun ab=>?_;have aL:af aq (.sl ab 0 1 (.ex 1)) [it.2] (some ab):=af.new rfl;refine S.cd 0 aL fun bv ap aA=>?_;refine S.ba 0 rfl (w9 aA (by rw[c2,fo,aj];simp[fW];omega)) fun v55 bw aS bb G=>?_;obtain⟨G,rfl⟩:=G;have G:=G.symm;subst G;refine S.bin ?_ (v:=.j ((i+(q+1):Nat):Int)) (hv:=by rw[dz (by omega) (by omega)];(try rfl));refine⟨aJ-1,by omega,.done ⟨q+1,by omega,(d.mono ao).mono ap,hp.mono ap,?_,.r rfl⟩⟩;rw[Kp al,MD al,aB,<-Mw,<-bp,<-bp];(try rfl)
  ·have aD:q=((an.drop i).take 6).length:=by rw[W];omega
   subst aD;rw[dT];refine S.ba 0 rfl (tR) fun bm bx aU bc I=>?_;obtain⟨I,rfl,rfl⟩:=I;have I:=I.symm;subst I;have ay:hy 2 gen ([]++fC ((an.drop i).take 6)) (lX (dE false gen 1073741824) ((an.drop i).take 6))=gW gen ((an.drop i).take 6):=Mx gen _ (by rw[W];omega);rw[ay];refine S.a8 fun aV=>?_;refine S.br (m:=[gW gen ((an.drop i).take 6)]) 2 ho (.lit 0) (by simp;omega) fun aP aO aM=>?_;refine S.drop 0 ?_;refine S.drop 0 ?_;refine S.mv ?_;refine S.bin ?_ (v:=.j ((i+6:Nat):Int)) (hv:=by rw[dz (by omega) (by omega)];(try rfl));refine⟨an.length-(i+6),by omega,.done ⟨i+6,_,aP,aO,rfl,by rw[ak,aH,bp];(try rfl),by omega,by simp;omega,d,hp,rfl,aM,.r rfl⟩⟩
 ·have e:gD gen an=out:=by rw[ak,jS (by omega),tq,e9]
  rw[e];exact⟨_,.t rfl .nil,.done ⟨s,rfl,ho⟩⟩
set_option maxHeartbeats 4000000
theorem MF [Fx F] {x:aT} (hx:x.load.length<=100000):
 ai F 199 [.agg [.j x.kind,.j x.gen,.str x.load]] O [] (fun r ψ R=>R=[]/\∃aE aC,r=.aN [aE,aC,.bool (dp x).isSome]/\aa bq ψ aE (((dp x).getD []).map (·.1))/\aa aq ψ aC (((dp x).getD []).map (·.2))) never:=by
 refine ar ?_;refine S.box fun an=>?_;refine S.ld 0 ?_;refine S.jH fun aF aH bs ap=>?_;have bz:=ap.ax;refine S.build ?_ (l:=[aF,.bool false]);refine S.box fun ao=>?_;refine SW.new aq ?_;refine SW.new bq ?_;refine SW.bF (fun m E ψ R=>∃(s:cL) (d:List bO) (w am ak:V) (ah ac:Option Pa),ka m s d=idxOf x.load/\(s.2=false->s.1.length<=m)/\s.1.length<=1000000/\d.length+m<=x.load.length/\aH=ψ/\aa aU aH w s.1/\R=[(some ao,.cells [w,.bool s.2] false),bq.ob ah (d.map (·.1)),aq.ob ac (d.map (·.2)),(some an,.cells [.j x.kind,.j x.gen,.str x.load] false)]/\af bq am (d.map (·.1)) ah/\af aq ak (d.map (·.2)) ac/\Sub [(1,.ptr an 0),(5,.ptr ao 0),(2,am),(3,ak)] E) (m:=x.load.length) (.front 2 rfl (.done ⟨(x.load,false),[],aF,.no .sl,.no .sl,none,none,rfl,fun _=>aB _,by show x.load.length<=1000000;omega,by simp,rfl,ap,rfl,af.nil,af.nil,.r rfl⟩)) ?_;intro aA E ψ R bn aM;obtain⟨s,d,w,am,ak,ah,ac,Q,aP,bo,bm,rfl,hw,rfl,ay,aw,aL⟩:=aM;refine C.sub aL ?_;refine S.ld 0 ?_;refine S.len ?_ (hl:=aa.len hw);refine S.bin ?_;refine G.mv ?_;refine G.nil? ?_;refine G.aD ?_;refine G.ld 0 ?_;refine G.un ?_;refine G.and ?_;refine C.B (fun OW=>?_) fun OW=>?_
 ·simp only[be,c3,aR]at OW;have bp:=aP OW.2;obtain⟨U,rfl⟩:∃U,aA=U+1:=⟨aA-1,by omega⟩
  have aQ:ka (U+1) s d=ka U (fD s).2 (d++[(fD s).1]):=by
   show(if decide (0<s.1.length)&&!s.2 then _ else _)=_;rw[ae];rw[OW.2];simp;omega
  rw[aQ]at Q;have wl:=zV s;have bk:=dh 1 s;have bl:=dh 1 (rdNum 1 s).2;refine S.ba 0 rfl (jr (s:=s) (n:=1) hw (by omega) (by omega)) fun bA bG bg bt A=>?_;obtain⟨A,rfl,bD,rfl,aS⟩:=A;have A:=A.symm;subst A;have A:=aS;refine S.ba 0 rfl (jr (s:=(rdNum 1 s).2) (n:=1) A (by omega) (by omega)) fun bB bH bh bv D=>?_;obtain⟨D,rfl,bE,rfl,aV⟩:=D;have D:=D.symm;subst D;have D:=aV;refine S.build ?_;refine S.a8 fun bj=>?_;refine S.br (m:=[(fD s).1.1]) 2 ay (.lit 0) (by simp;omega) fun a7 a2 aZ=>?_;refine S.drop 0 ?_;refine S.mv ?_;refine S.ba 0 rfl (BW (s:=(rdNum 1 (rdNum 1 s).2).2) D (by omega)) fun bC bI bi bw M=>?_;obtain⟨M,rfl,bc,rfl,aW⟩:=M;have M:=M.symm;subst M;refine S.a8 fun a39=>?_;refine S.br (m:=[(fD s).1.2]) 3 aw (.lit 0) (by simp;omega) fun bb a6 a1=>?_;refine S.drop 0 ?_;refine S.mv ?_;refine⟨U,by omega,.done ⟨(fD s).2,d++[(fD s).1],bc,a7,bb,a2,a6,Q,fun h=>by have:=zU h;omega,by omega,by simp;omega,rfl,aW,?_,by rw[cX];exact aZ,by rw[cX];exact a1,.r rfl⟩⟩;rw[cX,cX];(try rfl)
 ·have aJ:(decide (0<s.1.length)&&!s.2)=false:=by
   rw[show decide (0<s.1.length)=decide ((0:Int)<(s.1.length:Int))from decide_eq_decide.2 (by omega)];exact OW
  rw[zT aJ]at Q;have W:d=(idxOf x.load).1:=by rw[<-Q]
  have av:s.2=(idxOf x.load).2.2:=by rw[<-Q]
  refine S.ld 0 ?_;refine G.aD ?_;refine G.ld 3 ?_;refine G.bin ?_;refine G.or ?_;refine G.aD ?_;refine S.cd 1 ay fun bL bx hr=>?_;refine S.cd 1 aw fun bK aX hp=>?_;have hr:=hr.mono aX;refine G.ld 1 ?_;refine G.mv ?_;refine G.mv ?_;refine G.ag 1 ?_ (l:=[.j x.kind,.j x.gen,.str x.load]);refine G.Md (u:=.agg [.j x.kind,.j x.gen,.str x.load]) (e:=bu) x fun aI bJ az f57=>?_;have hr:=hr.mono az;have hp:=hp.mono az;refine G.call (fun _=>ai.kept (ME (gen:=x.gen) hr hp (by omega))) fun v55 bd Z aK=>?_;have hr:=hr.mono Z;have hp:=hp.mono Z;have f57:_->bd aI=_:=fun Y=>Z _ _ (f57 Y);refine G.Me (u:=.agg [.j x.kind,.j x.gen,.str x.load]) (e:=bu) x f57 ?_ (by simp[bu,b9,e0,fx]);refine G.dg 1 ?_ (l:=[.j x.kind,.j x.gen,.str x.load]) (hs:=by simp[same,b9,e0,fx]);refine G.al (fun Y=>MB (aK Y) (aa.dW (l:=[x]) (f57 Y) rfl) (by have:=tA x.gen d.length d;unfold gD;omega)) ?_;refine G.un ?_;refine G.or ?_;refine C.B (fun L=>?_) fun L=>?_
  ·have e:dp x=none:=by
    unfold dp;by_cases aj:x.kind=2/\x.load≠[]
    ·rw[ae aj,ab];rintro⟨I,au⟩;rw[<-av]at I;rw[<-W]at au;rw[I,au]at L;simp[aj.1]at L
    ·rw[ab aj]
   rw[e];exact⟨_,.t rfl (.t rfl (.t rfl .nil)),.none ⟨rfl,_,_,rfl,aa.nil _,aa.nil _⟩⟩
  ·have e:dp x=some d:=by
    simp only[cg,du,aR]at L;obtain⟨⟨o,aj⟩,I⟩:=L;have aO:x.load≠[]:=by
     intro h0;have:d=[]:=by rw[W,h0];(try rfl)
     rw[this]at I;cases I
    unfold dp;rw[ae ⟨aj,aO⟩,ae,<-W];rw[<-av,<-W];exact⟨o,I⟩
   rw[e];exact⟨_,.t rfl (.t rfl (.t rfl .nil)),.none ⟨rfl,_,_,rfl,hr,hp⟩⟩
theorem MG [Fx F] {x:aT} (hx:x.load.length<=100000):
 ai F 198 [.agg [.j x.kind,.j x.gen,.str x.load]] O [] (fun r ψ R=>R=[]/\∃ak,r=.aN [.agg (df.f (((dJ x).map (·.1)).getD ⟨0,0,0,0,0⟩)),ak,.bool (dJ x).isSome]/\aa aq ψ ak (((dJ x).map (·.2)).getD [])) never:=by
 have aO:(x.load,false).1.length<=100000:=hx;have aP:=dh 1 (x.load,false);have aQ:=dh 4 (rdNum 1 (x.load,false)).2;have aS:=dh 4 (rdNum 4 (rdNum 1 (x.load,false)).2).2;have aU:=dh 4 (rdNum 4 (rdNum 4 (rdNum 1 (x.load,false)).2).2).2;have aV:=dh 4 (rdNum 4 (rdNum 4 (rdNum 4 (rdNum 1 (x.load,false)).2).2).2).2;refine ar ?_;refine S.box fun aK=>?_;refine S.alloc fun aM=>?_;refine S.ld 1 ?_;refine S.jH fun aA br aX Y=>?_;have bd:=Y.ax;refine S.build ?_ (l:=[aA,.bool false]);refine S.box fun aL=>?_;refine S.ba 0 rfl (jr (s:=(x.load,false)) (n:=1) Y (by omega) (by omega)) fun be bs aC aZ h=>?_;obtain⟨h,rfl,bk,rfl,ao⟩:=h;have h:=h.symm;subst h;have h:=ao;refine S.ba 0 rfl (jr (s:=(rdNum 1 (x.load,false)).2) (n:=4) h (by omega) (by omega)) fun bg bt aE a1 A=>?_;obtain⟨A,rfl,bl,rfl,ap⟩:=A;have A:=A.symm;subst A;have A:=ap;refine S.ba 0 rfl (jr (s:=(rdNum 4 (rdNum 1 (x.load,false)).2).2) (n:=4) A (by omega) (by omega)) fun bh bv aF a2 D=>?_;obtain⟨D,rfl,bm,rfl,au⟩:=D;have D:=D.symm;subst D;have D:=au;refine S.ba 0 rfl (jr (s:=(rdNum 4 (rdNum 4 (rdNum 1 (x.load,false)).2).2).2) (n:=4) D (by omega) (by omega)) fun bi bw aH a6 I=>?_;obtain⟨I,rfl,bn,rfl,av⟩:=I;have I:=I.symm;subst I;have I:=av;refine S.ba 0 rfl (jr (s:=(rdNum 4 (rdNum 4 (rdNum 4 (rdNum 1 (x.load,false)).2).2).2).2) (n:=4) I (by omega) (by omega)) fun v25 bx aI a7 L=>?_;obtain⟨L,rfl,bo,rfl,aw⟩:=L;have L:=L.symm;subst L;have L:=aw;refine S.build ?_;obtain⟨ad,ac⟩:∃ad:cK,ad=⟨(rdNum 1 (x.load,false)).1,(rdNum 4 (rdNum 1 (x.load,false)).2).1,(rdNum 4 (rdNum 4 (rdNum 1 (x.load,false)).2).2).1,(rdNum 4 (rdNum 4 (rdNum 4 (rdNum 1 (x.load,false)).2).2).2).1,(rdNum 4 (rdNum 4 (rdNum 4 (rdNum 4 (rdNum 1 (x.load,false)).2).2).2).2).1⟩:=⟨_,rfl⟩
 refine S.store (v:=.agg [.j ad.kind,.j ad.id,.j ad.cZ,.j ad.base,.j ad.done]) 1 ?_ (hx:=by rw[ac];exact .t rfl);refine S.ba 0 rfl (BX (s:=(rdNum 4 (rdNum 4 (rdNum 4 (rdNum 4 (rdNum 1 (x.load,false)).2).2).2).2).2) L (by omega)) fun bj bz aJ a8 Q=>?_;obtain⟨Q,bp,bc,rfl,ay,az⟩:=Q;have Q:=Q.symm;subst Q;refine S.cd 1 az fun bA bb hp=>?_;obtain⟨P,U⟩:∃P,P=gX (rdNum 4 (rdNum 4 (rdNum 4 (rdNum 4 (rdNum 1 (x.load,false)).2).2).2).2).2:=⟨_,rfl⟩
 rw[<-U]at hp ay⊢;have W:fj x.load=(ad,P):=by rw[ac,U];(try rfl)
 have aW:P.1.length<=255:=by
  rw[U];unfold gX;have key:∀(n:Nat) (s:cL) (M:List ah),(jK n s M).1.length<=M.length+n:=by
   intro n;induction n with
   |zero=>intro s M;exact aB _
   |succ n am=>
              intro s M;simp only[jK];split
              ·simp
              ·have:=am (fi s).2 (M++[(fi s).1]);simp at this;omega
  have an:=key (rdNum 1 (rdNum 4 (rdNum 4 (rdNum 4 (rdNum 4 (rdNum 1 (x.load,false)).2).2).2).2).2).1.toNat (rdNum 1 (rdNum 4 (rdNum 4 (rdNum 4 (rdNum 4 (rdNum 1 (x.load,false)).2).2).2).2).2).2 [];have k2:=w8 (rdNum 4 (rdNum 4 (rdNum 4 (rdNum 4 (rdNum 1 (x.load,false)).2).2).2).2).2;simp at an;omega
 refine S.mv ?_;refine S.ld 0 ?_;refine G.aD ?_;refine G.ld 2 ?_;refine G.bin ?_;refine G.or ?_;refine G.aD ?_;refine G.ld 2 ?_;refine G.ag 1 ?_ (l:=[.j ad.kind,.j ad.id,.j ad.cZ,.j ad.base,.j ad.done]);refine G.mv ?_;refine G.ag 2 ?_ (l:=[.j x.kind,.j x.gen,.str x.load]);refine G.al (fun _=>My (gen:=x.gen) (r:=ad) hp (by omega)) ?_;refine G.dg 2 ?_ (l:=[.j x.kind,.j x.gen,.str x.load]) (hs:=by simp[same,b9,e0,fx]);refine G.bin ?_ (hv:=fun _=>nJ (ey x.gen ad P.1) x);refine G.or ?_;refine C.B (fun d=>?_) fun d=>?_
 ·have e:dJ x=none:=by
   unfold dJ;rw[ab];rintro⟨o,aj,Z⟩;rw[W]at aj Z;rw[aj,o,Z]at d;simp at d
  rw[e];refine S.build ?_;refine S.store 1 ?_;exact⟨_,.cN 1 rfl rfl rfl rfl (.t rfl (.t rfl .nil)),.none ⟨rfl,_,rfl,aa.nil _⟩⟩
 ·have e:dJ x=some (ad,P.1):=by
   simp only[cg,du,aR]at d;unfold dJ;rw[ae,W];rw[W];exact⟨d.1.2,d.1.1,d.2⟩
  rw[e];refine S.ag 1 ?_ (l:=[.j ad.kind,.j ad.id,.j ad.cZ,.j ad.base,.j ad.done]);refine S.store 1 ?_;exact⟨_,.cN 1 rfl rfl rfl rfl (.t rfl (.t rfl .nil)),.none ⟨rfl,_,rfl,hp⟩⟩
theorem MH [Fx F] {x:aT} (hx:x.load.length<=100000):
 ai F 133 [.agg [.j x.kind,.j x.gen,.str x.load]] O [] (fun r ψ R=>R=[]/\∃ac,r=.aN [.j (((c0 x).map (·.1)).getD 0),.j (((c0 x).map (·.2.1)).getD 0),ac,.bool (c0 x).isSome]/\aa aq ψ ac (((c0 x).map (·.2.2)).getD [])) never:=by
 have aC:(x.load,false).1.length<=100000:=hx;have aE:=dh 4 (x.load,false);have aF:=dh 4 (rdNum 4 (x.load,false)).2;refine ar ?_;refine S.box fun az=>?_;refine S.ld 0 ?_;refine S.jH fun v9 a6 aL W=>?_;have aP:=W.ax;refine S.build ?_ (l:=[v9,.bool false]);refine S.box fun aA=>?_;refine S.ba 0 rfl (jr (s:=(x.load,false)) (n:=4) W (by omega) (by omega)) fun aQ aZ av aI h=>?_;obtain⟨h,rfl,aV,rfl,an⟩:=h;have h:=h.symm;subst h;have h:=an;refine S.ba 0 rfl (jr (s:=(rdNum 4 (x.load,false)).2) (n:=4) h (by omega) (by omega)) fun aS a1 aw aJ A=>?_;obtain⟨A,rfl,aW,rfl,ao⟩:=A;have A:=A.symm;subst A;have A:=ao;refine S.ba 0 rfl (BX (s:=(rdNum 4 (rdNum 4 (x.load,false)).2).2) A (by omega)) fun aU a2 ay aK L=>?_;obtain⟨L,aX,aO,rfl,ap,au⟩:=L;have L:=L.symm;subst L;refine S.cd 1 au fun a7 aM hp=>?_;obtain⟨P,M⟩:∃P,P=gX (rdNum 4 (rdNum 4 (x.load,false)).2).2:=⟨_,rfl⟩
 rw[<-M]at hp ap⊢;obtain⟨n1,Y⟩:∃n1,n1=(rdNum 4 (x.load,false)).1:=⟨_,rfl⟩
 obtain⟨D,Z⟩:∃D,D=(rdNum 4 (rdNum 4 (x.load,false)).2).1:=⟨_,rfl⟩
 have Q:dC x.load=(n1,D,P):=by rw[Y,Z,M];(try rfl)
 rw[<-Y,<-Z];have aH:P.1.length<=255:=by
  rw[M];unfold gX;have key:∀(n:Nat) (s:cL) (I:List ah),(jK n s I).1.length<=I.length+n:=by
   intro n;induction n with
   |zero=>intro s I;exact aB _
   |succ n ak=>
              intro s I;simp only[jK];split
              ·simp
              ·have:=ak (fi s).2 (I++[(fi s).1]);simp at this;omega
  have am:=key (rdNum 1 (rdNum 4 (rdNum 4 (x.load,false)).2).2).1.toNat (rdNum 1 (rdNum 4 (rdNum 4 (x.load,false)).2).2).2 [];have k2:=w8 (rdNum 4 (rdNum 4 (x.load,false)).2).2;simp at am;omega
 refine S.mv ?_;refine S.ld 0 ?_;refine G.aD ?_;refine G.ld 1 ?_;refine G.bin ?_;refine G.or ?_;refine G.aD ?_;refine G.ld 1 ?_;refine G.mv ?_;refine G.mv ?_;refine G.mv ?_;refine G.ag 1 ?_ (l:=[.j x.kind,.j x.gen,.str x.load]);refine G.al (fun _=>Mz (gen:=x.gen) (next:=n1) (id:=D) hp (by omega)) ?_;refine G.dg 1 ?_ (l:=[.j x.kind,.j x.gen,.str x.load]) (hs:=by simp[same,b9,e0,fx]);refine G.bin ?_ (hv:=fun _=>nJ (eM x.gen n1 D P.1) x);refine G.or ?_;refine C.B (fun d=>?_) fun d=>?_
 ·have e:c0 x=none:=by
   unfold c0;rw[ab];rintro⟨o,aj,U⟩;rw[Q]at aj U;rw[aj,o,U]at d;simp at d
  rw[e];exact⟨_,.t rfl (.t rfl (.t rfl (.t rfl .nil))),.none ⟨rfl,_,rfl,aa.nil _⟩⟩
 ·have e:c0 x=some (n1,D,P.1):=by
   simp only[cg,du,aR]at d;unfold c0;rw[ae,Q];rw[Q];exact⟨d.1.2,d.1.1,d.2⟩
  rw[e];exact⟨_,.t rfl (.t rfl (.t rfl (.t rfl .nil))),.none ⟨rfl,_,rfl,hp⟩⟩
end Go.Ev
namespace Go.Ev
def kW:Nat->List Int->List (V×V×Nat)
 |_,[]=>[]
 |n,k::l=>(.int .i64 k,.bool true,n)::kW (n+1) l
def kX (l:List Int):ak:=.map (kW 0 l) l.length
theorem B1 (x:Int):∀(l:List Int) (n:Nat),kW n (l++[x])=kW n l++[(.int .i64 x,.bool true,n+l.length)]
 |[],n=>rfl
 |k::l,n=>by
  show _::kW (n+1) (l++[x])=_::(kW (n+1) l++_);rw[B1 x l (n+1),b7];rw[show n+1+l.length=n+(l.length+1) by omega]
theorem MI (a b:Int):cF (.flat .i) (.int .i64 a) (.int .i64 b)=some (decide (a=b)):=by
 show some (gh a b)=_;congr 1;rw[h3,kp];simp
theorem xa (x:Int):∀(l:List Int) (n j:Nat),∃r,gw (.flat .i) (.int .i64 x) (kW n l) j=some r/\r.map (·.2)=if x∈l then some (.bool true)else none
 |[],n,j=>⟨none,rfl,rfl⟩
 |k::l,n,j=>by
  show∃r,(match cF (.flat .i) (.int .i64 x) (.int .i64 k)with
   |some b=>bif b then some (some (j,V.bool true))else gw (.flat .i) (.int .i64 x) (kW (n+1) l) (j+1)
   |none=>none)=some r/\_
  rw[MI];by_cases h:x=k
  ·subst h;refine⟨some (j,.bool true),by simp,by simp⟩
  ·obtain⟨r,o,aj⟩:=xa x l (n+1) (j+1);refine⟨r,by simp only[decide_eq_false h,bw];exact o,by rw[aj];simp[h]⟩
namespace S
variable{F:Nat->Option aP} {K:KX} {E:Env} {O:Fz} {R:List Ob} {Q:bz} {rs:List Op} {d:Nat} {g:Option (Pa×Bool)}
theorem mkMap (hn:∀a,SA F K rs ((d,.map a)::E) O ((some a,kX [])::R) Q):SR F K (.op ⟨some (pa d),um,none⟩::Op.aK rs) E O R Q:=fun W h sh=>
 ad.cY .none (fun _ _=>rfl) (S.r (hn h.next) W _ (sh.alloc _))
theorem look {x i:Od} {a:Pa} {k:Int} {l:List Int} (j:Nat) (hn:SA F K rs ((d,.bool (decide (k∈l)))::E) O R Q) (hi:R[j]? =some (some a,kX l):=by rfl) (hx:ay E x (.map a):=by exact .t rfl) (hk:ay E i (.int .i64 k):=by first|exact .t rfl|exact .c) (hw:aA E g .yes:=by first|exact .none|exact .yes rfl):
 SR F K (.op ⟨some (pa d),qu (.flat .i) (.bool false) x i false,g⟩::Op.aK rs) E O R Q:=fun W h sh=>by
 refine ad.look hw hx hk ?_ (S.r hn W h sh);have A:h.get a=some (.map (kW 0 l) l.length):=sh.fy hi;obtain⟨r,o,aj⟩:=xa k l 0 0;unfold ph;simp only[bn.mapOf,A,fits,qs,aE,o];cases r with
 |none=>
  have:k∉l:=by intro hm;rw[ae hm]at aj;cases aj
  simp[n2,this]
 |some p=>
  obtain⟨q,v⟩:=p;by_cases hm:k∈l
  ·rw[ae hm]at aj;have:v=.bool true:=by simpa using aj
   subst this;simp[n2,hm]
  ·rw[ab hm]at aj;cases aj
theorem MJ {x i:Od} {a:Pa} {k:Int} {l:List Int} (j:Nat) (hm:k∉l) (hn:SA F K rs E O (R.set j (some a,kX (l++[k]))) Q) (hi:R[j]? =some (some a,kX l):=by rfl) (hx:ay E x (.map a):=by exact .t rfl) (hk:ay E i (.int .i64 k):=by first|exact .t rfl|exact .c) (hw:aA E g .yes:=by first|exact .none|exact .yes rfl):
 SR F K (.op ⟨none,ur (.flat .i) x i (.c (.bool true)),g⟩::Op.aK rs) E O R Q:=fun W h sh=>by
 have d:h.get a=some (.map (kW 0 l) l.length):=sh.fy hi;obtain⟨r,o,aj⟩:=xa k l 0 0;rw[ab hm]at aj;have:r=none:=by cases r with|none=>rfl|some p=>cases aj
 subst this;refine ad.sF (v:=cV) (h':=h.put a (kX (l++[k]))) hw (fun e he=>?_) (S.r hn W _ (sh.pI hi _));simp only[hx e he,bn.jY,d,hk e he,fits,qs,aE,o];have:kX (l++[k])=.map (kW 0 l++[(.int .i64 k,.bool true,l.length)]) (l.length+1):=by
  unfold kX;rw[B1,c2];simp
 rw[this];(try rfl)
theorem MK [eY K] {n:Nat} {f:Od} {xs:List Od} {vs a2:List V} {Rt:V->Fz->List Ob->Prop} (hc:ai F n (vs++a2) O [] Rt never) (hn:∀v ψ j,O.Le ψ->Rt v ψ j->SA F K rs ((d,v)::E) ψ (j++R) Q) (D:ay E f (.fn n a2):=by first|exact .t rfl|exact .c) (hx:im E xs=some vs:=by rfl) (hw:aA E g .yes:=by first|exact .none|exact .yes rfl):
 SR F K (.op ⟨some (pa d),n3 f xs,g⟩::Op.aK rs) E O R Q:=fun W h sh=>by
 rcases hc (R++W) h (by simpa using sh)with⟨v,h',o,ψ,j,aj,A,B⟩|⟨_,_,_,_,_,_,_,h⟩
 ·exact WR.up aj (ad.F2 hw D (j4 hx) o (S.r (hn v ψ j aj B) W h' (by simpa using A)))
 ·exact h.elim
theorem clear {z:List V} {x:Od} {a:Pa} {I n:Nat} {c:fM} {cs l':List V} (i:Nat) (hn:SA F K rs E O (R.set i (some a,.cells l' false)) Q) (hi:R[i]? =some (some a,.cells cs false):=by rfl) (hx:ay E x (.sl a I n c):=by exact .t rfl) (ch:cT I cs (c5 z n)=some l':=by rfl) (hs:aY (c5 z n)=true:=by rfl) (hw:aA E g .yes:=by first|exact .none|exact .yes rfl):
 SR F K (.op ⟨none,uq z x,g⟩::Op.aK rs) E O R Q:=fun W h sh=>
 ad.sF (v:=cV) (h':=h.put a (.cells l' false)) hw (fun e he=>by
  simp only[hx e he,sO (sh.fy hi) hs ch];rfl) (S.r hn W _ (sh.pI hi _))
end S
end Go.Ev
namespace Go.Ev
theorem B2 {n c i j:Nat} (d:i<=j) (hj:j<=c):dN n c (some (.int .i64 (i:Int))) (some (.int .i64 (j:Int))) (some (.int .i64 (j:Int)))=some (i,j,j):=by
 show(match(match Nat.ble j c with|true=>some j|false=>none:Option Nat)with|none=>none|some m=>match(match Nat.ble j m with|true=>some j|false=>none:Option Nat)with|none=>none|some h=>(match(match Nat.ble i h with|true=>some i|false=>none:Option Nat)with|none=>none|some l=>some (l,h,m)):Option (Nat×Nat×Nat))=_;simp only[oz hj,oz (aB j),oz d]
theorem FS.full {O:Fz} {v:V} {k n:Nat} {cs:List V} (hs:FS O v k n cs) {i j:Nat} (d:i<j) (hj:j<=n):∃v',dx k v (some (.int .i64 (i:Int))) (some (.int .i64 (j:Int))) (some (.int .i64 (j:Int)))=some v'/\FS O v' k (j-i) ((cs.drop (i*k)).take ((j-i)*k)):=by
 have hlen:((cs.drop (i*k)).take ((j-i)*k)).length=(j-i)*k:=by
  rw[cE,bW,hs.1,<-Nat.sub_mul];exact hD (o6 _ (by omega))
 have D:∀(I:Nat) (l:List V),(∀(i:Nat) (u:V),cs[i]? =some u->l[I+i]? =some u)->∀(q:Nat) (u:V),((cs.drop (i*k)).take ((j-i)*k))[q]? =some u->l[I+i*k+q]? =some u:=fun I l F q u hu=>by
  rw[jv]at hu;split at hu
  ·rw[gJ]at hu;rw[gg];exact F _ _ hu
  ·cases hu
 rcases hs.2 with⟨rfl,rfl⟩|⟨a,I,c,b,l,rfl,aj,o,A,h⟩
 ·omega
 ·refine⟨.sl a (I+i*k) (j-i) (.ex (j-i)),?_,hlen,.inr ⟨a,_,_,b,l,rfl,aj,o,D I l A,aB _⟩⟩;cases c with
  |ex c=>
   have G:n<=c:=h;simp only[dx,B2 (pc d) (fL hj G),ov (show j≠i by omega),bw]
  |un s=>
   obtain rfl:s=k:=h;have B:Nat.blt i j=true:=by rw[pe];exact d
   simp only[dx,B2 (pc d) hj,dU,aE,B]
theorem aa.full {O:Fz} {U:Type} {e:bG U} {v:V} {l:List U} (h:aa e O v l) {i j:Nat} (d:i<j) (hj:j<=l.length):∃v',dx e.k v (some (.int .i64 (i:Int))) (some (.int .i64 (j:Int))) (some (.int .i64 (j:Int)))=some v'/\aa e O v' ((l.drop i).take (j-i)):=by
 obtain⟨v',o,aj⟩:=FS.full h d hj;refine⟨v',o,?_⟩;rw[sZ,s0]at aj;unfold aa
 rwa [cE,bW,hD (by omega)]
end Go.Ev
set_option maxHeartbeats 1000000
namespace Go.Ev
variable{F:Nat->Option aP} {O:Fz}
theorem ML (a b:cj):b0 .eql (.agg [(0,.i),(1,.i),(2,.s)]) (.agg (aG.f a)) (.agg (aG.f b))=some (.bool (decide (a=b))):=by
 rw[show decide (a=b)=decide (a.kind=b.kind/\a.mode=b.mode/\a.body=b.body)from decide_eq_decide.2 (zl a b)];exact JA _ _ _ _ _ _
def lY (t:ao):Prop:=t.length<=1000/\∀n∈t,n.body.length<=10000
theorem B3 {t:ao} (d:lY t) (i:Int):(jO t i).body.length<=10000:=by
 unfold jO;split
 ·exact cS _
 ·rename_i h;obtain⟨j,hj,o,A⟩:=qZ (t:=t) (x:=i) (by omega) (by omega);rw[A];exact d.2 _ (cw o)
theorem MM [Fx F] {d:V} {t:ao} {i:Int} (ht:aa aG O d t) (A:t.length<=1000):bm F 217 [.agg [d],.j i] O (.agg (aG.f (jO t i))):=by
 have st:=ht.ax;refine ai.al (ar ?_);refine S.box fun h=>?_;refine S.alloc fun a4=>?_;refine S.bin ?_;refine G.mv ?_;refine G.aD ?_;refine G.ld 1 ?_;refine G.len ?_ (hl:=aa.len ht);refine G.bin ?_;refine G.or ?_;refine C.B (fun O6=>?_) fun O6=>?_
 ·have e:jO t i=ef:=by
   unfold jO;rw[ae];simp only[cx,aR]at O6;exact O6
  rw[e];refine S.build ?_;refine S.store 0 ?_;exact⟨_,.cN 0 rfl rfl rfl rfl .nil,.none rfl⟩
 ·simp only[cg,bD]at O6;have e:jO t i=nodeAt t i:=by unfold jO;rw[ab];omega
  rw[e];refine S.ld 1 ?_;refine S.bin ?_ (hv:=fU (by omega) (by omega));refine S.ew (n:=i) ht (by omega) (by omega) fun D o=>?_;refine S.bJ ?_ (l:=aG.f (nodeAt t i));refine S.store 0 ?_;exact⟨_,.cN 0 rfl rfl rfl rfl .nil,.none rfl⟩
theorem B4 [Fx F] {d:V} {t:ao} {i:Int} (ht:aa aG O d t) (h:lY t):ai F 169 [.agg [d],.j i] O [] (fun r ψ R=>R=[]/\aa cC ψ r (aW t i)) never:=by
 have st:=ht.ax;have A:=B3 h i;refine ar ?_;refine S.box fun G=>?_;refine S.ag 0 ?_ (l:=[d]);refine S.al (MM (i:=i) ht h.1) ?_;refine S.alloc fun a5=>?_;refine S.store 0 ?_;refine S.ld 0 ?_;refine S.bin ?_;refine C.B (fun O6=>?_) fun O6=>?_
 ·have e:aW t i=[]:=by rw[tK];unfold e3;rw[ab (by simpa using O6)]
  rw[e];exact⟨_,.t rfl .nil,.none ⟨rfl,aa.nil _⟩⟩
 ·have e:aW t i=(cv (jO t i).body).getD []:=by rw[tK];unfold e3;rw[ae (by simpa using O6)]
  rw[e];refine S.ld 0 ?_;refine S.call (BT (b:=(jO t i).body) A) fun L M D I o=>?_;obtain⟨rfl,w,rfl,hw⟩:=o;exact⟨_,.t rfl .nil,.none ⟨rfl,hw⟩⟩
theorem MO [Fx F] {n:cj} (h:n.body.length<=10000):ai F 104 [.agg (aG.f n)] O [] (fun r _ R=>R=[]/\r=.bool (eQ n)) never:=by
 refine ar ?_;refine S.box fun A=>?_;refine S.ld 0 ?_;refine S.bin ?_;refine C.D (fun Pk=>?_) fun Pk=>?_
 ·refine S.ag 0 ?_ (l:=[.j (n).kind,.j (n).mode,.str (n).body]);refine S.build ?_;refine S.bin ?_ (hv:=ML n ef);exact⟨_,.t rfl .nil,.none ⟨rfl,by show V.bool _=V.bool _;unfold eQ;rw[ae Pk]⟩⟩
 ·refine S.bin ?_;refine C.D (fun Ph=>?_) fun Ph=>?_
  ·refine S.ld 0 ?_;refine S.cb ?_;refine S.bin ?_;refine G.aD ?_;refine G.ld 0 ?_;refine G.bin ?_;refine G.and ?_;refine G.aD ?_;refine G.ld 0 ?_;refine G.bin ?_;refine G.and ?_;refine⟨_,.t rfl .nil,.none ⟨rfl,?_⟩⟩;show V.bool _=V.bool _;unfold eQ p6;rw[ab Pk,ae Ph];rw[<-Bool.and_assoc];simp only[show((n.body.length:Int)<=120)↔n.body.length<=120 by omega]
  ·refine S.bin ?_;refine C.D (fun OT=>?_) fun OT=>?_
   ·refine S.ld 0 ?_;refine S.call (BT h) fun I L o B d=>?_;obtain⟨rfl,w,rfl,hw⟩:=d;refine G.aD ?_;refine G.ld 0 ?_;refine G.bin ?_;refine G.and ?_;refine G.aD ?_;refine G.ld 0 ?_;refine G.bin ?_;refine G.and ?_;refine⟨_,.t rfl .nil,.none ⟨rfl,?_⟩⟩;show V.bool _=V.bool _;unfold eQ p6;rw[ab Pk,ab Ph,ae OT];rw[<-Bool.and_assoc]
   ·exact⟨_,.t rfl .nil,.none ⟨rfl,by show V.bool _=V.bool _;unfold eQ;rw[ab Pk,ab Ph,ab OT]⟩⟩
theorem MP [Fx F] {n:cj} (h:n.body.length<=10000):ai F 103 [.agg (aG.f n)] O [] (fun r _ R=>R=[]/\r=.bool (!eQ n)) never:=by
 refine ar ?_;refine S.box fun A=>?_;refine S.ag 0 ?_ (l:=[.j (n).kind,.j (n).mode,.str (n).body]);refine S.call (MO h) fun v4 D o B d=>?_;obtain⟨rfl,rfl⟩:=d;refine S.un ?_;exact⟨_,.t rfl .nil,.none ⟨rfl,rfl⟩⟩
theorem MQ [Fx F] {d:V} {t:ao} (ht:aa aG O d t) (h:lY t):ai F 167 [d,.fn 103 []] O [] (fun r _ R=>R=[]/\∃k:Int,r=.j k/\(0<=k↔t.all eQ=false)) never:=by
 have Y:=h.1;refine ar ?_;refine S.len ?_ (hl:=aa.len ht);refine SW.bF (fun m E ψ R=>∃j:Nat,j+m=t.length/\t.all eQ=(t.drop j).all eQ/\aa aG ψ d t/\R=[]/\Sub [(0,d),(1,.fn 103 []),(7,.j (t.length:Int)),(8,.j (j:Int))] E) (m:=t.length) (.done ⟨0,by omega,rfl,ht,rfl,.r rfl⟩) ?_;intro Q E ψ R Z G;obtain⟨j,hj,hd,ht,rfl,A⟩:=G;refine C.sub A ?_;refine S.bin ?_;refine C.D (fun O7=>?_) fun O7=>?_
 ·have hk:j<t.length:=by omega
  rw[bQ hk,k4]at hd;have I:=h.2 _ (cw hk);refine S.aF ht hk fun ab W=>?_;refine S.bJ ?_ (l:=aG.f t[j]);refine S.MK (MP I) fun ac ae U M o=>?_;obtain⟨rfl,rfl⟩:=o;refine C.B (fun O3=>?_) fun O3=>?_
  ·refine⟨_,.t rfl .nil,.none ⟨rfl,_,rfl,?_⟩⟩;have:eQ t[j]=false:=by simpa using O3
   rw[hd,this];simp
  ·refine S.bin ?_;have L:eQ t[j]=true:=by simpa using O3
   rw[L,gL]at hd;exact⟨Q-1,by omega,.done ⟨j+1,by omega,hd,ht.mono M,rfl,.r rfl⟩⟩
 ·obtain rfl:j=t.length:=by omega
  rw[b6]at hd;exact⟨_,.t rfl .nil,.none ⟨rfl,_,rfl,by rw[hd];simp⟩⟩
theorem MR [Fx F] {d:V} {t:ao} (ht:aa aG O d t) (j:lY t):ai F 102 [d,.fn 103 []] O [] (fun r _ R=>R=[]/\r=.bool (!t.all eQ)) never:=by
 refine ar ?_;refine S.call (MQ ht j) fun B D o A h=>?_;obtain⟨rfl,k,rfl,hk⟩:=h;refine S.bin ?_;refine⟨_,.t rfl .nil,.none ⟨rfl,?_⟩⟩;have:decide (0<=k)=!t.all eQ:=by rw[kp];simp[hk]
 rw[<-this];(try rfl)
theorem B5 {t:ao} (d:lY t) (i:Int):(aW t i).length<=10000:=by
 rw[tK];unfold e3;split
 ·cases h:cv (jO t i).body with
  |none=>exact cS _
  |some l=>exact fL (vM h) (B3 d i)
 ·exact cS _
theorem MS [Fx F] {o:V} {t:ao} (ht:aa aG O o t) (U:lY t):ai F 106 [.agg [o]] O [] (fun r _ R=>∃a,r=.sl a 0 10 (.ex 10)/\(jq t).length=10/\R=[bt.ob (some a) (jq t)]) never:=by
 have st:=ht.ax;have aH:=U.1;refine ar ?_;refine S.box fun G=>?_;refine S.ox (n:=10) (m:=10) (by omega) (by omega) (by omega) fun h=>?_;have ah:∀l:List Int,l.length=10->af bt (.sl h 0 10 (.ex 10)) l (some h):=fun l hl=>af.new hl;refine S.ld 1 ?_;refine S.len ?_ (hl:=aa.len ht);refine SW.bF (fun m E ψ R=>∃(j:Nat) (nm:List Int),j+m=t.length/\nm.length=10/\(∀x∈nm,0<=x/\x<=j*10001)/\nm=oV t j 1 (List.replicate 10 0)/\aa aG ψ o t/\R=[bt.ob (some h) nm,(some G,.cells [o] false)]/\Sub [(1,.ptr G 0),(3,.sl h 0 10 (.ex 10)),(10,.j (t.length:Int)),(11,.j (j:Int))] E) (m:=t.length) (.done ⟨0,List.replicate 10 0,by omega,by simp,fun x hx=>by rw[mZ hx];omega,rfl,ht,rfl,.r rfl⟩) ?_;intro ay E ψ R ap Q;obtain⟨j,nm,hm,ae,au,ac,ht,rfl,M⟩:=Q;refine C.sub M ?_;refine S.bin ?_;refine C.D (fun Ph=>?_) fun Ph=>?_
 ·refine S.ag 1 ?_ (l:=[o]);refine S.bin ?_ (hv:=dz (by omega) (by omega));refine S.call (B4 (i:=((j+1:Nat):Int)) ht U) fun aj aM aA aw A=>?_;obtain⟨rfl,A⟩:=A;have ht:=ht.mono aw;have av:=B5 U ((j+1:Nat):Int);obtain⟨l,Y⟩:∃l,l=aW t ((j+1:Nat):Int):=⟨_,rfl⟩
  rw[<-Y]at A av;have an:∀e∈l,1<=e.ino/\e.ino<=9:=by rw[Y];exact kM
  refine S.len ?_ (hl:=aa.len A);refine SW.loop (fun m E ψ R=>∃(k:Nat) (d:List Int),k+m=l.length/\d.length=10/\(∀x∈d,0<=x/\x<=j*10001+k)/\l.foldl bump nm=(l.drop k).foldl bump d/\aa aG ψ o t/\aa cC ψ aj l/\R=[bt.ob (some h) d,(some G,.cells [o] false)]/\Sub [(1,.ptr G 0),(3,.sl h 0 10 (.ex 10)),(10,.j (t.length:Int)),(11,.j (j:Int)),(17,aj),(18,.j (l.length:Int)),(19,.j (k:Int))] E) (m:=l.length) ⟨0,nm,by omega,ae,by simpa using au,rfl,ht,A,rfl,.r rfl⟩ ?_;intro az E ψ R ap Q;obtain⟨k,d,aJ,I,W,B,ht,hw,rfl,M⟩:=Q;refine C.sub M ?_;refine S.bin ?_;refine C.D (fun Pb=>?_) fun Pb=>?_
  ·have hk:k<l.length:=by omega
   rw[bQ hk]at B;have aI:=an _ (cw hk);obtain⟨q,Z⟩:∃q:Nat,(l[k]).ino=(q:Int):=⟨(l[k]).ino.toNat,by omega⟩
   have L:q<d.length:=by omega
   have aK:=W _ (cw L);have ab:bump d l[k]=d.set q (d[q]+1):=by unfold bump;rw[Z,hC];exact zm _ L
   refine S.aF hw hk fun aL aE=>?_;refine S.bJ ?_ (l:=cC.f l[k]);refine S.alloc fun aD=>?_;refine S.store 0 ?_;refine S.ld 0 ?_;refine S.ct (ah d I) L (fun aB ak=>?_) (hi:=by rw[<-Z];exact .t rfl);cases ak;refine S.eJ 0 1 ?_;refine S.bin ?_ (hv:=dz (by omega) (by omega));refine S.ct (ah d I) L (fun aC al=>?_) (hi:=by rw[<-Z];exact .t rfl);cases al;refine S.kK (d[q]+1) 1 ?_;refine S.drop 0 ?_;refine S.bin ?_;refine⟨az-1,by omega,k+1,d.set q (d[q]+1),by omega,by simpa using I,?_,by rw[B,<-ab];(try rfl),ht,hw,rfl,.r rfl⟩;rw[<-ab];intro x hx;have:=zE W x hx;omega
  ·obtain rfl:k=l.length:=by omega
   rw[b6]at B;change l.foldl bump nm=d at B;refine S.bin ?_;exact⟨ay-1,by omega,.done ⟨j+1,d,by omega,I,fun x hx=>by have:=W x hx;omega,by rw[Bl,<-ac,<-B,Y,qn 1 j],ht,rfl,.r rfl⟩⟩
 ·obtain rfl:j=t.length:=by omega
  have am:nm=jq t:=ac;subst am;exact⟨_,.t rfl .nil,.drop 1 (.done ⟨h,rfl,ae,rfl⟩)⟩
set_option maxHeartbeats 2000000
theorem MT {b:Bool} {v u:V} (h:b=true->v=u):gv b v=gv b u:=by cases b with|false=>rfl|true=>rw[h rfl]
theorem MU {a b:Bool}:b0 .neq (.flat .b) (.bool a) (.bool b)=some (.bool (a !=b)):=by cases a<;>cases b<;>rfl
theorem MV {t:ao} (d:t.length=9) (hk:(nodeAt t 1).kind=2) (h:t.all eQ=true):bH t=([1,2,3,4,5,6,7,8,9].all (fun i=>!lV t i)&&decide (((jq t)[1]?).getD 0=0)):=by
 rw[BB,d,hk,h];(try rfl)
theorem MW [Fx F] {d:V} {t:ao} {a:Pa} (I:lY t) (k:Nat):∀{O:Fz} {Z:List Int} {i:Int},left Z<k->1<=i->i<=9->aa aG O d t->
 ai F 105 [.agg [d],.j i,.map a] O [(some a,kX Z)] (fun _ _ R=>∃S',R=[(some a,kX S')]/\Rd t i Z S') never:=by
 induction k with
 |zero=>intro O Z i h;exact absurd h (qj _)
 |succ k ak=>?_
 intro O Z i hk o ab ht;have st:=ht.ax;refine ar ?_;refine S.box fun a3=>?_;refine S.look 1 ?_;refine C.B (fun OU=>?_) fun OU=>?_
 ·exact⟨_,.nil,.drop 0 (.done ⟨Z,rfl,Rd.there (by simpa using OU)⟩)⟩
 ·have M:i∉Z:=by simpa using OU
  refine S.MJ 1 M ?_;refine S.ag 0 ?_ (l:=[d]);refine S.call (B4 (i:=i) ht I) fun U aA an al A=>?_;obtain⟨rfl,A⟩:=A;have ht:=ht.mono al;have ay:=B5 I i;refine S.len ?_ (hl:=aa.len A);refine SW.bF (fun m E ψ R=>∃(j:Nat) (S1:List Int),j+m=(aW t i).length/\Rs t i Z S1 j/\aa aG ψ d t/\aa cC ψ U (aW t i)/\R=[(some a,kX S1),(some a3,.cells [d] false)]/\Sub [(2,.map a),(3,.ptr a3 0),(15,U),(16,.j ((aW t i).length:Int)),(17,.j (j:Int))] E) (m:=(aW t i).length) (.front 1 rfl (.done ⟨0,Z++[i],by omega,Rs.start,ht,A,rfl,.r rfl⟩)) ?_;intro am E ψ R aj ae;obtain⟨j,S1,hm,G,ht,hw,rfl,ac⟩:=ae;refine C.sub ac ?_;refine S.bin ?_;refine C.D (fun OY=>?_) fun OY=>?_
  ·have hj:j<(aW t i).length:=by omega
   have L:=kM _ (cw hj);have aw:=L0 o ab M;have aj:=LZ (S:=Z++[i]) (S':=S1) (fun x hx=>by simp at hx;rcases hx with hx|hx;exact G.sub x hx;subst hx;exact G.at_);refine S.aF hw hj fun az av=>?_;refine S.bJ ?_ (l:=cC.f (aW t i)[j]);refine S.alloc fun au=>?_;refine S.store 0 ?_;refine S.ag 2 ?_ (l:=[d]);refine S.ld 0 ?_;refine S.ba 1 rfl (ak (Z:=S1) (i:=(aW t i)[j].ino) (by omega) L.1 L.2 ht) fun v25 aC ap Q Y=>?_;obtain⟨W,rfl,ah⟩:=Y;refine S.bin ?_;exact⟨am-1,by omega,.drop 1 (.done ⟨j+1,W,by omega,G.step hj ah,ht.mono Q,hw.mono Q,rfl,.r rfl⟩)⟩
  ·obtain rfl:j=(aW t i).length:=by omega
   exact⟨_,.nil,.drop 1 (.done ⟨S1,rfl,G.done (aB _)⟩)⟩
theorem MX [Fx F] {d:V} {t:ao} (ht:aa aG O d t) (A:lY t):ai F 61 [d] O [] (fun r _ R=>R=[]/\r=.bool (bH t)) never:=by
 have st:=ht.ax;have aQ:=A.1;refine ar ?_;refine S.len ?_ (hl:=aa.len ht);refine S.bin ?_;refine G.mv ?_;refine G.aF ht (j:=0) (z:=nodeAt t 1) (fun aT al=>?_) (hj:=fun A=>by simp at A;rw[bj (show 0<t.length by omega)];unfold nodeAt;rw[show((1:Int)-1).toNat=0 by rfl,bj (show 0<t.length by omega)];(try rfl));refine G.bl al fun aU aO=>?_;refine G.a1 ?_;refine G.bin ?_;refine G.or ?_;refine G.mv ?_;refine G.call (fun _=>MR ht A) fun v22 aZ aC am=>?_;rw[MT am];have ht:=ht.mono aC;refine G.or ?_;refine C.B (fun O5=>?_) fun O5=>?_
 ·have e:bH t=false:=by
   rw[BB];simp only[cx,c3,bD]at O5;rcases O5 with(h|h)|h
   ·rw[decide_eq_false (by omega)];(try rfl)
   ·rw[decide_eq_false h,Bool.and_false];(try rfl)
   ·rw[h,Bool.and_false];(try rfl)
  exact⟨_,.t rfl .nil,.none ⟨rfl,by rw[e];(try rfl)⟩⟩
 ·simp only[cg,du,aR]at O5;have aB:t.length=9:=by omega
  have ab:=MV aB O5.1.2 O5.2;refine S.build ?_;refine S.alloc fun a3=>?_;refine S.store 0 ?_;refine S.mkMap fun Q=>?_;refine S.ag 1 ?_ (l:=[d]);refine S.ba 0 rfl (MW A 10 (Z:=[]) (i:=1) (by decide) (by omega) (by omega) ht) fun aW a2 aJ aE an=>?_;obtain⟨ah,rfl,az⟩:=an;have ht:=ht.mono aE;refine S.ag 1 ?_ (l:=[d]);refine S.call (MS ht A) fun aX a6 aK aH ap=>?_;obtain⟨I,rfl,ac,rfl⟩:=ap;have ht:=ht.mono aH;obtain⟨nm,M⟩:∃nm,nm=jq t:=⟨_,rfl⟩
  rw[<-M]at ac⊢;have ae:af bt (.sl I 0 10 (.ex 10)) nm (some I):=af.new ac;refine S.len ?_ (hl:=aa.len ht);refine SW.bF (fun m E ψ R=>∃j:Nat,j+m=t.length/\(∀i:Nat,1<=i->i<=j->lV t i=false)/\aa aG ψ d t/\R=[bt.ob (some I) nm,(some Q,kX ah),(some a3,.cells [d] false)]/\Sub [(4,.map Q),(5,.sl I 0 10 (.ex 10)),(32,d),(33,.j (t.length:Int)),(34,.j (j:Int))] E) (m:=t.length) (.done ⟨0,by omega,fun i o aj=>by omega,ht,rfl,.r rfl⟩) ?_;intro aI E ψ R aS ay;obtain⟨j,hm,U,ht,rfl,aw⟩:=ay;refine C.sub aw ?_;refine S.bin ?_;refine C.D (fun ak=>?_) fun ak=>?_
  ·have hj:j<t.length:=by omega
   have Y:j+1<nm.length:=by omega
   refine S.aF ht hj fun aV aP=>?_;refine S.bJ ?_ (l:=aG.f t[j]);refine S.alloc fun aM=>?_;refine S.store 0 ?_;refine S.bin ?_ (v:=.j ((j+1:Nat):Int)) (hv:=by rw[dz (by omega) (by omega)];(try rfl));refine S.ct ae Y fun aL au=>?_;cases au;refine S.eJ (j:=j+1) 0 1 ?_;refine S.ld 0 ?_;refine S.bin ?_;refine S.bE 0 ?_;refine S.bin ?_ (v:=.j ((j+1:Nat):Int)) (hv:=by rw[dz (by omega) (by omega)];(try rfl));refine S.look 2 ?_;rw[az.root (j+1)];refine S.bin ?_ (hv:=MU);refine G.mv ?_;refine G.un ?_;refine G.mv ?_;refine G.mv ?_;refine G.bin ?_;refine G.fV ?_;refine G.or ?_;refine G.aD ?_;refine G.ld 0 ?_;refine G.bin ?_;refine G.mv ?_;refine G.mv ?_;refine G.bin ?_;refine G.fV ?_;refine G.mv ?_;refine G.mv ?_;refine G.bin ?_;refine G.fV ?_;refine G.or ?_;have W:lV t (j+1)=(((!decide ((t[j]).kind=0)) !=((eg t)[j+1]?).getD false)||(!!decide ((t[j]).kind=0)&&decide (0<nm[j+1]))||(decide ((t[j]).kind=2)&&decide ((0:Int)<(j:Int))&&!decide (nm[j+1]=1))):=by
    unfold lV;rw[ti hj,<-M,bj Y];rw[show decide (1<j+1)=decide ((0:Int)<(j:Int))from decide_eq_decide.2 (by omega)];(try rfl)
   refine C.B (fun L=>?_) fun L=>?_
   ·have e:bH t=false:=by
     rw[ab];have:[1,2,3,4,5,6,7,8,9].all (fun i=>!lV t i)=false:=by
      rw[l2];intro h;have:=eU.1 h (j+1) (oW.2 ⟨by omega,by omega⟩);rw[W,L]at this;cases this
     rw[this];(try rfl)
    exact⟨_,.t rfl .nil,.none ⟨rfl,by rw[e];(try rfl)⟩⟩
   ·refine S.bin ?_;have aA:∀i:Nat,1<=i->i<=j+1->lV t i=false:=by
     intro i o aj;by_cases h:i<=j
     ·exact U i o h
     ·have:i=j+1:=by omega
      subst this;exact W.trans L
    exact⟨aI-1,by omega,.drop 0 (.done ⟨j+1,by omega,aA,ht,rfl,.r rfl⟩)⟩
  ·obtain rfl:j=t.length:=by omega
   have e:bH t=decide (nm[1]'(by omega)=0):=by
    rw[ab];have:[1,2,3,4,5,6,7,8,9].all (fun i=>!lV t i)=true:=by
     rw[eU];intro i hi;have:=oW.1 hi;rw[U i this.1 (by omega)];(try rfl)
    rw[this,<-M,bj (show 1<nm.length by omega)];(try rfl)
   refine S.ct (j:=1) ae (by omega) fun a76 av=>?_;cases av;refine S.eJ (j:=1) 0 0 ?_;refine S.bin ?_;exact⟨_,.t rfl .nil,.none ⟨rfl,by rw[e];(try rfl)⟩⟩
set_option maxHeartbeats 2000000
theorem MY [Fx F] {d:V} (hs:isScalar d=true):ai F 171 [d,.j 40] O [] (fun r ψ R=>ψ=O/\∃h o,r=.fn 219 [.ptr h 0,.ptr o 0]/\R=[(some o,.cells [.j 40] false),(some h,.cells [d] false)]) never:=by
 have A:d.cells=[d]:=gV hs;refine ar ?_;refine S.box (v:=d) (fun B=>?_) (hs:=by rw[A];simp[aY,hs]);rw[A];refine S.box fun a3=>?_;refine S.ld 0 ?_;refine S.bin ?_;refine C.D (fun Pe=>?_) fun Pe=>?_
 ·exact absurd Pe (by omega)
 ·refine S.sK ?_;exact⟨_,.t rfl .nil,.done ⟨rfl,B,a3,rfl,rfl⟩⟩
theorem MZ {b:Bs} {Q:V} {o G l:Pa} {A L:IC ak} {nt:Nat} {R:List Ob} {P:bz} (d:Nat->Fz->List Ob->Prop) (hw:aa aU O Q b) (am:b.length<=1000000) (h0:d 0 O R) (I:∀q ψ R,d q ψ R->R[2]? =some (some o,.cells [Q] false)) (U:∀q ψ R,d q ψ R->R[1]? =some (some G,.cells [.j 40] false))
 (aj:∀(q:Nat) (v:V) (ψ:Fz) (R:List Ob),O.Le ψ->40*q<b.length->d q ψ R->aa aU ψ v ((b.drop (40*q)).take 40)->oD F (pN 219 nt l A L) l [v] ψ R (fun c Y M=>(c=true->d (q+1) Y M)/\c≠false))
 (hn:∀E q ψ R,O.Le ψ->b.length<=40*q->d q ψ R->P.n E ψ R):SW F (pN 219 nt l A L) B.za.den [(0,.fp l),(1,.ptr o 0),(2,.ptr G 0)] O R P:=by
 refine SC.w ?_;refine SW.loop (fun m E ψ R=>∃q:Nat,O.Le ψ/\b.length+40<=40*q+m+40/\40*q<=b.length+40/\d q ψ R/\Sub [(0,.fp l),(1,.ptr o 0),(2,.ptr G 0),(4,.j ((40*q:Nat):Int))] E) (m:=b.length) ⟨0,.refl O,by omega,by omega,h0,.r rfl⟩ ?_;intro m E ψ R an ⟨q,h,ao,ap,hi,ae⟩;refine C.sub ae ?_;refine S.ld 2 ?_ (hi:=I _ _ _ hi);refine S.len ?_ (hl:=aa.len hw);refine S.bin ?_;refine C.D (fun O7=>?_) fun O7=>?_
 ·have hq:40*q<b.length:=by omega
  obtain⟨k,hk⟩:∃k,k=min 40 (b.length-40*q):=⟨_,rfl⟩
  refine S.ld 1 ?_ (hi:=U _ _ _ hi);refine S.ld 2 ?_ (hi:=I _ _ _ hi);obtain⟨ar,ab,Z⟩:=(hw.mono h).lo (j:=40*q) (by omega);refine S.slice ab ?_;refine S.len ?_ (hl:=aa.len Z);rw[bW];refine S.kH (qU 40 (b.length-40*q)) ?_;rw[<-hk];refine S.ld 2 ?_ (hi:=I _ _ _ hi);refine S.bin ?_ (v:=.j ((40*q+k:Nat):Int)) (hv:=by rw[dz (by omega) (by omega)];(try rfl));refine S.bin ?_ (v:=.j ((40*q+k:Nat):Int)) (hv:=by rw[dz (by omega) (by omega)];(try rfl));obtain⟨al,ac,f28⟩:=(hw.mono h).full (i:=40*q) (j:=40*q+k) (by omega) (by omega);refine S.slice ac ?_;have ai:(b.drop (40*q)).take (40*q+k-40*q)=(b.drop (40*q)).take 40:=by
   rw[List.take_eq_take_iff,bW];omega
  rw[ai]at f28;refine S.yield (aj q al ψ R h hq hi f28) fun c Y M ah hc=>?_;have ag:c=true:=by cases c with|true=>rfl|false=>exact absurd rfl hc.2
  subst ag;refine S.un ?_;refine C.B (t:=!true) (fun Pn=>by cases Pn) fun _=>?_;have W:=hc.1 rfl;refine S.ld 1 ?_ (hi:=U _ _ _ W);refine S.bin ?_ (v:=.j ((40*(q+1):Nat):Int)) (hv:=by rw[dz (by omega) (by omega)];(try rfl));exact⟨m-40,by omega,q+1,h.trans ah,by omega,by omega,W,.r rfl⟩
 ·show P.n _ _ _;exact hn _ q _ _ h (by omega) hi
theorem M0 {ino idx:Int} {f:Nat} {b:Bs} (h:b=[]):ix ino f idx b=[]:=by subst h;exact Ai
def M1 (e:T V) (fn nt:Nat) (l o A d a5 a4 a3:Pa) (h:V) (n:cj) (j q:Nat) (w:V) (out:List bA) (s:Option Pa):List Ob:=
 [(some l,.loop {state:=.ready,pending:=none,fn:=fn,nt:=nt,env:=e,params:=[pa 41]}),(some A,.cells [.j 40] false),(some o,.cells [h] false),(some d,.cells [.j ((q:Int)+1)] false),(some a5,.cells [.j n.kind,.j n.mode,.str n.body] false),(some a4,.cells [.j (j:Int)] false),bq.ob s out,(some a3,.cells [w] false)]
theorem M2 [Fx F] {Q:V} {t:ao} (ht:aa aG O Q t) (Z:lY t):
 ai F 107 [Q] O [] (fun r ψ R=>R=[]/\aa bq ψ r (b3 t)) never:=by
 have ba:=Z.1;refine ar ?_;refine S.call (MX ht Z) fun v9 bv a2 aR aE=>?_;obtain⟨rfl,rfl⟩:=aE;have ht:=ht.mono aR;refine S.un ?_;refine C.B (fun OU=>?_) fun OU=>?_
 ·have e:b3 t=[]:=by unfold b3;rw[ab];intro h;rw[h]at OU;cases OU
  rw[e];exact⟨_,.t rfl .nil,.none ⟨rfl,aa.nil _⟩⟩
 ·have e:b3 t=fE 1 t:=by unfold b3;rw[ae];simpa using OU
  rw[e];refine S.alloc fun a3=>?_;refine S.len ?_ (hl:=aa.len ht);refine SW.new bq ?_;refine SW.bF (fun m E ψ R=>∃(j:Nat) (out:List bA) (v:V) (s:Option Pa),j+m=t.length/\out++fE ((j:Int)+1) (t.drop j)=fE 1 t/\out.length<=20000*j/\aa aG ψ Q t/\R=[bq.ob s out,(some a3,.cells [v] false)]/\af bq v out s/\Sub [(3,.ptr a3 0),(11,Q),(12,.j (t.length:Int)),(13,.j (j:Int))] E) (m:=t.length) (.done ⟨0,[],.no .sl,none,by omega,rfl,by simp,ht,rfl,af.nil,.r rfl⟩) ?_;intro an E ψ R al G;obtain⟨j,out,v,s,bc,d,bd,ht,rfl,ho,aH⟩:=G;refine C.sub aH ?_;refine S.bin ?_;refine C.D (fun O0=>?_) fun O0=>?_
  ·have hj:j<t.length:=by omega
   obtain⟨n,hn⟩:∃n,n=t[j]:=⟨_,rfl⟩
   have aJ:n.body.length<=10000:=by rw[hn];exact Z.2 _ (cw hj)
   rw[bQ hj,<-hn]at d;simp only[fE]at d;refine S.aF ht hj fun bh aB=>?_;rw[<-hn]at aB;refine S.bJ ?_ (l:=aG.f n);refine S.alloc fun a4=>?_;refine S.alloc fun a5=>?_;refine S.store 1 ?_;refine S.store 0 ?_;refine S.ld 0 ?_;refine S.bin ?_;refine C.D (fun Pb=>?_) fun Pb=>?_
   ·refine S.bin ?_;have U:jg ((j:Int)+1) n=[]:=by unfold jg;exact ae Pb
    rw[U,fo]at d;exact⟨an-1,by omega,.drop 0 (.drop 0 (.done ⟨j+1,out,v,s,by omega,d,by omega,ht,rfl,ho,.r rfl⟩))⟩
   ·have U:jg ((j:Int)+1) n=⟨(j:Int)+1,0,[bM n.kind,bM n.mode,bM n.body.length]⟩::ix ((j:Int)+1) n.body.length 1 n.body:=by unfold jg;exact ab Pb
    rw[U]at d;refine S.ld 3 ?_;refine S.ld 1 ?_;refine S.bin ?_ (v:=.j ((j:Int)+1)) (hv:=dz (by omega) (by omega));refine S.ld 0 ?_;refine S.ld 0 ?_;refine S.ld 0 ?_;refine S.cb ?_;refine S.a8 fun ah=>?_;have aS:af bt (.sl ah 0 3 (.ex 3)) [n.kind,n.mode,(n.body.length:Int)] (some ah):=af.new rfl;refine S.cd 0 aS fun bm aP aD=>?_;have ht:=ht.mono aP;refine S.call (rI (b:=[]) (n:=1) (aa.nil _) aD (by omega) (by omega) (by simp) (by simp)) fun bj bn aZ be o=>?_;obtain⟨o,bi,rfl,ap⟩:=o;have o:=o.symm;subst o;have aC:[]++bo 1 [n.kind,n.mode,(n.body.length:Int)]=[bM n.kind,bM n.mode,bM n.body.length]:=rfl;rw[aC]at ap⊢;refine S.bE 2 ?_;refine S.bE 4 ?_ (hs:=ho.same);refine S.hM 0 ap ?_;refine S.drop 0 ?_;refine S.build ?_;refine S.a8 fun a6=>?_;refine S.br (m:=[⟨(j:Int)+1,0,[bM n.kind,bM n.mode,bM n.body.length]⟩]) 3 ho (.lit 0) (by simp;omega) fun aV aT L=>?_;refine S.drop 0 ?_;refine S.store 3 ?_ (hs:=by rw[gV L.ax];simp[aY,L.ax]) (ch:=by rw[gV L.ax];(try rfl)) (hl:=by rw[gV L.ax];(try rfl));refine S.alloc fun ay=>?_;refine S.store 0 ?_;refine S.ld 1 ?_;refine S.jH fun v39 aW aQ aj=>?_;have ht:=ht.mono aQ;refine S.call (MY aj.ax) fun bk bs a1 bg A=>?_;obtain⟨A,az,aA,rfl,rfl⟩:=A;have A:=A.symm;subst A;have aM:=aj;have bb:n.body.length<=10000:=aJ;refine SW.ze (Fx.h (f:=219) rfl) rfl fun l e he=>?_;refine MZ (b:=n.body) (fun q ψ R=>aW.Le ψ/\∃(f:Nat) (out:List bA) (w:V) (s:Option Pa),out++(ix ((j:Int)+1) f ((q:Int)+1) (n.body.drop (40*q))++fE ((j:Int)+1+1) (t.drop (j+1)))=fE 1 t/\(n.body.drop (40*q)).length<=f/\out.length+f<=20000*j+1+n.body.length/\40*q<=n.body.length+40/\af bq w out s/\R=M1 e 107 55 l az aA ay a5 a4 a3 v39 n j q w out s) aM (by omega) ⟨.refl _,n.body.length,_,aV,aT,by rw[<-d,bp];(try rfl),by simp,by simp;omega,by omega,L,rfl⟩ (fun q ψ R h=>by obtain⟨_,_,_,_,_,_,_,_,_,_,rfl⟩:=h;rfl) (fun q ψ R h=>by obtain⟨_,_,_,_,_,_,_,_,_,_,rfl⟩:=h;rfl) ?aO ?hn
    case aO=>
     intro q v ψ aw al hq G hv;obtain⟨ac,f,au,w,av,I,ak,aK,aL,ag,Y⟩:=G;subst Y;have am:(n.body.drop (40*q)).length=n.body.length-40*q:=bW;obtain⟨W,rfl⟩:∃W,f=W+1:=⟨f-1,by omega⟩
     rw[Ah (by intro h;rw[h]at am;simp at am;omega),nY]at I;refine oD.round (r:={state:=.ready,pending:=none,fn:=107,nt:=55,env:=e,params:=[pa 41]}) rfl rfl (he.set 41 _) ?_;refine SC.w ?_;refine SC.w ?_;refine S.ld 6 ?_;refine S.ld 4 ?_;refine S.bin ?_ (v:=.j ((j:Int)+1)) (hv:=dz (by omega) (by omega));refine S.ld 2 ?_;refine S.tg hv ?_;refine S.build ?_;refine S.a8 fun a7=>?_;refine S.br (m:=[⟨(j:Int)+1,(q:Int)+1,(n.body.drop (40*q)).take 40⟩]) 6 ag (.lit 0) (by simp;omega) fun v50 aU M=>?_;refine S.drop 0 ?_;refine S.store 6 ?_ (hs:=by rw[gV M.ax];simp[aY,M.ax]) (ch:=by rw[gV M.ax];(try rfl)) (hl:=by rw[gV M.ax];(try rfl));refine S.ld 2 ?_;refine S.bin ?_ (v:=.j (((q+1:Nat):Int)+1)) (hv:=by rw[dz (by omega) (by omega)];(try rfl));refine S.store 2 ?_;refine⟨fun _=>⟨ac,W,_,v50,aU,by rw[<-I,bp];(try rfl),by rw[bW]at ak⊢;omega,by simp;omega,by omega,M,rfl⟩,by simp⟩
    intro aX q bl aw al hq G;obtain⟨ac,f,au,w,av,I,ak,aK,aL,ag,Y⟩:=G;subst Y;refine⟨_,_,rfl,(by intro h;cases h),.inl ⟨rfl,?_⟩⟩;rw[M0 (p8 hq),fo]at I;have ht:=ht.mono ac;refine S.bin ?_;exact⟨an-1,by omega,.drop 0 (.drop 0 (.drop 0 (.drop 0 (.drop 0 (.done ⟨j+1,au,w,av,by omega,I,by omega,ht,rfl,ag,.r rfl⟩)))))⟩
  ·obtain rfl:j=t.length:=by omega
   rw[b6]at d;simp only[fE,e9]at d;rw[d]at ho⊢;refine S.ld 1 ?_;exact⟨_,.t rfl .nil,.drop 1 (.bL 0 rfl ho fun ψ l aI=>.done ⟨rfl,aI⟩)⟩
set_option maxHeartbeats 1000000
theorem M3 {t:ao} (h:bH t=true):b3 t≠[]:=by
 obtain⟨d,hk,_⟩:=wJ h;unfold b3;rw[ae h];cases t with
 |nil=>simp at d
 |cons n r=>
  have hn:n.kind=2:=hk;simp only[fE];unfold jg;rw[ab (by omega)];simp
theorem M4 {l:List bA} {t:ao} (h:hQ (List.replicate 9 ef) l=some t) (o:(b3 t).length≠0) (aj:b3 t=l):ei l=some t:=by
 unfold ei;rw[h];simp only;have hm:bH t=true:=by
  apply Decidable.byContradiction;intro hm;apply o;unfold b3;rw[ab hm];(try rfl)
 rw[hm,aj];simp
theorem M5 {l:List bA} {t:ao} (h:hQ (List.replicate 9 ef) l=some t) (o:(b3 t).length=0\/b3 t≠l):ei l=none:=by
 unfold ei;rw[h];simp only;rw[ab];intro hm;simp only[be,aR]at hm;rcases o with o|o
 ·exact M3 hm.1 (e8 o)
 ·exact o hm.2
theorem M6 [Fx F] {dL:Pa} {t:ao} {r:bA} (U:t.length=9) (Q:∀x∈t,x.body.length<=10000) (ac:r.load.length<=60) (Z:0<=r.idx):
 ai F 234 [.agg [.sl dL 0 9 (.ex 9)],.agg (bq.f r)] O [aG.ob (some dL) t] (fun v ψ R=>ψ=O/\v=.bool (ez t r).isSome/\R=[aG.ob (some dL) ((ez t r).getD t)]) never:=by
 have I:af aG (.sl dL 0 9 (.ex 9)) t (some dL):=af.new U;refine ar ?_;refine S.box fun W=>?_;refine S.box fun a3=>?_;refine S.ld 0 ?_;refine S.bin ?_;refine G.aD ?_;refine G.ld 0 ?_;refine G.aD ?_;refine G.ld 1 ?_;refine G.len ?_ (hl:=af.len I);refine G.bin ?_;refine G.or ?_;refine C.B (fun O3=>?_) fun O3=>?_
 ·have d:ez t r=none:=by
   unfold ez;rw[ae];simp only[cx,aR]at O3;omega
  refine⟨_,.t rfl .nil,.drop 0 (.drop 0 (.done ⟨rfl,by rw[d];(try rfl),by rw[d];(try rfl)⟩))⟩
 ·simp only[cg,bD]at O3;obtain⟨i,hi⟩:∃i:Nat,r.ino-1=(i:Int):=⟨(r.ino-1).toNat,by omega⟩
  have h:i<t.length:=by omega
  have Y:=Q _ (cw h);refine S.ld 1 ?_;refine S.ld 0 ?_;refine S.bin ?_ (v:=.j (i:Int)) (hv:=by rw[fU (by omega) (by omega),hi]);refine S.ct I h fun a22 L=>?_;cases L;refine S.ld 0 ?_;refine S.bin ?_;refine C.D (fun OW=>?_) fun OW=>?_
  ·have d:ez t r=some (t.set i {t[i]with body:=t[i].body++r.load}):=by
    unfold ez;rw[ab (by omega),ab (by omega),pW hi,ri hi h]
   refine S.aD ?_;refine S.eJ (e:=aG) (l:=t) (j:=i) 2 2 ?_;refine S.ld 0 ?_;refine S.bin ?_;refine S.aD ?_;refine S.pM (e:=aG) (l:=t) (j:=i) {t[i]with body:=t[i].body++r.load} 2 2 ?_;refine⟨_,.t rfl .nil,.drop 0 (.drop 0 (.done ⟨rfl,by rw[d];(try rfl),by rw[d];(try rfl)⟩))⟩
  ·refine S.ld 0 ?_;refine S.cb ?_;refine S.bin ?_;refine C.B (fun A=>?_) fun A=>?_
   ·have d:ez t r=none:=by unfold ez;rw[ab (by omega),ae (by omega),ab (by simp at A;omega)]
    refine⟨_,.t rfl .nil,.drop 0 (.drop 0 (.done ⟨rfl,by rw[d];(try rfl),by rw[d];(try rfl)⟩))⟩
   ·have M:r.load.length=3:=by simp at A;omega
    have h0:r.load[0]? =some r.load[0]:=bj (by omega);have o:r.load[1]? =some r.load[1]:=bj (by omega);have d:ez t r=some (t.set i {t[i]with kind:=(r.load[0]).toNat,mode:=(r.load[1]).toNat}):=by
     unfold ez;rw[ab (by omega),ae (by omega),ae M,pW hi,ri hi h,h0,o];(try rfl)
    refine S.ld 0 ?_;refine S.gy h0 ?_;refine S.iY ?_;refine S.ld 0 ?_;refine S.gy o ?_;refine S.iY ?_;refine S.aD ?_;refine S.pM (e:=aG) (l:=t) (j:=i) {t[i]with kind:=(r.load[0]).toNat} 0 2 ?_;refine S.zN (b:=r.load[1]) ?_;refine S.bE 0 ?_;refine S.aD ?_;refine S.pM (e:=aG) (l:=t.set i {t[i]with kind:=(r.load[0]).toNat}) (j:=i) {t[i]with kind:=(r.load[0]).toNat,mode:=(r.load[1]).toNat} 1 2 ?_ (hj:=by simpa using h) (hu:=by rw[ua];(try rfl));refine⟨_,.t rfl .nil,.drop 0 (.drop 0 (.done ⟨rfl,by rw[d];(try rfl),by rw[d];exact congrArg (fun x=>[aG.ob (some dL) x]) (List.set_set _)⟩))⟩
theorem M7 {t j:ao} {r:bA} {B:Nat} (h:ez t r=some j) (hl:t.length=9) (d:∀x∈t,x.body.length<=60*B) (hr:r.load.length<=60):j.length=9/\∀x∈j,x.body.length<=60*(B+1):=by
 unfold ez at h;split at h
 ·cases h
 ·rename_i h0;obtain⟨i,hi⟩:∃i:Nat,r.ino-1=(i:Int):=⟨(r.ino-1).toNat,by omega⟩
  have o:i<t.length:=by omega
  have A:=d _ (cw o);rw[pW hi,pW hi,ri hi o]at h;split at h
  ·split at h
   ·cases h;refine⟨by simpa using hl,fun x hx=>?_⟩;rcases o5 hx with hx|rfl
    ·have:=d x hx;omega
    ·show(t[i]).body.length<=_;omega
   ·cases h
  ·cases h;refine⟨by simpa using hl,fun x hx=>?_⟩;rcases o5 hx with hx|rfl
   ·have:=d x hx;omega
   ·show((t[i]).body++r.load).length<=_;rw[c2];omega
theorem M8 [Fx F] {W:V} {l:List bA} (hl:aa bq O W l) (hlen:l.length<=150) (am:∀r∈l,r.load.length<=60/\0<=r.idx):
 ai F 201 [W] O [] (fun r ψ R=>R=[]/\∃ac,r=.aN [ac,.bool (ei l).isSome]/\aa aG ψ ac ((ei l).getD [])) never:=by
 refine ar ?_;refine S.oE (e:=aG) ef (n:=9) (by omega) (by omega) fun dL aD=>?_;refine S.build ?_;refine S.alloc fun a4=>?_;refine S.store 0 ?_;refine S.len ?_ (hl:=aa.len hl);refine SW.bF (fun m E ψ R=>∃(j:Nat) (t:ao),j+m=l.length/\hQ (List.replicate 9 ef) l=hQ t (l.drop j)/\t.length=9/\(∀x∈t,x.body.length<=60*j)/\O=ψ/\R=[(some a4,.cells [.sl dL 0 9 (.ex 9)] false),aG.ob (some dL) t]/\Sub [(0,W),(4,.ptr a4 0),(10,W),(11,.j (l.length:Int)),(12,.j (j:Int))] E) (m:=l.length) (.done ⟨0,List.replicate 9 ef,by omega,rfl,by simp,fun x hx=>by rw[mZ hx];simp[ef],rfl,rfl,.r rfl⟩) ?_;intro ap E ψ R aB aj;obtain⟨j,t,aA,d,Z,Y,rfl,rfl,ah⟩:=aj;refine C.sub ah ?_;refine S.bin ?_;refine C.D (fun O6=>?_) fun O6=>?_
 ·have hj:j<l.length:=by omega
  obtain⟨r,hr⟩:∃r,r=l[j]:=⟨_,rfl⟩
  have U:=am l[j] (cw hj);rw[<-hr]at U;rw[bQ hj,<-hr]at d;refine S.aF hl hj fun aE ae=>?_;rw[<-hr]at ae;refine S.bJ ?_ (l:=[.j r.ino,.j r.idx,.str r.load]);refine S.alloc fun ay=>?_;refine S.store 0 ?_;refine S.ag 1 ?_ (l:=[.sl dL 0 9 (.ex 9)]);refine S.ag 0 ?_ (l:=[.j r.ino,.j r.idx,.str r.load]);refine S.ba 2 rfl (M6 (dL:=dL) (t:=t) (r:=r) Z (fun x hx=>by have:=Y x hx;omega) U.1 U.2) fun aH aJ av aC L=>?_;obtain⟨L,rfl,rfl⟩:=L;have L:=L.symm;subst L;refine S.un ?_;refine C.B (fun OZ=>?_) fun OZ=>?_
  ·have o:ez t r=none:=by cases h:ez t r with
    |none=>rfl
    |some A=>rw[h]at OZ;cases OZ
   have e:ei l=none:=by
    unfold ei;rw[d];simp only[hQ];rw[o]
   clear o;exact⟨_,.t rfl (.t rfl .nil),.none ⟨rfl,_,by rw[e];(try rfl),by rw[e];exact aa.nil _⟩⟩
  ·refine S.bin ?_;obtain⟨A,o⟩:∃A,ez t r=some A:=by cases h:ez t r with
    |none=>rw[h]at OZ;cases OZ
    |some A=>exact⟨A,rfl⟩
   rw[o];simp only[hQ]at d;rw[o]at d;simp only at d;obtain⟨an,k2⟩:=M7 o Z Y U.1;exact⟨ap-1,by omega,.drop 1 (.front 1 rfl (.done ⟨j+1,A,by omega,d,an,fun x hx=>by have:=k2 x hx;omega,rfl,rfl,.r rfl⟩))⟩
 ·obtain rfl:j=l.length:=by omega
  rw[b6]at d;simp only[hQ]at d;have au:af aG (.sl dL 0 9 (.ex 9)) t (some dL):=af.new Z;have ak:lY t:=⟨by omega,fun x hx=>by have:=Y x hx;omega⟩
  refine S.ld 0 ?_;refine S.cd 1 au fun aL lt Q=>?_;have hl:=hl.mono lt;refine S.call (M2 Q ak) fun aI aK aw ab M=>?_;obtain⟨rfl,M⟩:=M;have hl:=hl.mono ab;have Q:=Q.mono ab;have az:=AX t;refine S.len ?_ (hl:=aa.len M);refine S.bin ?_;refine G.mv ?_;refine G.mv ?_;refine G.al (fun _=>MC M hl (by omega)) ?_;refine G.un ?_;refine G.or ?_;refine C.B (fun I=>?_) fun I=>?_
  ·have e:ei l=none:=by
    refine M5 d ?_;simp only[cx,aR,c3,bD]at I;rcases I with h|h
    ·exact .inl (by omega)
    ·exact .inr h
   exact⟨_,.t rfl (.t rfl .nil),.none ⟨rfl,_,by rw[e];(try rfl),by rw[e];exact aa.nil _⟩⟩
  ·have e:ei l=some t:=by
    simp only[cg,bD,du,aR]at I;exact M4 d (by omega) I.2
   refine S.ld 0 ?_;exact⟨_,.t rfl (.t rfl .nil),.none ⟨rfl,_,by rw[e];(try rfl),by rw[e];exact Q⟩⟩
end Go.Ev
