/- A part of the proof of glacislaw13.LiveOnce. -/
import Derived.Test.YtebhegkangheiaaGreatDoorOG
set_option maxHeartbeats 2000000
namespace Go.Ev
variable{F:Nat->Option aP} {O:Fz}
theorem tl {U:Type} (p:U->Bool) {l:List U} {j:Nat} (hj:j<l.length):(l.take (j+1)).all p=((l.take j).all p&&p l[j]):=by
 rw[fm hj,rW];simp
theorem vR [Fx F] {s:Bs} (hs:s.length<=1000000):bm F 207 [.str s] O (.bool (et s)):=by
 refine ai.al (ar ?_);refine SW.loop (fun m E ψ R=>∃j:Nat,j+m=s.length/\(s.take j).all (fun c=>!oF c)=true/\Sub [(0,.str s),(3,.j (j:Int))] E) (m:=s.length) ⟨0,by omega,rfl,.r rfl⟩ ?_;intro L E ψ R M A;obtain⟨j,hj,ha,h⟩:=A;refine C.sub h ?_;refine S.cb ?_;refine S.bin ?_;refine C.D (fun Pk=>?_) fun Pk=>?_
 ·have d:j<s.length:=by omega
  have I:s[j]? =some s[j]:=bj d;refine S.gy I ?_;refine S.bin ?_;refine G.mv ?_;refine G.mv ?_;refine G.gy ?_;refine G.bin ?_;refine G.or ?_;refine G.mv ?_;refine G.mv ?_;refine G.gy ?_;refine G.bin ?_;refine G.or ?_;refine C.B (fun OW=>?_) fun OW=>?_
  ·have o:et s=false:=by
    unfold et;rw[iF];left;rw[List.all_eq_false];exact⟨s[j],cw d,by unfold oF;rw[OW];simp⟩
   rw[o];exact⟨_,.t rfl .nil,.done rfl⟩
  ·refine S.bin ?_;refine⟨L-1,by omega,j+1,by omega,?_,.r rfl⟩;rw[tl _ d,ha,gL];unfold oF;rw[OW];(try rfl)
 ·have o:j=s.length:=by omega
  rw[o,dT]at ha;have aj:et s=(decide ((1:Int)<=(s.length:Int))&&decide ((s.length:Int)<=6)):=by unfold et;rw[ha,gL]
  rw[aj];refine S.cb ?_;refine S.bin ?_;refine G.mv ?_;refine G.cb ?_;refine G.bin ?_;refine G.and ?_;refine⟨_,.t rfl .nil,.done ?_⟩;rfl
theorem JL [Fx F] {s:Bs} (hs:s.length<=1000000):bm F 208 [.str s] O (.bool (vK s)):=by
 refine ai.al (ar ?_);refine S.al (vR hs) ?_;have hz:et s=true->s[0]? =some ((s[0]?).getD 0):=fun h=>by
  unfold et at h;simp only[be,aR]at h;rw[bj (show 0<s.length by omega)];(try rfl)
 refine G.mv ?_;refine G.gy (j:=0) ?_;refine G.bin ?_;refine G.and ?_;refine⟨_,.t rfl .nil,.done ?_⟩;show V.bool _=V.bool _;congr 1;unfold vK;cases ho:et s with
 |false=>rfl
 |true=>
  have h0:=hz ho;have o:s.head? =some ((s[0]?).getD 0):=by rw[List.head?_eq_getElem?];exact h0
  rw[gL,gL,o];congr 1;refine decide_eq_decide.2 ⟨fun h=>?_,fun h=>?_⟩
  ·congr 1;refine qi.1 ?_;show _=126;omega
  ·simp only[aL]at h;rw[h];(try rfl)
theorem oL [Fx F] {path:Bs} {own:Bool} (hp:path.length<=100000):
 ai F 151 [.str path,.bool own] O [] (fun r ψ R=>∃v,r=.aN [v,.bool (parts path own).isSome]/\aa dA ψ v ((parts path own).getD [])/\R=[]) never:=by
 refine ar ?_;refine S.bin ?_;refine C.D (fun OU=>?_) fun OU=>?_
 ·have e:parts path own=some []:=by unfold parts;exact ae OU
  rw[e];exact⟨_,.t rfl (.t rfl .nil),.none ⟨_,rfl,aa.nil _,rfl⟩⟩
 ·refine S.cb ?_;refine S.bin ?_;have hz:(!decide ((path.length:Int)=0))=true->path[0]? =some ((path[0]?).getD 0):=fun h=>by
   simp only[c3,bD]at h;rw[bj (show 0<path.length by omega)];(try rfl)
  refine G.mv ?_;refine G.gy (j:=0) ?_;refine G.bin ?_;refine G.or ?_;refine C.B (fun OY=>?_) fun OY=>?_
  ·have e:parts path own=none:=by
    unfold parts;rw[ab OU];cases path with
    |nil=>rfl
    |cons c r=>
     simp only[b7,gd,kq,cx,aR,c3,bD]at OY;exact ab (by omega)
   rw[e];exact⟨_,.t rfl (.t rfl .nil),.none ⟨_,rfl,aa.nil _,rfl⟩⟩
  ·obtain⟨rest,hr,e⟩:∃rest,path=47::rest/\parts path own=fX own rest [] []:=by
    unfold parts;rw[ab OU];cases path with
    |nil=>simp at OY
    |cons c r=>
     simp only[b7,gd,kq,cg,bD,du,aR]at OY;have L:c.toNat=47:=by omega
     exact⟨r,by rw[qi.1 (show c.toNat=(47:UInt8).toNat by rw[L];(try rfl))],ae L⟩
   rw[e];refine SW.new dA ?_;refine SW.loop (fun m E ψ R=>∃(i:Nat) (name:Bs) (out:List Bs) (v:V) (s:Option Pa),i+m=path.length+1/\1<=i/\name.length<=i/\out.length<=i/\((i<=path.length/\fX own rest [] []=fX own (path.drop i) name out)\/(i=path.length+1/\fX own rest [] []=some out))/\R=[dA.ob s out]/\af dA v out s/\Sub [(0,.str path),(1,.bool own),(6,v),(7,.str name),(8,.j (i:Int))] E) (m:=path.length) ⟨1,[],[],.no .sl,none,by omega,by omega,by simp,by simp,.inl ⟨by rw[hr];simp,by rw[hr];(try rfl)⟩,rfl,af.nil,.r rfl⟩ ?_;intro W E ψ R ao Z;obtain⟨i,name,out,v,s,hm,an,hn,ap,U,rfl,ho,Y⟩:=Z;refine C.sub Y ?_;refine S.cb ?_;refine S.bin ?_;refine C.D (fun O2=>?_) fun O2=>?_
   ·obtain⟨hi,I⟩:i<=path.length/\fX own rest [] []=fX own (path.drop i) name out:=by
     rcases U with h|h
     ·exact h
     ·omega
    have hz:decide ((i:Int)<(path.length:Int))=true->path[i]? =some ((path[i]?).getD 0):=fun h=>by
     rw[bj (show i<path.length by simp at h;omega)];(try rfl)
    refine S.cb ?_;refine S.bin ?_;refine G.mv ?_;refine G.mv ?_;refine G.gy (j:=i) ?_;refine G.bin ?_;refine G.and ?_;refine C.B (fun A=>?_) fun A=>?_
    ·simp only[be,aR,c3,bD]at A;have d:i<path.length:=by omega
     rw[bj d,kq]at A;rw[bQ d]at I;have ag:fX own rest [] []=fX own (path.drop (i+1)) (name++[path[i]]) out:=by rw[I];simp only[fX];exact ab (by omega)
     refine S.bin ?_;refine S.gO (tf (s:=path) (i:=i) (j:=i+1) (by omega) (by omega)) ?_;rw[show(path.drop i).take (i+1-i)=[path[i]] by rw[mV,bQ d];(try rfl)];refine S.bin ?_ (hv:=my (by simp;omega));refine S.bin ?_;refine⟨W-1,by omega,i+1,_,out,v,s,by omega,by omega,by simp;omega,by omega,.inl ⟨by omega,ag⟩,rfl,ho,.r rfl⟩
    ·have o:fX own rest [] []=if mD own name out.length then none else(if i<path.length then fX own (path.drop (i+1)) [] (out++[name])else some (out++[name])):=by
      rw[I];by_cases d:i<path.length
      ·rw[bQ d];simp only[fX];have L:(path[i]).toNat=47:=by
        simp only[iF,bD,du,aR]at A;rw[bj d,kq]at A;omega
       rw[ae L,ae d]
      ·rw[jS (by omega)];simp only[fX];rw[ab d]
     refine S.al (vR (s:=name) (by omega)) ?_;refine S.un ?_;refine G.mv ?_;refine G.un ?_;refine G.mv ?_;refine G.mv ?_;refine G.al (fun _=>JL (s:=name) (by omega)) ?_;refine G.un ?_;refine G.fV ?_;refine G.or ?_;refine G.mv ?_;refine G.len ?_;refine G.bin ?_;refine G.or ?_;refine C.B (fun M=>?_) fun M=>?_
     ·have Q:mD own name out.length=true:=by unfold mD;rw[show decide (8<=out.length)=decide ((8:Int)<=(out.length:Int))from decide_eq_decide.2 (by omega)];exact M
      rw[Q,ae rfl]at o;rw[o];exact⟨_,.t rfl (.t rfl .nil),.none ⟨_,rfl,aa.nil _,rfl⟩⟩
     ·have Q:mD own name out.length=false:=by unfold mD;rw[show decide (8<=out.length)=decide ((8:Int)<=(out.length:Int))from decide_eq_decide.2 (by omega)];exact M
      rw[Q,ab (by simp)]at o;refine S.a8 fun am=>?_;refine S.br (m:=[name]) 1 ho (.lit 0) (by simp;omega) fun ak aj ah=>?_;refine S.drop 0 ?_;refine S.mv ?_;refine S.bin ?_;refine⟨W-1,by omega,i+1,[],out++[name],ak,aj,by omega,by omega,by simp,by simp;omega,?_,rfl,ah,.r rfl⟩;by_cases d:i<path.length
      ·rw[ae d]at o;exact .inl ⟨by omega,o⟩
      ·rw[ab d]at o;exact .inr ⟨by omega,o⟩
   ·obtain⟨_,I⟩:i=path.length+1/\fX own rest [] []=some out:=by
     rcases U with h|h
     ·omega
     ·exact h
    rw[I];refine⟨_,.t rfl (.t rfl .nil),.bL 0 rfl ho fun ψ hl ac=>.none ⟨_,rfl,ac,rfl⟩⟩
def nI (l:List aX) (j:Nat):Option Bs:=if j=0 then none else some ((l[j-1]?).getD ⟨[],0⟩).name
theorem zy {l:List aX} {j:Nat} (hj:j<l.length):nI l (j+1)=some (l[j]).name:=by
 unfold nI;rw[ab (by omega),qb,bj hj];(try rfl)
theorem JM {l:List aX} {j:Nat} {s:Bs} (hj:j<l.length) (z:aX) (hz:0<j->l[j-1]? =some z):
 (!et (l[j]).name||decide ((l[j]).ino<1)||decide (9<(l[j]).ino)||(decide ((0:Int)<(j:Int))&&!iu z.name (l[j]).name)||decide ((120:Int)<(s.length:Int)))=mE (nI l j) (l[j]) s:=by
 unfold mE nI;rw[show decide ((120:Int)<(s.length:Int))=decide (120<s.length)from decide_eq_decide.2 (by omega)];by_cases h0:j=0
 ·subst h0;simp
 ·rw[ab h0,hz (by omega),decide_eq_true (show(0:Int)<(j:Int) by omega)];simp
theorem vS [Fx F] {I:V} {l:List aX} (hl:aa cC O I l) (hlen:l.length<=1000000) (W:∀e∈l,e.name.length<=100000):bm F 147 [I] O (.aN [.str ((eK l).getD []),.bool (eK l).isSome]):=by
 refine ai.al (ar ?_);refine SW.bF (fun m E ψ R=>∃(j:Nat) (s:Bs),j+m=l.length/\eK l=eu (nI l j) s (l.drop j)/\s.length<=200/\O=ψ/\R=[]/\Sub [(0,I),(4,.str s),(5,.j (j:Int))] E) (m:=l.length) (.done ⟨0,[],by omega,rfl,by simp,rfl,rfl,.r rfl⟩) ?_;intro Y E ψ R ak U;obtain⟨j,s,hm,d,ao,rfl,rfl,Q⟩:=U;refine C.sub Q ?_;refine S.len ?_;refine S.bin ?_;refine C.D (fun OU=>?_) fun OU=>?_
 ·have hj:j<l.length:=by omega
  rw[bQ hj]at d;simp only[eu]at d;have an:=W _ (cw hj);have hz:0<j->l[j-1]? =some ((l[j-1]?).getD ⟨[],0⟩):=fun h=>by rw[bj (show j-1<l.length by omega)];(try rfl)
  refine S.aF hl hj fun ap ah=>?_;refine S.bJ ?_;refine S.alloc fun ac=>?_;refine S.store 0 ?_;refine S.ld 0 ?_;refine S.al (vR (s:=(l[j]).name) (by omega)) ?_;refine S.un ?_;refine G.aD ?_;refine G.ld 0 ?_;refine G.bin ?_;refine G.or ?_;refine G.aD ?_;refine G.ld 0 ?_;refine G.bin ?_;refine G.or ?_;refine G.mv ?_;refine G.bin ?_;refine G.mv ?_;refine G.mv ?_;refine G.mv ?_;refine G.bin ?_ (hv:=fun o=>vI (by simp at o;omega) (by omega));refine G.aF hl (fun au M=>?_) (hj:=fun o=>hz (by simp at o;omega));refine G.bl M fun av aj=>?_;refine G.a1 ?_;refine G.aD ?_;refine G.ld 0 ?_;refine G.bin ?_ (hv:=fun _=>zk);refine G.fV ?_;refine G.or ?_;refine G.mv ?_;refine G.cb ?_;refine G.bin ?_;refine G.or ?_;rw[JM hj _ hz];refine C.B (fun A=>?_) fun A=>?_
  ·rw[ae A]at d;rw[d];exact⟨_,.t rfl (.t rfl .nil),.none rfl⟩
  ·rw[ab (by rw[A];simp)]at d;have o:=A;simp only[mE,cg,du,bD]at o;have am:(l[j]).name.length<=6:=by
    have:=o.1.1.1.1;unfold et at this;simp only[be,aR]at this;omega
   refine S.ld 0 ?_;refine S.cb ?_;refine S.mw ?_;rw[te];refine S.a8 fun Z=>?_;refine S.hM 0 (af.new (e:=aU) (l:=[bM ((l[j]).name.length:Int)]) rfl) ?_;refine S.bin ?_ (hv:=my (by simp;omega));refine S.ld 1 ?_;refine S.bin ?_ (hv:=my (by simp;omega));refine S.ld 1 ?_;refine S.mw ?_;rw[te];refine S.a8 fun ag=>?_;refine S.hM 0 (af.new (e:=aU) (l:=[bM (l[j]).ino]) rfl) ?_;refine S.bin ?_ (hv:=my (by simp;omega));refine S.bin ?_;refine⟨Y-1,by omega,.none ⟨j+1,_,by omega,?_,?_,rfl,rfl,.r rfl⟩⟩
   ·rw[d,zy hj];congr 1;simp[oG,le]
   ·simp;omega
 ·have hj:j=l.length:=by omega
  subst hj;rw[b6]at d;simp only[eu]at d;refine S.cb ?_;refine S.bin ?_;refine C.D (fun L=>?_) fun L=>?_
  ·rw[ae (by omega)]at d;rw[d];exact⟨_,.t rfl (.t rfl .nil),.none rfl⟩
  ·rw[ab (by omega)]at d;rw[d];refine⟨_,.t rfl (.t rfl .nil),.done ?_⟩;rfl
theorem zz:∀(f:Nat) (b:Bs) (d l:List aX),gr f b d=some l->(∀e∈d,e.name.length<=6)->∀e∈l,e.name.length<=6:=by
 intro f
 induction f with
 |zero=>intro b d l h ha;cases b with
  |nil=>simp only[gr,aL]at h;subst h;exact ha
  |cons c r=>simp[gr]at h
 |succ f j=>intro b d l h ha;cases b with
  |nil=>simp only[gr,aL]at h;subst h;exact ha
  |cons c r=>
   simp only[gr]at h;split at h
   ·cases h
   ·rename_i hc;refine j _ _ _ h fun e he=>?_;rw[fK,hB]at he;rcases he with he|rfl
    ·exact ha e he
    ·show(r.take c.toNat).length<=6;rw[cE];omega
theorem JN {b:Bs} {l:List aX} (h:cv b=some l):∀e∈l,e.name.length<=6:=by
 unfold cv at h;split at h
 ·cases h
 ·rename_i l' hl;split at h
  ·cases h;exact zz _ _ _ _ hl (fun e he=>by cases he)
  ·cases h
theorem zA {t:ao} {i:Int}:∀e∈aW t i,e.name.length<=6:=by
 unfold aW;split
 ·intro e he;cases he
 ·cases h:cv (nodeAt t i).body with
  |none=>intro e he;cases he
  |some l=>exact JN h
theorem zB [Fx F] {b:Bs} (ah:b.length<=1000000):
 ai F 80 [.str b] O [] (fun r ψ R=>∃v,r=.aN [v,.bool (cv b).isSome]/\aa cC ψ v ((cv b).getD [])/\R=[]) never:=by
 refine ar ?_;refine SW.new cC ?_;refine SW.loop (fun m E ψ R=>∃(j:Nat) (d:List aX) (v:V) (s:Option Pa),j<=b.length/\b.length<=j+m/\gr b.length b []=gr m (b.drop j) d/\d.length<=j/\R=[cC.ob s d]/\af cC v d s/\Sub [(0,.str b),(4,v),(5,.j (j:Int))] E) (m:=b.length) ⟨0,[],.no .sl,none,by omega,by omega,rfl,by simp,rfl,af.nil,.r rfl⟩ ?_;intro L E ψ R am W;obtain⟨j,d,v,s,hj,hm,A,ag,rfl,ho,U⟩:=W;refine C.sub U ?_;refine S.cb ?_;refine S.bin ?_;refine C.D (fun Ph=>?_) fun Ph=>?_
 ·have Q:j<b.length:=by omega
  obtain⟨f,rfl⟩:∃f,L=f+1:=⟨L-1,by omega⟩
  rw[bQ Q]at A;simp only[gr]at A;have ak:(b.drop (j+1)).length=b.length-(j+1):=bW;have aj:=(b[j]).toNat_lt;refine S.gy (bj Q) ?_;refine S.iY ?_;refine S.bin ?_;refine G.mv ?_;refine G.mv ?_;refine G.bin ?_;refine G.bin ?_;refine G.mv ?_;refine G.cb ?_;refine G.bin ?_;refine G.or ?_;refine C.B (fun Pd=>?_) fun Pd=>?_
  ·simp only[cx,aR]at Pd;rw[ae (by omega)]at A;have e:cv b=none:=by unfold cv;rw[A]
   rw[e];exact⟨_,.t rfl (.t rfl .nil),.none ⟨_,rfl,aa.nil _,rfl⟩⟩
  ·simp only[cg,bD]at Pd;rw[ab (by omega)]at A;obtain⟨n,hn⟩:∃n,n=(b[j]).toNat:=⟨_,rfl⟩
   rw[<-hn]at A Pd⊢;refine S.bin ?_;refine S.bin ?_;refine S.bin ?_;refine S.gO (tf (s:=b) (i:=j+1) (j:=j+1+n) (by omega) (by omega)) ?_;rw[mV];refine S.bin ?_;refine S.bin ?_;refine S.gy (j:=j+1+n) (bj (show j+1+n<b.length by omega)) ?_;refine S.iY ?_;refine S.build ?_;refine S.a8 fun a45=>?_;refine S.br (m:=[⟨(b.drop (j+1)).take n,((b[j+1+n]).toNat:Int)⟩]) 1 ho (.lit 0) (by simp;omega) fun v46 ac Z=>?_;refine S.drop 0 ?_;refine S.mv ?_;refine S.bin ?_;refine S.bin ?_;refine⟨f,by omega,j+n+2,_,v46,ac,by omega,by omega,?_,by simp;omega,rfl,Z,.r rfl⟩;rw[A,nY,gJ,bj (show j+1+n<b.length by omega),show j+1+(n+1)=j+n+2 by omega];(try rfl)
 ·obtain rfl:j=b.length:=by omega
  rw[b6]at A;have M:gr b.length b []=some d:=by rw[A];cases L<;>rfl
  have e:cv b=if eK d=some b then some d else none:=by unfold cv;rw[M]
  rw[e];refine S.cd 0 ho fun ao an o=>?_;refine S.al (vS o (by omega) (fun e he=>fL (zz _ _ _ _ M (fun e he=>by cases he) e he) (by omega))) ?_;refine S.un ?_;refine G.mv ?_;refine G.mv ?_;refine G.bin ?_;refine G.or ?_;refine C.B (fun I=>?_) fun I=>?_
  ·have Y:¬eK d=some b:=by
    intro h;rw[h]at I;simp at I
   rw[ab Y];exact⟨_,.t rfl (.t rfl .nil),.none ⟨_,rfl,aa.nil _,rfl⟩⟩
  ·have he:eK d=some b:=by
    cases hp:eK d with
    |none=>rw[hp]at I;simp at I
    |some x=>rw[hp]at I;simp at I;rw[I]
   rw[ae he];exact⟨_,.t rfl (.t rfl .nil),.none ⟨_,rfl,o,rfl⟩⟩
theorem JO {l:List aX} {name:Bs} {j:Nat} (hj:j<l.length) (h:fe l name=fe (l.drop j) name):fe l name=if(l[j]).name=name then some (l[j]).ino else fe (l.drop (j+1)) name:=by
 rw[h,bQ hj];unfold fe;rw[List.find?_cons];by_cases he:(l[j]).name=name
 ·rw[ae he,decide_eq_true he];(try rfl)
 ·rw[ab he,decide_eq_false he]
theorem pR [Fx F] {h:V} {l:List aX} {name:Bs} (hl:aa cC O h l) (hlen:l.length<=1000000):bm F 153 [h,.str name] O (.aN [.j ((fe l name).getD 0),.bool (fe l name).isSome]):=by
 refine ai.al (ar ?_);refine SW.loop (fun m E ψ R=>∃j:Nat,j+m=l.length/\fe l name=fe (l.drop j) name/\O=ψ/\R=[]/\Sub [(0,h),(1,.str name),(6,.j (j:Int))] E) (m:=l.length) ⟨0,by omega,rfl,rfl,rfl,.r rfl⟩ ?_;intro I E ψ R Q G;obtain⟨j,hm,d,rfl,rfl,B⟩:=G;refine C.sub B ?_;refine S.len ?_;refine S.bin ?_;refine C.D (fun OU=>?_) fun OU=>?_
 ·have hj:j<l.length:=by omega
  have d:=JO hj d;refine S.aF hl hj fun U o=>?_;refine S.bl o fun W L=>?_;refine S.a1 ?_;refine S.bin ?_;refine C.D (fun OZ=>?_) fun OZ=>?_
  ·rw[ae OZ]at d;rw[d];refine S.aF hl hj fun Y A=>?_;refine S.bl A fun Z M=>?_;refine S.a1 ?_;refine⟨_,.t rfl (.t rfl .nil),.done ?_⟩;rfl
  ·rw[ab OZ]at d;refine S.bin ?_;exact⟨I-1,by omega,j+1,by omega,d,rfl,rfl,.r rfl⟩
 ·obtain rfl:j=l.length:=by omega
  rw[b6]at d;rw[d];refine⟨_,.t rfl (.t rfl .nil),.done ?_⟩;rfl
theorem JP (e:aX) (l:List aX):(iZ e l).length=l.length+1:=by
 induction l with
 |nil=>rfl
 |cons x r d=>simp only[iZ];split<;>simp[d]
theorem JQ [Fx F] {o:V} {l:List aX} {e:aX} (hl:aa cC O o l) (hlen:l.length<=1000000):
 ai F 210 [o,.agg [.str e.name,.j e.ino]] O [] (fun r ψ R=>∃v,r=.aN [v,.bool (iv l e).2]/\aa cC ψ v (iv l e).1/\R=[]) never:=by
 refine ar ?_;refine S.box fun a3=>?_;refine S.ld 0 ?_;refine S.al (pR hl hlen) ?_;refine C.B (fun OY=>?_) fun OY=>?_
 ·have I:iv l e=(l,false):=by unfold iv;exact ae OY
  rw[I];exact⟨_,.t rfl (.t rfl .nil),.none ⟨_,rfl,hl,rfl⟩⟩
 ·have I:iv l e=(iZ e l,true):=by unfold iv;exact ab (by rw[OY];simp)
  rw[I];refine SW.new cC ?_;refine SW.bF (fun m E ψ R=>∃(j:Nat) (out:List aX) (v:V) (s:Option Pa) (p:Bool),j+m=l.length/\out.length=j+p.toNat/\iZ e l=out++(if p then l.drop j else iZ e (l.drop j))/\O=ψ/\R=[cC.ob s out,(some a3,.cells [.str e.name,.j e.ino] false)]/\af cC v out s/\Sub [(0,o),(3,.ptr a3 0),(8,v),(9,.bool p),(10,.j (j:Int))] E) (m:=l.length) (.done ⟨0,[],.no .sl,none,false,by omega,rfl,rfl,rfl,rfl,af.nil,.r rfl⟩) ?_;intro ak E ψ R ac Y;obtain⟨j,out,v,s,p,hm,Q,d,rfl,rfl,ho,L⟩:=Y;refine C.sub L ?_;refine S.len ?_;refine S.bin ?_;refine C.D (fun O5=>?_) fun O5=>?_
  ·have U:=o8 p;have hj:j<l.length:=by omega
   rw[bQ hj]at d;refine S.un ?_;refine G.mv ?_;refine G.mv ?_;refine G.aF hl (z:=l[j]) (fun aC W=>?_) (hj:=fun _=>bj hj);refine G.bl W fun aE aA=>?_;refine G.a1 ?_;refine G.aD ?_;refine G.ld 1 ?_;refine G.bin ?_ (hv:=fun _=>Jz);refine G.and ?_;refine SW.oB (fun E ψ R=>∃(out:List aX) (v:V) (s:Option Pa) (p:Bool),out.length=j+p.toNat/\iZ e l=out++l[j]::(if p then l.drop (j+1)else iZ e (l.drop (j+1)))/\O=ψ/\R=[cC.ob s out,(some a3,.cells [.str e.name,.j e.ino] false)]/\af cC v out s/\Sub [(0,o),(3,.ptr a3 0),(8,v),(9,.bool p),(10,.j (j:Int))] E) ?_ ?_
   ·refine C.B (fun h=>?_) fun h=>?_
    ·refine S.ag 1 ?_;refine S.a8 fun ay=>?_;refine S.br (m:=[e]) 1 ho (.lit 0) (by simp;omega) fun av ap am=>?_;refine S.drop 0 ?_;refine S.mv ?_;simp only[be,c3]at h;obtain⟨rfl,aj⟩:=h;rw[ab (by simp)]at d;simp only[iZ]at d;rw[ae aj]at d;refine .done ⟨out++[e],av,ap,true,by simpa using Q,by rw[d];simp,rfl,rfl,am,.r rfl⟩
    ·refine .done ⟨out,v,s,p,Q,?_,rfl,rfl,ho,.r rfl⟩
     ·rw[d];cases p with
      |true=>rfl
      |false=>
       have hn:iu e.name (l[j]).name=false:=by simpa using h
       simp only[iZ];rw[ab (by simp),ab (by rw[hn];simp),ab (by simp)]
   intro E ψ R ac Z;obtain⟨out,v,s,p,Q,d,rfl,rfl,ho,L⟩:=Z;refine C.sub L ?_;refine S.aF hl hj fun aH aB=>?_;refine S.bJ ?_;refine S.a8 fun az=>?_;have U:=o8 p;refine S.br (m:=[l[j]]) 1 ho (.lit 0) (by simp;omega) fun aw au an=>?_;refine S.drop 0 ?_;refine S.mv ?_;refine S.bin ?_;refine⟨ak-1,by omega,.done ⟨j+1,out++[l[j]],aw,au,p,by omega,by simp;omega,by rw[d];simp,rfl,rfl,an,.r rfl⟩⟩
  ·obtain rfl:j=l.length:=by omega
   rw[b6]at d;refine S.un ?_;refine C.B (fun A=>?_) fun A=>?_
   ·refine S.ag 1 ?_;refine S.a8 fun a53=>?_;have U:=o8 p;refine S.br (m:=[e]) 1 ho (.lit 0) (by simp;omega) fun aJ aI ao=>?_;refine S.drop 0 ?_;refine S.mv ?_;have hp:p=false:=by simpa using A
    subst hp;rw[ab (by simp)]at d;rw[d];exact⟨_,.t rfl (.t rfl .nil),.bL 0 rfl ao fun ψ ah M=>.none ⟨_,rfl,M,rfl⟩⟩
   ·have hp:p=true:=by simpa using A
    subst hp;rw[ae rfl,e9]at d;rw[d];exact⟨_,.t rfl (.t rfl .nil),.bL 0 rfl ho fun ψ ah M=>.none ⟨_,rfl,M,rfl⟩⟩
theorem JR [Fx F] {o:V} {l:List aX} {name:Bs} (hl:aa cC O o l) (hlen:l.length<=1000000):
 ai F 211 [o,.str name] O [] (fun r ψ R=>∃v,r=.aN [v,.bool (ja l name).2]/\aa cC ψ v (ja l name).1/\R=[]) never:=by
 refine ar ?_;refine S.al (pR hl hlen) ?_;refine S.un ?_;refine C.B (fun O1=>?_) fun O1=>?_
 ·have h:ja l name=(l,false):=by unfold ja;exact ab (by simpa using O1)
  rw[h];exact⟨_,.t rfl (.t rfl .nil),.none ⟨_,rfl,hl,rfl⟩⟩
 ·have h:ja l name=(l.filter (fun e=>!decide (e.name=name)),true):=by unfold ja;exact ae (by simpa using O1)
  rw[h];refine SW.new cC ?_;refine SW.loop (fun m E ψ R=>∃(j:Nat) (out:List aX) (v:V) (s:Option Pa),j+m=l.length/\out.length<=j/\l.filter (fun e=>!decide (e.name=name))=out++(l.drop j).filter (fun e=>!decide (e.name=name))/\O=ψ/\R=[cC.ob s out]/\af cC v out s/\Sub [(0,o),(1,.str name),(8,v),(9,.j (j:Int))] E) (m:=l.length) ⟨0,[],.no .sl,none,by omega,by simp,rfl,rfl,rfl,af.nil,.r rfl⟩ ?_;intro A E ψ R ac L;obtain⟨j,out,v,s,hm,ah,d,rfl,rfl,ho,I⟩:=L;refine C.sub I ?_;refine S.len ?_;refine S.bin ?_;refine C.D (fun O2=>?_) fun O2=>?_
  ·have hj:j<l.length:=by omega
   rw[bQ hj,qf]at d;refine S.aF hl hj fun aj G=>?_;refine S.bl G fun ak Y=>?_;refine S.a1 ?_;refine S.bin ?_;refine C.B (fun Pp=>?_) fun Pp=>?_
   ·rw[ae Pp]at d;refine S.aF hl hj fun am Z=>?_;refine S.bJ ?_;refine S.a8 fun a37=>?_;refine S.br (m:=[l[j]]) 1 ho (.lit 0) (by simp;omega) fun W U Q=>?_;refine S.drop 0 ?_;refine S.mv ?_;refine S.bin ?_;refine⟨A-1,by omega,j+1,out++[l[j]],W,U,by omega,by simp;omega,by rw[d];simp,rfl,rfl,Q,.r rfl⟩
   ·rw[ab (by rw[Pp];simp)]at d;refine S.bin ?_;refine⟨A-1,by omega,j+1,out,v,s,by omega,by omega,d,rfl,rfl,ho,.r rfl⟩
  ·obtain rfl:j=l.length:=by omega
   rw[b6,List.filter_nil,e9]at d;rw[d];exact⟨_,.t rfl (.t rfl .nil),.bL 0 rfl ho fun ψ ag M=>.none ⟨_,rfl,M,rfl⟩⟩
theorem JS {U:Type} {e:bG U} (x:U) (n:Nat):c5 (e.f x) n=e.fl (List.replicate n x):=by
 induction n with
 |zero=>rfl
 |succ n d=>show e.f x++c5 (e.f x) n=_;rw[d,rP];(try rfl)
theorem zC [Fx F]:ai F 58 [] O [] (fun r ψ R=>aa aG ψ r nG/\R=[]) never:=by
 refine ar ?_;refine S.ox (n:=9) (m:=9) (by omega) (by omega) (by omega) fun d=>?_;have o:af aG (.sl d 0 9 (.ex 9)) (List.replicate 9 ef) (some d):=af.new rfl;refine S.build ?_;refine S.qV (n:=9) (j:=0) (by omega) ?_;refine S.kK (e:=aG) (l:=List.replicate 9 ef) (j:=0) ⟨2,7,[]⟩ 0 ?_ (hj:=by simp);exact⟨_,.t rfl .nil,.bL 0 rfl (o.set 0 ⟨2,7,[]⟩) fun ψ A h=>.none ⟨h,rfl⟩⟩
theorem pS {U:Type} {a b:List U} {j:Nat} (ha:j<a.length) (d:j<b.length):(a.drop j=b.drop j)↔(a[j]=b[j]/\a.drop (j+1)=b.drop (j+1)):=by
 rw[bQ ha,bQ d,nV]
theorem Qd [Fx F] {G v2:V} {a b:ao} (o:aa aG O G a) (aj:aa aG O v2 b) (hlen:a.length<=1000000):bm F 44 [G,v2] O (.bool (decide (a=b))):=by
 refine ai.al (ar ?_);refine S.len ?_ (hl:=aa.len o);refine S.len ?_ (hl:=aa.len aj);refine S.bin ?_;refine C.B (fun OU=>?_) fun OU=>?_
 ·have A:decide (a=b)=false:=by
   rw[bD];intro e;subst e;simp at OU
  rw[A];refine⟨_,.t rfl .nil,.done ?_⟩;rfl
 ·have hl:a.length=b.length:=by simp at OU;omega
  refine SW.loop (fun m E ψ R=>∃j:Nat,j+m=a.length/\((a=b)↔(a.drop j=b.drop j))/\O=ψ/\R=[]/\Sub [(0,G),(1,v2),(5,.j (j:Int))] E) (m:=a.length) ⟨0,by omega,Iff.rfl,rfl,rfl,.r rfl⟩ ?_;intro Q E ψ R Y M;obtain⟨j,hm,d,rfl,rfl,L⟩:=M;refine C.sub L ?_;refine S.len ?_ (hl:=aa.len o);refine S.bin ?_;refine C.D (fun O0=>?_) fun O0=>?_
  ·have hj:j<a.length:=by omega
   have I:j<b.length:=by omega
   rw[pS hj I]at d;refine S.aF o hj fun Z U=>?_;refine S.bJ ?_;refine S.aF aj I fun ab W=>?_;refine S.bJ ?_;refine S.bin ?_ (hv:=JB a[j] b[j]);refine C.B (fun OW=>?_) fun OW=>?_
   ·have A:decide (a=b)=false:=by
     rw[bD,d];simp at OW;exact fun h=>OW h.1
    rw[A];refine⟨_,.t rfl .nil,.done ?_⟩;rfl
   ·have he:a[j]=b[j]:=by simpa using OW
    refine S.bin ?_;exact⟨Q-1,by omega,j+1,by omega,by rw[d];exact and_iff_right he,rfl,rfl,.r rfl⟩
  ·obtain rfl:j=a.length:=by omega
   have he:decide (a=b)=true:=by
    rw[aR,d,b6,hl,b6]
   rw[he];refine⟨_,.t rfl .nil,.done ?_⟩;rfl
theorem lO [Fx F] {A:V} {t:ao} {ino:Int} (ht:aa aG O A t) (d:bI t):
 ai F 81 [A,.j ino] O [] (fun r ψ R=>aa cC ψ r (aW t ino)/\R=[]) never:=by
 have Z:=d.1;refine ar ?_;refine S.bin ?_;refine G.mv ?_;refine G.mv ?_;refine G.len ?_ (hl:=aa.len ht);refine G.bin ?_;refine G.or ?_;refine G.mv ?_;refine G.mv ?_;refine G.bin ?_ (hv:=fun d=>fU (by simp at d;omega) (by simp at d;omega));refine G.ew ht (fun ah D=>?_) (h:=fun d=>by simp at d;omega);refine G.bl D fun aj W=>?_;refine G.a1 ?_;refine G.bin ?_;refine G.or ?_;refine C.B (fun O5=>?_) fun O5=>?_
 ·have o:aW t ino=[]:=by
   unfold aW;simp only[cx,aR,c3,bD]at O5;exact ae (by omega)
  rw[o];exact⟨_,.t rfl .nil,.none ⟨aa.nil _,rfl⟩⟩
 ·simp only[cg,bD,du,aR]at O5;have o:aW t ino=(cv (nodeAt t ino).body).getD []:=by unfold aW;exact ab (by omega)
  rw[o];obtain⟨j,hj,M,Q⟩:=qZ (t:=t) (x:=ino) (by omega) (by omega);have ac:(nodeAt t ino).body.length<=100000:=by rw[Q];exact d.2 _ (cw M)
  refine S.bin ?_;refine S.ew (n:=ino) ht (by omega) (by omega) fun ak I=>?_;refine S.bl I fun al Y=>?_;refine S.a1 ?_;refine S.call (zB (b:=(nodeAt t ino).body) (by omega)) fun am an U ag L=>?_;obtain⟨w,rfl,hw,rfl⟩:=L;exact⟨_,.t rfl .nil,.none ⟨hw,rfl⟩⟩
theorem zD [Fx F] {I A:V} {t:ao} {l:List Bs} (ht:aa aG O I t) (Q:bI t) (hl:aa dA O A l) (hlen:l.length<=1000000):
 bm F 209 [I,A] O (.aN [.j (dV t l).1,.j (dV t l).2]):=by
 have ap:=Q.1;refine ai.al (ar ?_);refine S.len ?_ (hl:=aa.len ht);refine S.bin ?_;refine C.D (fun Ph=>?_) fun Ph=>?_
 ·have L:dV t l=(0,2):=by unfold dV;exact ae (by omega)
  rw[L];exact⟨_,.t rfl (.t rfl .nil),.none rfl⟩
 ·have L:dV t l=hO t 1 l:=by unfold dV;exact ab (by omega)
  rw[L];refine SW.loop (fun m E ψ R=>∃(j:Nat) (x:Int),j+m=l.length/\1<=x/\x<=t.length/\hO t 1 l=hO t x (l.drop j)/\aa aG ψ I t/\aa dA ψ A l/\R=[]/\Sub [(0,I),(1,A),(6,.j x),(7,.j (j:Int))] E) (m:=l.length) ⟨0,1,by omega,by omega,by omega,rfl,ht,hl,rfl,.r rfl⟩ ?_;intro ak E ψ R au ag;obtain⟨j,x,hm,av,aw,d,ht,hl,rfl,ac⟩:=ag;refine C.sub ac ?_;refine S.len ?_ (hl:=aa.len hl);refine S.bin ?_;refine C.D (fun O3=>?_) fun O3=>?_
  ·have hj:j<l.length:=by omega
   rw[bQ hj]at d;simp only[hO]at d;refine S.bin ?_;refine S.ew (n:=x) ht (by omega) (by omega) fun ay Z=>?_;refine S.bl Z fun az an=>?_;refine S.a1 ?_;refine S.bin ?_;refine C.B (fun OW=>?_) fun OW=>?_
   ·rw[ae (by simpa using OW)]at d;rw[d];exact⟨_,.t rfl (.t rfl .nil),.none rfl⟩
   ·rw[ab (by simpa using OW)]at d;refine S.aF hl hj fun aA Y=>?_;refine S.a1 ?_;refine S.call (lO (ino:=x) ht Q) fun aB aC am W M=>?_;obtain⟨M,rfl⟩:=M;have Y:=Y.mono W;refine S.th ?_;refine S.al (pR M (fL (mF Q _) (by omega))) ?_;refine S.un ?_;refine G.mv ?_;refine G.mv ?_;refine G.len ?_ (hl:=aa.len ht);refine G.bin ?_;refine G.or ?_;refine C.B (fun h=>?_) fun h=>?_
    ·have ah:hO t 1 l=(0,2):=by
      rw[d];cases o:fe (aW t x) l[j]with
      |none=>rfl
      |some n=>rw[o]at h;simp at h;exact ae h
     rw[ah];exact⟨_,.t rfl (.t rfl .nil),.none rfl⟩
    ·obtain⟨n,o,hn⟩:∃n,fe (aW t x) l[j]=some n/\n<=t.length:=by
      cases o:fe (aW t x) l[j]with
      |none=>rw[o]at h;simp at h
      |some n=>rw[o]at h;simp at h;exact⟨n,rfl,h⟩
     have aj:1<=n:=by
      have U:=o;unfold fe at U;simp only[jR]at U;obtain⟨e,he,rfl⟩:=U;exact(kM e (qa he)).1
     rw[o]at d⊢;simp only at d;rw[ab (by omega)]at d;refine S.bin ?_;exact⟨ak-1,by omega,j+1,n,by omega,aj,hn,d,ht.mono W,hl.mono W,rfl,.r rfl⟩
  ·obtain rfl:j=l.length:=by omega
   rw[b6]at d;rw[d];exact⟨_,.t rfl (.t rfl .nil),.none rfl⟩
theorem JT (own:Bool):∀(b name:Bs) (out l:List Bs),fX own b name out=some l->l.length<=9/\∀x∈l,x∈out\/x.length<=6:=by
 intro b
 induction b with
 |nil=>
  intro name out l h;simp only[fX]at h;split at h
  ·cases h
  ·rename_i A;cases h;simp only[mD,cx,c3,aR,not_or,Bool.not_eq_false]at A;have j:=A.1.1;unfold et at j;simp only[be,aR]at j;refine⟨by simp;omega,fun x hx=>?_⟩;rw[fK,hB]at hx;rcases hx with hx|rfl
   ·exact .inl hx
   ·exact .inr (by omega)
 |cons c r B=>
  intro name out l h;simp only[fX]at h;split at h
  ·split at h
   ·cases h
   ·rename_i A;simp only[mD,cx,c3,aR,not_or,Bool.not_eq_false]at A;have j:=A.1.1;unfold et at j;simp only[be,aR]at j;obtain⟨o,aj⟩:=B _ _ _ h;refine⟨o,fun x hx=>?_⟩;rcases aj x hx with d|d
    ·rw[fK,hB]at d;rcases d with d|rfl
     ·exact .inl d
     ·exact .inr (by omega)
    ·exact .inr d
  ·exact B _ _ _ h
theorem pT {path:Bs} {own:Bool} {l:List Bs} (h:parts path own=some l):l.length<=9/\∀x∈l,x.length<=6:=by
 unfold parts at h;split at h
 ·cases h;exact⟨by simp,fun x hx=>by cases hx⟩
 ·split at h
  ·cases h
  ·split at h
   ·obtain⟨o,aj⟩:=JT own _ _ _ _ h;exact⟨o,fun x hx=>(aj x hx).resolve_left (by simp)⟩
   ·cases h
theorem JU {path:Bs} {own:Bool} {l:List Bs} (h:parts path own=some l):l.length<=9:=(pT h).1
theorem oM [Fx F] {h:V} {t:ao} {path:Bs} {own:Bool} (ht:aa aG O h t) (A:bI t) (hp:path.length<=100000):
 bm F 156 [h,.str path,.bool own] O (.aN [.j (bb t path own).1,.j (bb t path own).2]):=by
 refine ai.al (ar ?_);refine S.call (oL (own:=own) hp) fun L M G D o=>?_;obtain⟨w,rfl,hw,rfl⟩:=o;refine S.un ?_;refine C.B (fun O1=>?_) fun O1=>?_
 ·have d:bb t path own=(0,1):=by
   unfold bb;cases hq:parts path own with
   |none=>rfl
   |some l=>rw[hq]at O1;simp at O1
  rw[d];exact⟨_,.t rfl (.t rfl .nil),.none rfl⟩
 ·obtain⟨l,hq⟩:∃l,parts path own=some l:=by
   cases hq:parts path own with
   |none=>rw[hq]at O1;simp at O1
   |some l=>exact⟨l,rfl⟩
  have d:bb t path own=dV t l:=by unfold bb;rw[hq]
  rw[d];rw[hq]at hw;have I:=JU hq;refine S.al (zD (ht.mono D) A hw (by simp;omega)) ?_;exact⟨_,.t rfl (.t rfl .nil),.none rfl⟩
theorem zE {nm:List Int} {e:aX} {B:Int} (h:∀x∈nm,0<=x/\x<=B):∀x∈bump nm e,0<=x/\x<=B+1:=by
 intro x hx;unfold bump at hx;rw[List.mem_iff_getElem?]at hx;obtain⟨i,hi⟩:=hx;rw[rO]at hi;split at hi
 ·cases hq:nm[i]? with
  |none=>rw[hq]at hi;simp at hi
  |some y=>rw[hq]at hi;simp at hi;have:=h y (km hq);omega
 ·cases hq:nm[i]? with
  |none=>rw[hq]at hi;simp at hi
  |some y=>rw[hq]at hi;simp at hi;have:=h y (km hq);omega
theorem JV {s:List Bool} {i:Nat} (e:aX) (h:(s[i]?).getD false=true):((mark s e)[i]?).getD false=true:=by
 unfold mark;rw[kn];split
 ·split
  ·rfl
  ·rename_i o aj;rw[o4 (by omega)]at h;cases h
 ·exact h
theorem JW {t:ao} {j:Nat} (hj:j<t.length) (nm:List Int):j7 (t.drop j) nm=match ff nm t[j]with|none=>none|some d=>j7 (t.drop (j+1)) d:=by
 rw[bQ hj];(try rfl)
theorem tm [Fx F] {Q:V} {t:ao} (ht:aa aG O Q t) (am:bI t):bm F 43 [Q] O (.bool (bH t)):=by
 have cF:=am.1;refine ai.al (ar ?_);refine S.len ?_ (hl:=aa.len ht);refine S.bin ?_;refine G.mv ?_;refine G.aF ht (j:=0) (z:=nodeAt t 1) (fun cX bz=>?_) (hj:=fun am=>by simp at am;rw[bj (show 0<t.length by omega)];unfold nodeAt;rw[show((1:Int)-1).toNat=0 by rfl,bj (show 0<t.length by omega)];(try rfl));refine G.bl bz fun cZ cB=>?_;refine G.a1 ?_;refine G.bin ?_;refine G.or ?_;refine C.B (fun OW=>?_) fun OW=>?_
 ·have U:bH t=false:=by
   unfold bH;simp only[cx,c3,bD]at OW;rw[ab (by omega)]
  rw[U];exact⟨_,.t rfl .nil,.none rfl⟩
 ·simp only[cg,du,aR]at OW;have au:t.length=9:=by omega
  have ap:(nodeAt t 1).kind=2:=OW.2;refine S.ox (n:=10) (m:=10) (by omega) (by omega) (by omega) fun M=>?_;have aK:∀l:List Int,l.length=10->af bt (.sl M 0 10 (.ex 10)) l (some M):=fun l hl=>af.new hl;refine SW.bF (fun m E ψ R=>∃(j:Nat) (nm:List Int),j+m=t.length/\nm.length=10/\(∀x∈nm,0<=x/\x<=j*100001)/\pP t=j7 (t.drop j) nm/\aa aG ψ Q t/\R=[bt.ob (some M) nm]/\Sub [(0,Q),(3,.sl M 0 10 (.ex 10)),(4,.j (j:Int))] E) (m:=t.length) (.done ⟨0,List.replicate 10 0,by omega,by simp,fun x hx=>by rw[mZ hx];omega,rfl,ht,rfl,.r rfl⟩) ?_;intro a2 E ψ R aI Y;obtain⟨j,nm,hm,av,aZ,I,ht,rfl,W⟩:=Y;refine C.sub W ?_;refine S.len ?_ (hl:=aa.len ht);refine S.bin ?_;refine C.D (fun Pn=>?_) fun Pn=>?_
  ·have hj:j<t.length:=by omega
   rw[JW hj]at I;have cG:=am.2 _ (cw hj);refine S.aF ht hj fun c0 cD=>?_;refine S.bJ ?_;refine S.alloc fun a5=>?_;refine S.store 0 ?_;refine S.ld 0 ?_;refine S.bin ?_;refine C.D (fun ac=>?_) fun ac=>?_
   ·refine S.ag 0 ?_;refine S.build ?_;refine S.bin ?_ (hv:=JB t[j] ef);refine C.B (fun aS=>?_) fun aS=>?_
    ·have L:ff nm t[j]=none:=by unfold ff;rw[ae ac,ab (by simpa using aS)]
     have U:bH t=false:=by unfold bH;rw[ae ⟨au,ap⟩,I,L]
     rw[U];exact⟨_,.t rfl .nil,.none rfl⟩
    ·have L:ff nm t[j]=some nm:=by unfold ff;rw[ae ac,ae (by simpa using aS)]
     rw[L]at I;refine S.bin ?_;exact⟨a2-1,by omega,.drop 0 (.done ⟨j+1,nm,by omega,av,fun x hx=>by have:=aZ x hx;omega,I,ht,rfl,.r rfl⟩)⟩
   ·refine S.bin ?_;refine C.D (fun aB=>?_) fun aB=>?_
    ·have aA:ff nm t[j]=j6 t[j] nm:=by unfold ff;rw[ab ac,ae aB]
     refine S.ld 0 ?_;refine S.bin ?_;refine G.aD ?_;refine G.ld 0 ?_;refine G.bin ?_;refine G.or ?_;refine G.aD ?_;refine G.ld 0 ?_;refine G.cb ?_;refine G.bin ?_;refine G.or ?_;refine C.B (fun ah=>?_) fun ah=>?_
     ·have L:ff nm t[j]=none:=by
       rw[aA];unfold j6;simp only[cx,aR]at ah;exact ae (by omega)
      have U:bH t=false:=by unfold bH;rw[ae ⟨au,ap⟩,I,L]
      rw[U];exact⟨_,.t rfl .nil,.none rfl⟩
     ·refine S.bin ?_;have L:ff nm t[j]=some nm:=by
       rw[aA];unfold j6;simp only[cg,bD]at ah;exact ab (by omega)
      rw[L]at I;exact⟨a2-1,by omega,.drop 0 (.done ⟨j+1,nm,by omega,av,fun x hx=>by have:=aZ x hx;omega,I,ht,rfl,.r rfl⟩)⟩
    ·refine S.bin ?_;refine C.D (fun aM=>?_) fun aM=>?_
     ·refine S.ld 0 ?_;refine S.call (zB (b:=(t[j]).body) (by omega)) fun v51 ca cc b5 bW=>?_;obtain⟨w,rfl,hw,rfl⟩:=bW;have ht:=ht.mono b5;refine S.un ?_;refine C.B (fun aC=>?_) fun aC=>?_
      ·have L:ff nm t[j]=none:=by
        unfold ff;rw[ab ac,ab aB,ae aM];cases hq:cv (t[j]).body with
        |none=>rfl
        |some l=>rw[hq]at aC;simp at aC
       have U:bH t=false:=by unfold bH;rw[ae ⟨au,ap⟩,I,L]
       rw[U];exact⟨_,.t rfl .nil,.none rfl⟩
      ·obtain⟨l,hq⟩:∃l,cv (t[j]).body=some l:=by
        cases hq:cv (t[j]).body with
        |none=>rw[hq]at aC;simp at aC
        |some l=>exact⟨l,rfl⟩
       have aA:ff nm t[j]=j6 t[j] (l.foldl bump nm):=by unfold ff;rw[ab ac,ab aB,ae aM,hq]
       rw[hq]at hw;change aa cC ca w l at hw;have cK:=vM hq;have b3:=vL hq;refine SW.loop (fun m E ψ R=>∃(k:Nat) (o:List Int),k+m=l.length/\o.length=10/\(∀x∈o,0<=x/\x<=j*100001+k)/\l.foldl bump nm=(l.drop k).foldl bump o/\aa aG ψ Q t/\aa cC ψ w l/\R=[(some a5,.cells (aG.f t[j]) false),bt.ob (some M) o]/\Sub [(0,Q),(3,.sl M 0 10 (.ex 10)),(4,.j (j:Int)),(5,.ptr a5 0),(6,w),(8,.j (k:Int))] E) (m:=l.length) ⟨0,nm,by omega,av,by simpa using aZ,rfl,ht,hw,rfl,.r rfl⟩ ?_;intro b8 E ψ R aI Y;obtain⟨k,o,cJ,aP,aX,aH,ht,hw,rfl,W⟩:=Y;refine C.sub W ?_;refine S.len ?_ (hl:=aa.len hw);refine S.bin ?_;refine C.D (fun bp=>?_) fun bp=>?_
       ·have hk:k<l.length:=by omega
        rw[bQ hk]at aH;have an:=b3 _ (cw hk);obtain⟨q,aw⟩:∃q:Nat,(l[k]).ino=(q:Int):=⟨(l[k]).ino.toNat,by omega⟩
        have ay:q<o.length:=by omega
        have cQ:=aX _ (cw ay);have bd:bump o l[k]=o.set q (o[q]+1):=by unfold bump;rw[aw,hC];exact zm _ ay
        refine S.aF hw hk fun c1 bA=>?_;refine S.bl bA fun c2 cE=>?_;refine S.a1 ?_;refine S.ct (aK o aP) ay (fun cj bY=>?_) (hi:=by rw[<-aw];exact .t rfl);cases bY;refine S.eJ 0 1 ?_;refine S.bin ?_ (hv:=dz (by omega) (by omega));refine S.ct (aK o aP) ay (fun ck bZ=>?_) (hi:=by rw[<-aw];exact .t rfl);cases bZ;refine S.kK (o[q]+1) 1 ?_;refine S.bin ?_;refine⟨b8-1,by omega,k+1,o.set q (o[q]+1),by omega,by simpa using aP,?_,by rw[aH,<-bd];(try rfl),ht,hw,rfl,.r rfl⟩;rw[<-bd];intro x hx;have:=zE aX x hx;omega
       ·obtain rfl:k=l.length:=by omega
        rw[b6]at aH;change l.foldl bump nm=o at aH;rw[aH]at aA;refine S.ld 0 ?_;refine S.bin ?_;refine G.aD ?_;refine G.ld 0 ?_;refine G.bin ?_;refine G.or ?_;refine G.aD ?_;refine G.ld 0 ?_;refine G.cb ?_;refine G.bin ?_;refine G.or ?_;refine C.B (fun ah=>?_) fun ah=>?_
        ·have L:ff nm t[j]=none:=by
          rw[aA];unfold j6;simp only[cx,aR]at ah;exact ae (by omega)
         have U:bH t=false:=by unfold bH;rw[ae ⟨au,ap⟩,I,L]
         rw[U];exact⟨_,.t rfl .nil,.none rfl⟩
        ·refine S.bin ?_;have L:ff nm t[j]=some o:=by
          rw[aA];unfold j6;simp only[cg,bD]at ah;exact ab (by omega)
         rw[L]at I;exact⟨a2-1,by omega,.drop 0 (.done ⟨j+1,o,by omega,aP,fun x hx=>by have:=aX x hx;omega,I,ht,rfl,.r rfl⟩)⟩
     ·have L:ff nm t[j]=none:=by unfold ff;rw[ab ac,ab aB,ab aM]
      have U:bH t=false:=by unfold bH;rw[ae ⟨au,ap⟩,I,L]
      rw[U];exact⟨_,.t rfl .nil,.none rfl⟩
  ·obtain rfl:j=t.length:=by omega
   rw[b6]at I;change pP t=some nm at I;refine S.ox (n:=10) (m:=10) (by omega) (by omega) (by omega) fun Z=>?_;have a8:∀l:List Bool,l.length=10->af lJ (.sl Z 0 10 (.ex 10)) l (some Z):=fun l hl=>af.new hl;refine S.qV (n:=10) (j:=1) (by omega) ?_;refine S.kK (e:=lJ) (l:=List.replicate 10 false) (j:=1) true 0 ?_ (hj:=by simp);refine SW.loop (fun m E ψ R=>∃(j:Nat) (d:List Bool),j+m=9/\d.length=10/\eg t=jI t m d/\aa aG ψ Q t/\R=[lJ.ob (some Z) d,bt.ob (some M) nm]/\Sub [(0,Q),(3,.sl M 0 10 (.ex 10)),(9,.sl Z 0 10 (.ex 10)),(10,.j (j:Int))] E) (m:=9) ⟨0,(List.replicate 10 false).set 1 true,by omega,by simp,rfl,ht,rfl,.r rfl⟩ ?_;intro a7 E ψ R aI Y;obtain⟨j,d,cM,bk,aJ,ht,rfl,W⟩:=Y;refine C.sub W ?_;refine S.bin ?_;refine C.D (fun br=>?_) fun br=>?_
   ·obtain⟨f,rfl⟩:∃f,a7=f+1:=⟨a7-1,by omega⟩
    change eg t=jI t f (iw t d)at aJ;refine SW.loop (fun m E ψ R=>∃(i:Nat) (sc:List Bool),i+m=10/\1<=i/\sc.length=10/\iw t d=(List.range' i m).foldl (jb t) sc/\aa aG ψ Q t/\R=[lJ.ob (some Z) sc,bt.ob (some M) nm]/\Sub [(0,Q),(3,.sl M 0 10 (.ex 10)),(9,.sl Z 0 10 (.ex 10)),(10,.j (j:Int)),(11,.j (i:Int))] E) (m:=9) ⟨1,d,by omega,by omega,bk,rfl,ht,rfl,.r rfl⟩ ?_;intro m7 E ψ R aI Y;obtain⟨i,sc,cN,b2,bg,aE,ht,rfl,W⟩:=Y;refine C.sub W ?_;refine S.bin ?_;refine C.D (fun bs=>?_) fun bs=>?_
    ·obtain⟨ba,rfl⟩:∃f,m7=f+1:=⟨m7-1,by omega⟩
     change iw t d=(List.range' (i+1) ba).foldl (jb t) (jb t sc i)at aE;have cH:i<10:=by omega
     refine S.call (lO (ino:=(i:Int)) ht am) fun bn c5 cd b7 aj=>?_;obtain⟨aj,rfl⟩:=aj;have ht:=ht.mono b7;have cP:=mF am (i:Int);refine SW.loop (fun m E ψ R=>∃(k:Nat) (A:List Bool),k+m=(aW t i).length/\A.length=10/\(A[i]?).getD false=(sc[i]?).getD false/\(jb t sc i=if(sc[i]?).getD false then((aW t i).drop k).foldl mark A else A)/\aa aG ψ Q t/\aa cC ψ bn (aW t i)/\R=[lJ.ob (some Z) A,bt.ob (some M) nm]/\Sub [(0,Q),(3,.sl M 0 10 (.ex 10)),(9,.sl Z 0 10 (.ex 10)),(10,.j (j:Int)),(11,.j (i:Int)),(12,bn),(13,.j (k:Int))] E) (m:=(aW t i).length) ⟨0,sc,by omega,bg,rfl,rfl,ht,aj,rfl,.r rfl⟩ ?_;intro m9 E ψ R aI Y;obtain⟨k,A,cO,aO,aU,aT,ht,aj,rfl,W⟩:=Y;refine C.sub W ?_;refine S.len ?_ (hl:=aa.len aj);refine S.bin ?_;refine G.mv ?_;refine G.mv ?_;have aV:i<A.length:=by omega
     refine G.ct (a8 A aO) aV fun a107 bB=>?_;cases bB;refine G.eJ 0 0 ?_;refine G.and ?_;refine C.B (fun aL=>?_) fun aL=>?_
     ·simp only[be,aR]at aL;have hk:k<(aW t i).length:=by omega
      have az:(sc[i]?).getD false=true:=by rw[<-aU,bj aV];exact aL.2
      rw[az,ae rfl,bQ hk]at aT;have an:=kM _ (cw hk);obtain⟨q,aw⟩:∃q:Nat,((aW t i)[k]).ino=(q:Int):=⟨((aW t i)[k]).ino.toNat,by omega⟩
      have ay:q<A.length:=by omega
      have bi:mark A (aW t i)[k]=A.set q true:=by unfold mark;rw[aw];(try rfl)
      refine S.aF aj hk fun cR bv=>?_;refine S.bl bv fun cS cu=>?_;refine S.a1 ?_;refine S.ct (a8 A aO) ay (fun ce bC=>?_) (hi:=by rw[<-aw];exact .t rfl);cases bC;refine S.kK true 0 ?_;refine S.bin ?_;refine⟨m9-1,by omega,k+1,A.set q true,by omega,by simpa using aO,?_,?_,ht,aj,rfl,.r rfl⟩
      ·rw[<-bi,az];exact JV _ (by rw[aU];exact az)
      ·rw[az,ae rfl,<-bi];exact aT
     ·have b1:jb t sc i=A:=by
       rw[aT];cases az:(sc[i]?).getD false with
       |false=>exact ab (by simp)
       |true=>
        rw[ae rfl];have bV:A[i]=true:=by
         have bb:=aU;rw[bj aV,az]at bb;exact bb
        rw[bV,k5,bD]at aL;rw[jS (by omega)];(try rfl)
      rw[b1]at aE;refine S.bin ?_;exact⟨ba,by omega,i+1,A,by omega,by omega,aO,aE,ht,rfl,.r rfl⟩
    ·obtain rfl:m7=0:=by omega
     change iw t d=sc at aE;rw[aE]at aJ;refine S.bin ?_;exact⟨f,by omega,j+1,sc,by omega,bg,aJ,ht,rfl,.r rfl⟩
   ·obtain rfl:a7=0:=by omega
    change eg t=d at aJ;have b4:bH t=[1,2,3,4,5,6,7,8,9].all (fun i=>!jJ t nm d i):=by unfold bH;rw[ae ⟨au,ap⟩,I,aJ]
    refine SW.loop (fun m E ψ R=>∃i:Nat,i+m=10/\1<=i/\bH t=(List.range' i m).all (fun i=>!jJ t nm d i)/\aa aG ψ Q t/\R=[lJ.ob (some Z) d,bt.ob (some M) nm]/\Sub [(0,Q),(3,.sl M 0 10 (.ex 10)),(9,.sl Z 0 10 (.ex 10)),(14,.j (i:Int))] E) (m:=9) ⟨1,by omega,by omega,b4,ht,rfl,.r rfl⟩ ?_;intro a6 E ψ R aI Y;obtain⟨i,cL,b2,ak,ht,rfl,W⟩:=Y;refine C.sub W ?_;refine S.bin ?_;refine C.D (fun bo=>?_) fun bo=>?_
    ·obtain⟨f,rfl⟩:∃f,a6=f+1:=⟨a6-1,by omega⟩
     change bH t=(!jJ t nm d i&&(List.range' (i+1) f).all (fun i=>!jJ t nm d i))at ak;have an:i<nm.length:=by omega
     have bh:i<d.length:=by omega
     refine S.bin ?_;refine S.ew (n:=(i:Int)) ht (by omega) (by omega) fun cT bw=>?_;refine S.bl bw fun cU cy=>?_;refine S.a1 ?_;refine S.bin ?_;refine S.mB fun cl bE=>?_;refine S.ct (aK nm av) an fun cf bG=>?_;cases bG;refine S.eJ 0 1 ?_;refine S.bin ?_;refine S.mB fun cm bK=>?_;refine G.mv ?_;refine G.un ?_;refine G.and ?_;refine G.mv ?_;refine G.mv ?_;refine G.mv ?_;refine G.mv ?_;refine G.ct (a8 d bk) bh fun ch bL=>?_;cases bL;refine G.eJ 0 0 ?_;refine G.mB fun cn bM=>?_;refine G.un ?_;refine G.fV ?_;refine G.or ?_;refine G.mv ?_;refine G.bin ?_;refine G.mB fun co bN=>?_;refine G.mv ?_;refine G.mv ?_;refine G.mv ?_;refine G.ct (aK nm av) an fun ci bO=>?_;cases bO;refine G.eJ 0 1 ?_;refine G.bin ?_;refine G.mB fun cp bP=>?_;refine G.fV ?_;refine G.or ?_;refine G.mv ?_;refine G.bin ?_;refine G.mB fun cq bR=>?_;refine G.mv ?_;refine G.mv ?_;refine G.mv ?_;refine G.bin ?_;refine G.ew (n:=(i:Int)) ht (fun cV bx=>?_) (h:=fun _=>by omega);refine G.bl bx fun cW cz=>?_;refine G.a1 ?_;refine G.bin ?_;refine G.mB fun cr bS=>?_;refine G.fV ?_;refine G.mv ?_;refine G.mv ?_;refine G.mv ?_;refine G.ct (aK nm av) an fun a175 bT=>?_;cases bT;refine G.eJ 0 1 ?_;refine G.bin ?_;refine G.mB fun cs bU=>?_;refine G.fV ?_;refine G.or ?_;subst bE bK bM bN bP bR bS bU;have bc:jJ t nm d i=_:=(show jJ t nm d i=((decide (0<nm[i])&&!(!decide ((nodeAt t i).kind=0)))||(!decide ((nodeAt t i).kind=0)&&!d[i])||(decide ((i:Int)=1)&&decide (0<nm[i]))||(decide ((1:Int)<(i:Int))&&decide ((nodeAt t i).kind=2)&&!decide (nm[i]=1))) by unfold jJ;rw[bj an,bj bh];(try rfl))
     refine C.B (fun aQ=>?_) fun aQ=>?_
     ·have U:bH t=false:=by rw[ak,bc];rw[aQ];(try rfl)
      rw[U];exact⟨_,.t rfl .nil,.none rfl⟩
     ·have b0:jJ t nm d i=false:=by rw[bc];exact aQ
      rw[b0,Bool.not_false,gL]at ak;refine S.bin ?_;exact⟨f,by omega,i+1,by omega,by omega,ak,ht,rfl,.r rfl⟩
    ·obtain rfl:a6=0:=by omega
     change bH t=true at ak;rw[ak];exact⟨_,.t rfl .nil,.none rfl⟩
theorem JX {t:ao} {ino:Int} {n:cj} {j:Nat} (h:ino-1=(j:Int)):eL t ino n=t.set j n:=by unfold eL;rw[h];(try rfl)
theorem oN [Fx F] {h:V} {t:ao} {ino:Int} {n:cj} (ht:aa aG O h t) (L:t.length<=1000) (o:1<=ino) (aj:ino<=t.length):ai F 155 [h,.j ino,.agg [.j n.kind,.j n.mode,.str n.body]] O [] (fun r ψ R=>aa aG ψ r (eL t ino n)/\R=[]) never:=by
 obtain⟨j,hj,D,_⟩:=qZ (t:=t) o aj;refine ar ?_;refine S.box fun a5=>?_;refine S.a8 fun dL=>?_;have G:af aG (.sl dL 0 0 (.ex 0)) [] (some dL):=af.new rfl;refine S.br 0 G (.f ht) (by simp;omega) fun U Q d=>?_;rw[fo]at d;refine S.bin ?_;refine S.ag 1 ?_;refine S.ct d D (fun I A=>?_) (hi:=by rw[<-hj];exact .t rfl);subst A;refine S.kK (e:=aG) (l:=t) n 0 ?_;rw[JX hj];exact⟨_,.t rfl .nil,.bL 0 rfl (d.set j n) fun ψ M B=>.none ⟨B,rfl⟩⟩
theorem JY (l:List aX) (e:aX):(iv l e).1.length<=l.length+1:=by
 unfold iv;split
 ·exact ks _
 ·rw[JP];exact aB _
theorem JZ {e x:aX} {l:List aX} (h:x∈iZ e l):x=e\/x∈l:=by
 induction l with
 |nil=>simp[iZ]at h;exact .inl h
 |cons y r d=>
  simp only[iZ]at h;split at h
  ·rcases bS.1 h with h|h
   ·exact .inl h
   ·exact .inr h
  ·rcases bS.1 h with rfl|h
   ·exact .inr (dc)
   ·rcases d h with h|h
    ·exact .inl h
    ·exact .inr (cR _ h)
theorem J0 {e x:aX} {l:List aX} (h:x∈(iv l e).1):x=e\/x∈l:=by
 unfold iv at h;split at h
 ·exact .inr h
 ·exact JZ h
theorem J1 {n:Bs} {x:aX} {l:List aX} (h:x∈(ja l n).1):x∈l:=by
 unfold ja at h;split at h
 ·exact(List.mem_filter.1 h).1
 ·exact h
theorem J2 (l:List aX) (n:Bs):(ja l n).1.length<=l.length:=by
 unfold ja;split
 ·exact List.length_filter_le _ _
 ·exact aB _
theorem vT [Fx F] {Q:V} {t:ao} {bi:Int} {e:aX} (ht:aa aG O Q t) (I:bI t) (o:1<=bi) (aj:bi<=t.length) (he:e.name.length<=100000):
 ai F 154 [Q,.j bi,.agg [.str e.name,.j e.ino]] O [] (fun r ψ R=>∃v,r=.aN [v,.bool (fg t bi e).2]/\aa aG ψ v (fg t bi e).1/\R=[]) never:=by
 have U:=I.1;refine ar ?_;refine S.box fun a5=>?_;refine S.ag 0 ?_;refine S.call (lO (ino:=bi) ht I) fun am au W L A=>?_;obtain⟨A,rfl⟩:=A;have ae:=mF I bi;refine S.dg 0 ?_;refine S.call (JQ (e:=e) A (by omega)) fun an av Y M D=>?_;obtain⟨ap,rfl,D,rfl⟩:=D;refine S.al (vS D (by have:=JY (aW t bi) e;omega) (fun x hx=>by rcases J0 hx with rfl|h<;>first|exact he|exact fL (zA _ h) (by omega))) ?_;refine S.un ?_;refine C.B (fun Pd=>?_) fun Pd=>?_
 ·have hn:eK (iv (aW t bi) e).1=none:=by cases hq:eK (iv (aW t bi) e).1 with|none=>rfl|some b=>rw[hq]at Pd;simp at Pd
  have d:fg t bi e=(t,false):=by unfold fg;rw[hn]
  rw[d];exact⟨_,.t rfl (.t rfl .nil),.none ⟨_,rfl,(ht.mono L).mono M,rfl⟩⟩
 ·obtain⟨b,hq⟩:∃b,eK (iv (aW t bi) e).1=some b:=by cases hq:eK (iv (aW t bi) e).1 with|none=>rw[hq]at Pd;simp at Pd|some b=>exact⟨b,rfl⟩
  have d:fg t bi e=(eL t bi {nodeAt t bi with body:=b},true):=by unfold fg;rw[hq]
  rw[d];rw[hq];have ht:=(ht.mono L).mono M;refine S.bin ?_;refine S.ew (n:=bi) ht (by omega) (by omega) fun ak ac=>?_;refine S.bJ ?_;refine S.alloc fun ab=>?_;refine S.store 0 ?_;refine S.store 0 ?_;refine S.ag 0 ?_;refine S.call (oN (n:={nodeAt t bi with body:=b}) ht U o aj) fun v39 aw Z ah G=>?_;obtain⟨G,rfl⟩:=G;exact⟨_,.t rfl (.t rfl .nil),.none ⟨_,rfl,G,rfl⟩⟩
theorem zF [Fx F] {D:V} {t:ao} {bi:Int} {name:Bs} (ht:aa aG O D t) (B:bI t) (o:1<=bi) (aj:bi<=t.length):
 ai F 157 [D,.j bi,.str name] O [] (fun r ψ R=>aa aG ψ r (j8 t bi name)/\R=[]) never:=by
 have G:=B.1;refine ar ?_;refine S.call (lO (ino:=bi) ht B) fun ae am M I d=>?_;obtain⟨d,rfl⟩:=d;have Z:=mF B bi;refine S.call (JR (name:=name) d (by omega)) fun ah an Q L h=>?_;obtain⟨ak,rfl,h,rfl⟩:=h;have ht:=(ht.mono I).mono L;refine S.al (vS h (by have:=J2 (aW t bi) name;omega) (fun x hx=>fL (zA _ (J1 hx)) (by omega))) ?_;refine S.bin ?_;refine S.ew (n:=bi) ht (by omega) (by omega) fun ac Y=>?_;refine S.bJ ?_;refine S.alloc fun W=>?_;refine S.store 0 ?_;refine S.store 0 ?_;refine S.ag 0 ?_;refine S.call (oN (n:={nodeAt t bi with body:=(eK (ja (aW t bi) name).1).getD []}) ht G o aj) fun v39 ap U ab A=>?_;obtain⟨A,rfl⟩:=A;exact⟨_,.t rfl .nil,.none ⟨A,rfl⟩⟩
theorem q1 [Fx F] {D A:V} {t:ao} {l:List Bs} (ht:aa aG O D t) (h:bI t) (hl:aa dA O A l) (h0:l≠[]) (hlen:l.length<=1000):
 bm F 152 [D,A] O (.aN [.j (aQ t l).1,.str (aQ t l).2.1,.j (aQ t l).2.2]):=by
 have Y:=h.1;have Z:0<l.length:=rQ.2 h0;have o:(l.length:Int)-1=((l.length-1:Nat):Int):=by omega
 refine ai.al (ar ?_);refine S.len ?_ (hl:=aa.len hl);refine S.bin ?_;obtain⟨w,U,G⟩:=aa.hi hl (show l.length-1<=l.length by omega);rw[<-List.dropLast_eq_take]at G;refine S.slice U ?_ (aj:=.some (by rw[<-o];exact .t rfl));refine S.al (zD ht h G (by simp;omega)) ?_;refine S.bin ?_;refine C.B (fun Pb=>?_) fun Pb=>?_
 ·have d:aQ t l=(0,[],(dV t l.dropLast).2):=by unfold aQ;exact ae (by simpa using Pb)
  rw[d];refine⟨_,.t rfl (.t rfl (.t rfl .nil)),.done ?_⟩;rfl
 ·have hz:(dV t l.dropLast).2=0:=by simpa using Pb
  have hw:=vN hz;refine S.bin ?_;refine S.ew (n:=(dV t l.dropLast).1) ht (by omega) (by omega) fun ac I=>?_;refine S.bl I fun ag W=>?_;refine S.a1 ?_;refine S.bin ?_;refine C.B (fun OT=>?_) fun OT=>?_
  ·have d:aQ t l=(0,[],5):=by unfold aQ;rw[ab (by simpa using hz),ae (by simpa using OT)]
   rw[d];refine⟨_,.t rfl (.t rfl (.t rfl .nil)),.done ?_⟩;rfl
  ·have Q:l[l.length-1]? =some (l.getLastD []):=by rw[<-List.getLast?_eq_getElem?];cases l with|nil=>exact absurd rfl h0|cons a r=>rw[List.getLastD_cons,List.getLast?_cons,List.getLastD_eq_getLast?]
   have d:aQ t l=((dV t l.dropLast).1,l.getLastD [],0):=by unfold aQ;rw[ab (by simpa using hz),ab (by simpa using OT)]
   rw[d];obtain⟨R,M⟩:=dS.1 Q;refine S.len ?_ (hl:=aa.len hl);refine S.bin ?_;refine S.aF hl R (fun ah L=>?_) (hi:=by rw[<-o];exact .t rfl);rw[M]at L;refine S.a1 ?_;refine S.th ?_;refine⟨_,.t rfl (.t rfl (.t rfl .nil)),.done ?_⟩;rfl
theorem J3 {ino:Int} {l:List aX} {k:Nat} (hk:k<l.length) (n:Int):(l.drop k).foldl (fun n e=>if e.ino=ino then n+1 else n) n=(l.drop (k+1)).foldl (fun n e=>if e.ino=ino then n+1 else n) (if(l[k]).ino=ino then n+1 else n):=by
 rw[bQ hk];(try rfl)
theorem J4 (ino:Int) (l:List aX):∀n:Int,l.foldl (fun n e=>if e.ino=ino then n+1 else n) n=n+pQ ino l:=by
 unfold pQ
 induction l with
 |nil=>intro n;simp
 |cons a l d=>intro n;simp only[gK];rw[d,d (if a.ino=ino then 0+1 else 0)];split<;>omega
theorem zG [Fx F] {A:V} {t:ao} {ino:Int} (ht:aa aG O A t) (Q:bI t):bm F 158 [A,.j ino] O (.j (oI t ino)):=by
 have ap:=Q.1;refine ai.al (ar ?_);refine S.bin ?_;refine C.D (fun OU=>?_) fun OU=>?_
 ·have I:oI t ino=1:=by unfold oI;exact ae OU
  rw[I];exact⟨_,.t rfl .nil,.none rfl⟩
 ·have I:oI t ino=nH t ino t.length 1 0:=by unfold oI;exact ab OU
  rw[I];refine SW.loop (fun m E ψ R=>∃(i:Nat) (n:Int),i+m=t.length+1/\1<=i/\0<=n/\n<=i*100001/\nH t ino t.length 1 0=nH t ino m i n/\aa aG ψ A t/\R=[]/\Sub [(0,A),(1,.j ino),(5,.j n),(6,.j (i:Int))] E) (m:=t.length) ⟨1,0,by omega,by omega,by omega,by omega,rfl,ht,rfl,.r rfl⟩ ?_;intro U E ψ R ac M;obtain⟨i,n,hm,au,ag,aw,B,ht,rfl,L⟩:=M;refine C.sub L ?_;refine S.len ?_ (hl:=aa.len ht);refine S.bin ?_;refine C.D (fun O0=>?_) fun O0=>?_
  ·obtain⟨f,rfl⟩:∃f,U=f+1:=⟨U-1,by omega⟩
   change nH t ino t.length 1 0=nH t ino f (i+1) (n+pQ ino (aW t i))at B;refine S.call (lO (ino:=(i:Int)) ht Q) fun Y aB aj ah h=>?_;obtain⟨h,rfl⟩:=h;have ht:=ht.mono ah;have ay:=mF Q (i:Int);refine SW.loop (fun m E ψ R=>∃(k:Nat) (d:Int),k+m=(aW t i).length/\0<=d/\d<=n+k/\n+pQ ino (aW t i)=((aW t i).drop k).foldl (fun n e=>if e.ino=ino then n+1 else n) d/\aa aG ψ A t/\aa cC ψ Y (aW t i)/\R=[]/\Sub [(0,A),(1,.j ino),(5,.j d),(6,.j (i:Int)),(7,Y),(8,.j (k:Int))] E) (m:=(aW t i).length) ⟨0,n,by omega,ag,by omega,by rw[nb,J4],ht,h,rfl,.r rfl⟩ ?_;intro W E ψ R ac M;obtain⟨k,d,av,am,an,o,ht,h,rfl,L⟩:=M;refine C.sub L ?_;refine S.len ?_ (hl:=aa.len h);refine S.bin ?_;refine C.D (fun O5=>?_) fun O5=>?_
   ·have hk:k<(aW t i).length:=by omega
    rw[J3 hk]at o;refine S.aF h hk fun az Z=>?_;refine S.bl Z fun aA ak=>?_;refine S.a1 ?_;refine S.bin ?_;refine C.D (fun G=>?_) fun G=>?_
    ·rw[ae G]at o;refine S.bin ?_;refine S.bin ?_;exact⟨W-1,by omega,k+1,d+1,by omega,by omega,by omega,o,ht,h,rfl,.r rfl⟩
    ·rw[ab G]at o;refine S.bin ?_;exact⟨W-1,by omega,k+1,d,by omega,by omega,by omega,o,ht,h,rfl,.r rfl⟩
   ·obtain rfl:k=(aW t i).length:=by omega
    rw[b6]at o;change n+pQ ino (aW t i)=d at o;rw[o]at B;refine S.bin ?_;exact⟨f,by omega,i+1,d,by omega,by omega,by omega,by omega,B,ht,rfl,.r rfl⟩
  ·obtain rfl:U=0:=by omega
   change nH t ino t.length 1 0=n at B;rw[B];exact⟨_,.t rfl .nil,.none rfl⟩
theorem vU [Fx F] {A:V} {t:ao} {path:Bs} {own:Bool} (ht:aa aG O A t) (o:bI t) (hp:path.length<=100000):
 bm F 160 [A,.str path,.bool own] O (.aN [.j (bU t path own).1,.j (bU t path own).2]):=by
 have L:=o.1;refine ai.al (ar ?_);refine S.al (oM (own:=own) ht o hp) ?_;refine S.bin ?_;refine G.mv ?_;refine G.mv ?_;refine G.bin ?_ (hv:=fun h=>fU (by have:=kN (of_decide_eq_true h);omega) (by have:=kN (of_decide_eq_true h);omega));refine G.ew (n:=(bb t path own).1) ht (fun M D=>?_) (h:=fun h=>by have:=kN (of_decide_eq_true h);omega);refine G.bl D fun Q I=>?_;refine G.a1 ?_;refine G.bin ?_;refine G.and ?_;refine C.B (fun Pd=>?_) fun Pd=>?_
 ·simp only[be,aR]at Pd;have d:bU t path own=(0,4):=by unfold bU;exact ae Pd
  rw[d];refine⟨_,.t rfl (.t rfl .nil),.done ?_⟩;rfl
 ·have d:bU t path own=bb t path own:=by
   unfold bU;exact ab (fun h=>by rw[decide_eq_true h.1,decide_eq_true h.2]at Pd;cases Pd)
  rw[d];refine⟨_,.t rfl (.t rfl .nil),.done ?_⟩;rfl
theorem J5 (s:Bs) (n:Nat):(List.replicate n (0:UInt8)).take 0++s.take n++(List.replicate n (0:UInt8)).drop (0+min s.length n)=jc s n:=by
 unfold jc;rw[nX,fo,eV,List.drop_replicate];congr 2;omega
theorem zH [Fx F] {s:Bs} {n:Nat} (hn:n<=1000000):bm F 161 [.str s,.j (n:Int)] O (.str (jc s n)):=by
 refine ai.al (ar ?_);refine S.oE (e:=aU) (n:=n) 0 (by omega) (by omega) fun d o=>?_;have h:∀l:Bs,l.length=n->af aU (.sl d 0 n (.ex n)) l (some d):=fun l hl=>af.new hl;refine S.zo (x:=s) (m:=n) (I:=0) (l:=List.replicate n 0) 0 (by simp;omega) ?_;rw[J5];refine S.hM 0 (h (jc s n) (by unfold jc;simp;omega)) ?_;exact⟨_,.t rfl .nil,.none rfl⟩
theorem q2 {t:ao} {l:List Bs} (h:(aQ t l).2.2=0):1<=(aQ t l).1/\(aQ t l).1<=t.length/\(aQ t l).2.1=l.getLastD []/\(nodeAt t (aQ t l).1).kind=2:=by
 unfold aQ at h⊢;split
 ·rename_i o;rw[ae o]at h;exact absurd h o
 ·rename_i o;rw[ab o]at h;split
  ·rename_i aj;rw[ae aj]at h;cases h
  ·rename_i aj;have:=vN (t:=t) (l:=l.dropLast) (by omega);exact⟨this.1,this.2,rfl,by simpa using aj⟩
theorem vV {t:ao} {l:List Bs} (hl:∀x∈l,x.length<=6):(aQ t l).2.1.length<=6:=by
 unfold aQ;split
 ·exact cS _
 ·split
  ·exact cS _
  ·show(l.getLastD []).length<=6;cases l with
   |nil=>exact cS _
   |cons a r=>rw[List.getLastD_cons,List.getLastD_eq_getLast?];cases hq:r.getLast? with
    |none=>exact hl a (dc)
    |some b=>exact hl b (cR _ (List.mem_of_getLast? hq))
theorem vW (t:ao) (i:Int) (n:cj):(eL t i n).length=t.length:=by unfold eL;simp
theorem zI (t:ao) (d:Int) (e:aX):(fg t d e).1.length=t.length:=by unfold fg;split<;>simp[vW]
theorem oO {t:ao} {i:Int} {n:cj} (d:bI t) (hn:n.body.length<=100000):bI (eL t i n):=by
 refine⟨by rw[vW];exact d.1,fun x hx=>?_⟩;unfold eL at hx;rcases o5 hx with h|rfl
 ·exact d.2 x h
 ·exact hn
theorem J6 {l:List aX}:∀{p:Option Bs} {s b:Bs},eu p s l=some b->b.length<=120:=by
 induction l with
 |nil=>
  intro p s b h;simp only[eu]at h;split at h
  ·cases h
  ·cases h;omega
 |cons a l d=>
  intro p s b h;simp only[eu]at h;split at h
  ·cases h
  ·exact d h
theorem zJ {l:List aX} {b:Bs} (h:eK l=some b):b.length<=120:=J6 h
theorem vX {t:ao} (d:bI t) (i:Int):(nodeAt t i).body.length<=100000:=by
 unfold nodeAt;cases hq:t[(i-1).toNat]? with
 |none=>exact cS _
 |some n=>exact d.2 n (km hq)
theorem q3 {t:ao} (h:bI t) (d:Int) (n:Bs):bI (j8 t d n):=by
 unfold j8;refine oO h ?_;show((eK (ja (aW t d) n).1).getD []).length<=_;cases hq:eK (ja (aW t d) n).1 with
 |none=>exact cS _
 |some b=>have:=zJ hq;show b.length<=_;omega
theorem zK (t:ao) (d:Int) (n:Bs):(j8 t d n).length=t.length:=vW _ _ _
def q4 (t:ao) (bi:Int) (f:Nat) (l:List aX):Option Bool:=l.foldr (fun e rest=>if e.ino<=(t.length:Int)/\(nodeAt t e.ino).kind=2 then(match fh t bi f e.ino with
    |none=>none
    |some true=>some true
    |some false=>rest)else rest) (some false)
theorem J7 {t:ao} {bi:Int} {f:Nat} {l:List aX} {k:Nat} (hk:k<l.length):q4 t bi f (l.drop k)=if(l[k]).ino<=(t.length:Int)/\(nodeAt t (l[k]).ino).kind=2 then(match fh t bi f (l[k]).ino with
 |none=>none
 |some true=>some true
 |some false=>q4 t bi f (l.drop (k+1)))else q4 t bi f (l.drop (k+1)):=by
 rw[bQ hk];(try rfl)
theorem J8 [Fx F] {t:ao} {bi:Int} (L:bI t):∀(f:Nat) {top:Int} {r:Bool} (O:Fz) (o:V),aa aG O o t->fh t bi f top=some r->bm F 159 [o,.j bi,.j top] O (.bool r):=by
 intro f;have aw:=L.1
 induction f with
 |zero=>intro top r O o ht hr;cases hr
 |succ f M=>
  intro top r O o ht hr;have M:=fun(O:Fz) (o:V) (ht:aa aG O o t) {top:Int} {r:Bool} (h:fh t bi f top=some r)=> @M top r O o ht h;simp only[fh]at hr;refine ai.al (ar ?_);refine S.bin ?_;refine C.D (fun Pg=>?_) fun Pg=>?_
  ·rw[ae Pg]at hr;cases hr;exact⟨_,.t rfl .nil,.none rfl⟩
  ·rw[ab Pg]at hr;change q4 t bi f (aW t top)=some r at hr;refine S.call (lO (ino:=top) ht L) fun Q aL am aj A=>?_;obtain⟨A,rfl⟩:=A;have ht:=ht.mono aj;have aA:=mF L top;refine SW.loop (fun m E ψ R=>∃k:Nat,k+m=(aW t top).length/\q4 t bi f ((aW t top).drop k)=some r/\aa aG ψ o t/\aa cC ψ Q (aW t top)/\R=[]/\Sub [(0,o),(1,.j bi),(7,Q),(8,.j (k:Int))] E) (m:=(aW t top).length) ⟨0,by omega,hr,ht,A,rfl,.r rfl⟩ ?_;intro ak E ψ R az ag;obtain⟨k,hm,d,ht,A,rfl,ac⟩:=ag;refine C.sub ac ?_;refine S.len ?_ (hl:=aa.len A);refine S.bin ?_;refine C.D (fun OY=>?_) fun OY=>?_
   ·have hk:k<(aW t top).length:=by omega
    rw[J7 hk]at d;have ay:=kM _ (cw hk);refine S.aF A hk fun aB U=>?_;refine S.bl U fun aC an=>?_;refine S.a1 ?_;refine S.len ?_ (hl:=aa.len ht);refine S.bin ?_;refine G.mv ?_;refine G.mv ?_;refine G.mv ?_;refine G.aF A (z:=(aW t top)[k]) (fun aD W=>?_) (hj:=fun _=>bj hk);refine G.bl W fun aE ap=>?_;refine G.a1 ?_;refine G.bin ?_;refine G.ew (n:=((aW t top)[k]).ino) ht (fun aH Y=>?_) (h:=fun L=>by have:=of_decide_eq_true L;omega);refine G.bl Y fun aI au=>?_;refine G.a1 ?_;refine G.bin ?_;refine G.and ?_;refine G.mv ?_;refine G.mv ?_;refine G.mv ?_;refine G.mv ?_;refine G.aF A (z:=(aW t top)[k]) (fun aJ Z=>?_) (hj:=fun _=>bj hk);refine G.bl Z fun aK av=>?_;refine G.a1 ?_;have ah:(decide (((aW t top)[k]).ino<=(t.length:Int))&&decide ((nodeAt t ((aW t top)[k]).ino).kind=2))=true->bm F 159 [o,.j bi,.j ((aW t top)[k]).ino] ψ (.bool ((fh t bi f ((aW t top)[k]).ino).getD false)):=fun h=>by
     simp only[be,aR]at h;rw[ae h]at d;cases hq:fh t bi f ((aW t top)[k]).ino with
     |none=>rw[hq]at d;cases d
     |some z=>exact M ψ o ht hq
    refine G.al ah ?_;refine G.and ?_;refine C.B (fun I=>?_) fun I=>?_
    ·simp only[be,aR]at I;rw[ae I.1]at d;have hz:fh t bi f ((aW t top)[k]).ino=some true:=by
      cases hq:fh t bi f ((aW t top)[k]).ino with
      |none=>rw[hq]at d;cases d
      |some z=>rw[hq]at I;simp at I;rw[I.2]
     rw[hz]at d;cases d;exact⟨_,.t rfl .nil,.none rfl⟩
    ·refine S.bin ?_;refine⟨ak-1,by omega,k+1,by omega,?_,ht,A,rfl,.r rfl⟩;split at d
     ·rename_i hc;cases hq:fh t bi f ((aW t top)[k]).ino with
      |none=>rw[hq]at d;cases d
      |some z=>
       rw[hq]at d I;cases z with
       |true=>simp[hc.1,hc.2]at I
       |false=>exact d
     ·exact d
   ·obtain rfl:k=(aW t top).length:=by omega
    rw[b6]at d;change some false=some r at d;cases d;exact⟨_,.t rfl .nil,.none rfl⟩
def oP (t:ao) (i:Nat):Int:=match(t.drop (i-1)).findIdx? (fun n=>decide (n.kind=0))with
 |none=>0
 |some q=>(q:Int)+i
theorem J9 {t:ao} {i:Nat} (o:1<=i) (aj:i<=t.length):oP t i=if(nodeAt t i).kind=0 then(i:Int)else oP t (i+1):=by
 have hj:i-1<t.length:=by omega
 have hn:nodeAt t i=t[i-1]:=by
  have:=ti (t:=t) (i:=i-1) hj
  rwa [show i-1+1=i by omega]at this
 unfold oP;rw[bQ hj,List.findIdx?_cons,hn,show i-1+1=i by omega,show i+1-1=i by omega];by_cases hk:(t[i-1]).kind=0
 ·rw[ae hk,decide_eq_true hk];simp
 ·rw[ab hk,decide_eq_false hk];cases (t.drop i).findIdx? (fun n=>decide (n.kind=0))with
  |none=>rfl
  |some q=>simp;omega
theorem Ka (t:ao):oJ t=oP t 1:=by
 unfold oJ oP;rw[show 1-1=0 by rfl,nb];cases t.findIdx? (fun n=>decide (n.kind=0))<;>rfl
theorem Kb (t:ao):0<=oJ t/\oJ t<=t.length:=by
 unfold oJ;cases h:t.findIdx? (fun n=>decide (n.kind=0))with
 |none=>exact⟨ej _,by simp⟩
 |some q=>
  have:=(List.findIdx?_eq_some_iff_getElem.1 h).1;show 0<=(q:Int)+1/\(q:Int)+1<=t.length;omega
theorem Kc [Fx F] {Z:V} {t:ao} {path:Bs} {kind mode ino:Int} {own:Bool} (ht:aa aG O Z t) (M:bI t) (hp:path.length<=100000):
 ai F 90 [Z,.str path,.j kind,.j mode,.j ino,.bool own] O [] (fun r ψ R=>∃v,r=.aN [v,.j (gB t path kind mode ino own).2]/\aa aG ψ v (gB t path kind mode ino own).1/\R=[]) never:=by
 have aD:=M.1;refine ar ?_;refine S.call (oL (path:=path) (own:=own) (by omega)) fun bg aM aS aK I=>?_;obtain⟨w,rfl,I,rfl⟩:=I;have ht:=ht.mono aK;refine S.un ?_;refine G.mv ?_;refine G.bin ?_;refine G.mv ?_;refine G.mv ?_;refine G.bin ?_;refine G.fV ?_;refine G.or ?_;refine G.mv ?_;refine G.bin ?_;refine G.or ?_;refine G.mv ?_;refine G.bin ?_;refine G.or ?_;refine G.mv ?_;refine G.bin ?_;refine G.or ?_;refine G.mv ?_;refine G.bin ?_;refine G.or ?_;refine C.B (fun A=>?_) fun A=>?_
 ·have d:gB t path kind mode ino own=(t,1):=by
   unfold gB;cases hq:parts path own with
   |none=>rfl
   |some l=>
    rw[hq]at A;simp only[Option.isSome_some,l5,jw,cx,be,c3,aR,bD]at A;exact ae (by omega)
  rw[d];exact⟨_,.t rfl (.t rfl .nil),.none ⟨_,rfl,ht,rfl⟩⟩
 ·simp only[cg,iF,du,aR,bD]at A;obtain⟨l,o⟩:∃l,parts path own=some l:=by
   cases hq:parts path own with
   |none=>rw[hq]at A;simp at A
   |some x=>exact⟨x,rfl⟩
  rw[o]at I;change aa dA aM w l at I;have aH:=pT o;refine S.len ?_ (hl:=aa.len I);refine S.bin ?_;refine C.D (fun au=>?_) fun au=>?_
  ·have d:gB t path kind mode ino own=(t,3):=by
    unfold gB;rw[o];simp only;rw[ab (by omega),ae (e8 (by omega))]
   rw[d];exact⟨_,.t rfl (.t rfl .nil),.none ⟨_,rfl,ht,rfl⟩⟩
  ·have Q:l≠[]:=by intro e;subst e;exact au rfl
   refine S.al (q1 ht M I Q (by omega)) ?_;refine S.bin ?_;refine C.B (fun ah=>?_) fun ah=>?_
   ·have hz:(aQ t l).2.2≠0:=by simpa using ah
    have d:gB t path kind mode ino own=(t,(aQ t l).2.2):=by
     unfold gB;rw[o];simp only;rw[ab (by omega),ab Q,ae hz]
    rw[d];exact⟨_,.t rfl (.t rfl .nil),.none ⟨_,rfl,ht,rfl⟩⟩
   ·have hz:(aQ t l).2.2=0:=by simpa using ah
    have aw:=q2 hz;have a2:=vV (t:=t) aH.2;refine S.call (lO (ino:=(aQ t l).1) ht M) fun bh bm aT aL an=>?_;obtain⟨an,rfl⟩:=an;have ht:=ht.mono aL;have aZ:=mF M (aQ t l).1;refine S.al (pR (name:=(aQ t l).2.1) an (by omega)) ?_;refine C.B (fun Y=>?_) fun Y=>?_
    ·have d:gB t path kind mode ino own=(t,3):=by
      unfold gB;rw[o];simp only;rw[ab (by omega),ab Q,ab (by omega),ae Y]
     rw[d];exact⟨_,.t rfl (.t rfl .nil),.none ⟨_,rfl,ht,rfl⟩⟩
    ·refine S.bin ?_;refine G.mv ?_;refine G.mv ?_;refine G.len ?_ (hl:=aa.len ht);refine G.bin ?_;refine G.mv ?_;refine G.mv ?_;refine G.mv ?_;refine G.bin ?_;refine G.ew (n:=ino) ht (fun ba aA=>?_) (h:=fun h=>by simp only[be,c3,aR,bD]at h;omega);refine G.bl aA fun bb aV=>?_;refine G.a1 ?_;refine G.bin ?_;refine G.nF ?_;refine G.and ?_;refine C.B (fun L=>?_) fun L=>?_
     ·simp only[be,cx,c3,aR,bD]at L;have d:gB t path kind mode ino own=(t,3):=by
       unfold gB;rw[o];simp only;rw[ab (by omega),ab Q,ab (by omega),ab (by rw[Y];simp),ae L]
      rw[d];exact⟨_,.t rfl (.t rfl .nil),.none ⟨_,rfl,ht,rfl⟩⟩
     ·have av:¬(0<ino/\((t.length:Int)<ino\/(nodeAt t ino).kind≠0)):=by
       intro h;have:(decide (0<ino)&&(decide ((t.length:Int)<ino)||!decide ((nodeAt t ino).kind=0)))=true:=by
        simp only[be,cx,c3,aR,bD];exact h
       rw[this]at L;cases L
      obtain⟨k,hk⟩:∃k,k=if ino=0 then oJ t else ino:=⟨_,rfl⟩
      have aE:=Kb t;have aW:0<=k/\k<=t.length:=by
       rw[hk];split
       ·exact aE
       ·exact⟨by omega,by
         rcases Classical.em (0<ino)with h|h
         ·rcases Classical.em ((t.length:Int)<ino)with aj|aj
          ·exact absurd ⟨h,.inl aj⟩ av
          ·omega
         ·omega⟩
      have ap:gB t path kind mode ino own=if k=0 then(t,8)else if(fg t (aQ t l).1 ⟨(aQ t l).2.1,k⟩).2 then(eL (fg t (aQ t l).1 ⟨(aQ t l).2.1,k⟩).1 k ⟨kind,mode,[]⟩,0)else(t,8):=by
       unfold gB;rw[o];simp only;rw[ab (by omega),ab Q,ab (by omega),ab (by rw[Y];simp),ab av,<-hk]
      refine SW.loop (fun m E ψ R=>∃(i:Nat) (x:Int),i+m=t.length+1/\1<=i/\k=(if x=0 then oP t i else x)/\aa aG ψ Z t/\R=[]/\Sub [(0,Z),(2,.j kind),(3,.j mode),(4,.j x),(16,.j (aQ t l).1),(17,.str (aQ t l).2.1),(21,.j (i:Int))] E) (m:=t.length) ⟨1,ino,by omega,by omega,by rw[hk,Ka],ht,rfl,.r rfl⟩ ?_;intro ay E ψ R aX aC;obtain⟨i,x,hm,aF,hx,ht,rfl,aB⟩:=aC;refine C.sub aB ?_;refine S.len ?_ (hl:=aa.len ht);refine S.bin ?_;refine G.mv ?_;refine G.bin ?_;refine G.and ?_;refine C.B (fun U=>?_) fun U=>?_
      ·simp only[be,aR]at U;have aI:=U.2;subst aI;rw[ae rfl,J9 aF (by omega)]at hx;refine S.bin ?_;refine S.ew (n:=(i:Int)) ht (by omega) (by omega) fun a7 az=>?_;refine S.bl az fun a8 aU=>?_;refine S.a1 ?_;refine S.bin ?_;refine C.D (fun ac=>?_) fun ac=>?_
       ·rw[ae ac]at hx;refine S.bin ?_;exact⟨ay-1,by omega,i+1,(i:Int),by omega,by omega,by rw[hx,ab (by omega)],ht,rfl,.r rfl⟩
       ·rw[ab ac]at hx;refine S.bin ?_;exact⟨ay-1,by omega,i+1,0,by omega,by omega,by rw[hx,ae rfl],ht,rfl,.r rfl⟩
      ·obtain rfl:k=x:=by
        rw[hx];split
        ·rename_i h0;subst h0;have hi:t.length<i:=by simp at U;omega
         unfold oP;rw[jS (by omega)];(try rfl)
        ·rfl
       refine S.bin ?_;refine C.D (fun ag=>?_) fun ag=>?_
       ·rw[ap,ae ag];exact⟨_,.t rfl (.t rfl .nil),.none ⟨_,rfl,ht,rfl⟩⟩
       ·rw[ab ag]at ap;rw[ap];refine S.build ?_;refine S.call (vT (e:=⟨(aQ t l).2.1,k⟩) ht M aw.1 aw.2.1 (by show(aQ t l).2.1.length<=_;omega)) fun bc bj aO aJ ak=>?_;obtain⟨bi,rfl,ak,rfl⟩:=ak;have ht:=ht.mono aJ;refine S.un ?_;refine C.B (fun W=>?_) fun W=>?_
        ·rw[ab (by intro h;rw[h]at W;cases W)];exact⟨_,.t rfl (.t rfl .nil),.none ⟨_,rfl,ht,rfl⟩⟩
        ·rw[ae (by simpa using W)];refine S.build ?_;refine S.call (oN (ino:=k) (n:=⟨kind,mode,[]⟩) ak (by rw[zI];exact aD) (by omega) (by rw[zI];omega)) fun bd bk aP a6 am=>?_;obtain⟨am,rfl⟩:=am;exact⟨_,.t rfl (.t rfl .nil),.none ⟨_,rfl,am,rfl⟩⟩
theorem Kd [Fx F] {an:V} {t:ao} {fr dst:Bs} {own:Bool} (ht:aa aG O an t) (M:bI t) (hp:fr.length<=100000) (aM:dst.length<=100000):
 ai F 91 [an,.str fr,.str dst,.bool own] O [] (fun r ψ R=>∃v,r=.aN [v,.j (fY t fr dst own).2]/\aa aG ψ v (fY t fr dst own).1/\R=[]) never:=by
 have aJ:=M.1;refine ar ?_;refine S.call (oL (path:=fr) (own:=own) (by omega)) fun v25 a2 aD aw ak=>?_;obtain⟨aX,rfl,ak,rfl⟩:=ak;have ht:=ht.mono aw;refine S.call (oL (path:=dst) (own:=own) (by omega)) fun aU aC aE ay L=>?_;obtain⟨aB,rfl,L,rfl⟩:=L;have ht:=ht.mono ay;refine S.un ?_;refine G.mv ?_;refine G.un ?_;refine G.or ?_;refine C.B (fun A=>?_) fun A=>?_
 ·have d:fY t fr dst own=(t,1):=by
   unfold fY;cases hq:parts fr own with
   |none=>rfl
   |some aP=>
    cases av:parts dst own with
    |none=>rfl
    |some aR=>rw[hq,av]at A;simp at A
  rw[d];exact⟨_,.t rfl (.t rfl .nil),.none ⟨_,rfl,ht,rfl⟩⟩
 ·simp only[cg,du]at A;obtain⟨q,hq⟩:=eS.1 A.1;obtain⟨l,o⟩:=eS.1 A.2;rw[o]at L;change aa dA aC aB l at L;have au:=pT o;refine S.al (oM (path:=fr) (own:=own) ht M hp) ?_;refine S.bin ?_;refine C.B (fun W=>?_) fun W=>?_
  ·have hz:(bb t fr own).2≠0:=by simpa using W
   have d:fY t fr dst own=(t,(bb t fr own).2):=by unfold fY;rw[hq,o];exact ae hz
   rw[d];exact⟨_,.t rfl (.t rfl .nil),.none ⟨_,rfl,ht,rfl⟩⟩
  ·have hz:(bb t fr own).2=0:=by simpa using W
   have aK:=kN hz;refine S.bin ?_;refine S.ew (n:=(bb t fr own).1) ht (by omega) (by omega) fun aS ap=>?_;refine S.bl ap fun aT aI=>?_;refine S.a1 ?_;refine S.bin ?_;refine C.D (fun I=>?_) fun I=>?_
   ·have d:fY t fr dst own=(t,4):=by unfold fY;rw[hq,o];simp only;rw[ab (by omega),ae I]
    rw[d];exact⟨_,.t rfl (.t rfl .nil),.none ⟨_,rfl,ht,rfl⟩⟩
   ·refine S.len ?_ (hl:=aa.len L);refine S.bin ?_;refine C.D (fun aj=>?_) fun aj=>?_
    ·have d:fY t fr dst own=(t,3):=by unfold fY;rw[hq,o];simp only;rw[ab (by omega),ab I,ae (e8 (by omega))]
     rw[d];exact⟨_,.t rfl (.t rfl .nil),.none ⟨_,rfl,ht,rfl⟩⟩
    ·have U:l≠[]:=by intro e;subst e;exact aj rfl
     refine S.al (q1 ht M L U (by omega)) ?_;refine S.bin ?_;refine C.B (fun Y=>?_) fun Y=>?_
     ·have ah:(aQ t l).2.2≠0:=by simpa using Y
      have d:fY t fr dst own=(t,(aQ t l).2.2):=by unfold fY;rw[hq,o];simp only;rw[ab (by omega),ab I,ab U,ae ah]
      rw[d];exact⟨_,.t rfl (.t rfl .nil),.none ⟨_,rfl,ht,rfl⟩⟩
     ·have ah:(aQ t l).2.2=0:=by simpa using Y
      have am:=q2 ah;have aO:=vV (t:=t) au.2;refine S.call (lO (ino:=(aQ t l).1) ht M) fun aV a6 aF az ac=>?_;obtain⟨ac,rfl⟩:=ac;have ht:=ht.mono az;have aL:=mF M (aQ t l).1;refine S.al (pR (name:=(aQ t l).2.1) ac (by omega)) ?_;refine C.B (fun Z=>?_) fun Z=>?_
      ·have d:fY t fr dst own=(t,3):=by unfold fY;rw[hq,o];simp only;rw[ab (by omega),ab I,ab U,ab (by omega),ae Z]
       rw[d];exact⟨_,.t rfl (.t rfl .nil),.none ⟨_,rfl,ht,rfl⟩⟩
      ·have d:fY t fr dst own=if(fg t (aQ t l).1 ⟨(aQ t l).2.1,(bb t fr own).1⟩).2 then((fg t (aQ t l).1 ⟨(aQ t l).2.1,(bb t fr own).1⟩).1,0)else(t,8):=by unfold fY;rw[hq,o];simp only;rw[ab (by omega),ab I,ab U,ab (by omega),ab (by rw[Z];simp)]
       rw[d];refine S.build ?_;refine S.call (vT (e:=⟨(aQ t l).2.1,(bb t fr own).1⟩) ht M am.1 am.2.1 (by show(aQ t l).2.1.length<=_;omega)) fun aW a7 aH aA ag=>?_;obtain⟨aZ,rfl,ag,rfl⟩:=ag;have ht:=ht.mono aA;refine S.un ?_;refine C.B (fun Q=>?_) fun Q=>?_
       ·rw[ab (by intro h;rw[h]at Q;cases Q)];exact⟨_,.t rfl (.t rfl .nil),.none ⟨_,rfl,ht,rfl⟩⟩
       ·rw[ae (by simpa using Q)];exact⟨_,.t rfl (.t rfl .nil),.none ⟨_,rfl,ag,rfl⟩⟩
theorem zL {t:ao} {p:Bs} {own:Bool} {l:List Bs} (hz:(bb t p own).2=0) (o:(bb t p own).1≠1) (hq:parts p own=some l):l≠[]:=by
 intro e;subst e;unfold bb at hz o;rw[hq]at hz o;unfold dV at hz o;simp only at hz o;split at hz
 ·cases hz
 ·rename_i h0;rw[ab h0]at o;exact o rfl
theorem Ke [Fx F] {ag:V} {t:ao} {path:Bs} {own:Bool} (ht:aa aG O ag t) (L:bI t) (hp:path.length<=100000) (au:(bb t path own).2=0->(bb t path own).1≠1->(aQ t ((parts path own).getD [])).2.2=0):
 ai F 92 [ag,.str path,.bool own] O [] (fun r ψ R=>∃v,r=.aN [v,.j (jd t path own).2]/\aa aG ψ v (jd t path own).1/\R=[]) never:=by
 have ak:=L.1;refine ar ?_;refine S.al (oM (own:=own) ht L hp) ?_;refine S.bin ?_;refine C.B (fun O8=>?_) fun O8=>?_
 ·have hz:(bb t path own).2≠0:=by simpa using O8
  have d:jd t path own=(t,(bb t path own).2):=by unfold jd;exact ae hz
  rw[d];exact⟨_,.t rfl (.t rfl .nil),.none ⟨_,rfl,ht,rfl⟩⟩
 ·have hz:(bb t path own).2=0:=by simpa using O8
  have M:=kN hz;refine S.bin ?_;refine C.D (fun OT=>?_) fun OT=>?_
  ·have d:jd t path own=(t,4):=by unfold jd;simp only;rw[ab (by omega),ae OT]
   rw[d];exact⟨_,.t rfl (.t rfl .nil),.none ⟨_,rfl,ht,rfl⟩⟩
  ·refine S.bin ?_;refine S.ew (n:=(bb t path own).1) ht (by omega) (by omega) fun aH ah=>?_;refine S.bl ah fun aI aB=>?_;refine S.a1 ?_;refine S.bin ?_;refine G.mv ?_;refine G.mv ?_;refine G.bin ?_;refine G.ew (n:=(bb t path own).1) ht (fun aJ aj=>?_) (h:=fun _=>⟨M.1,M.2.1⟩);refine G.bl aj fun aK aC=>?_;refine G.a1 ?_;refine G.bin ?_;refine G.and ?_;refine C.B (fun o=>?_) fun o=>?_
   ·simp only[be,c3,aR,bD]at o;have d:jd t path own=(t,6):=by unfold jd;simp only;rw[ab (by omega),ab OT,ae o]
    rw[d];exact⟨_,.t rfl (.t rfl .nil),.none ⟨_,rfl,ht,rfl⟩⟩
   ·have ap:¬((nodeAt t (bb t path own).1).kind=2/\(nodeAt t (bb t path own).1).body≠[]):=fun h=>by rw[decide_eq_true h.1,decide_eq_false h.2]at o;cases o
    obtain⟨l,Q⟩:=eS.1 M.2.2;have an:=zL hz OT Q;have aD:=pT Q;have Y:=au hz OT;rw[Q]at Y;change (aQ t l).2.2=0 at Y;have Z:=q2 Y;have am:=q3 L (aQ t l).1 (aQ t l).2.1;have ac:=zK t (aQ t l).1 (aQ t l).2.1;have d:jd t path own=(if oI (j8 t (aQ t l).1 (aQ t l).2.1) (bb t path own).1=0 then eL (j8 t (aQ t l).1 (aQ t l).2.1) (bb t path own).1 ef else j8 t (aQ t l).1 (aQ t l).2.1,0):=by unfold jd;simp only;rw[ab (by omega),ab OT,ab ap,Q];(try rfl)
    rw[d];refine S.call (oL (path:=path) (own:=own) (by omega)) fun v50 aw ay av A=>?_;obtain⟨w,rfl,A,rfl⟩:=A;have ht:=ht.mono av;rw[Q]at A;change aa dA aw w l at A;refine S.al (q1 ht L A an (by omega)) ?_;refine S.call (zF ht L Z.1 Z.2.1) fun aL aO az aE I=>?_;obtain⟨I,rfl⟩:=I;refine S.al (zG I am) ?_;refine S.bin ?_;refine C.D (fun U=>?_) fun U=>?_
    ·rw[ae U];refine S.build ?_;refine S.call (oN (n:=ef) I (by rw[ac];exact ak) M.1 (by rw[ac];exact M.2.1)) fun aM aP aA aF W=>?_;obtain⟨W,rfl⟩:=W;exact⟨_,.t rfl (.t rfl .nil),.none ⟨_,rfl,W,rfl⟩⟩
    ·rw[ab U];exact⟨_,.t rfl (.t rfl .nil),.none ⟨_,rfl,I,rfl⟩⟩
theorem vY {t:ao} {path:Bs} {own:Bool} (h:(bU t path own).2=0):bU t path own=bb t path own/\1<=(bU t path own).1/\(bU t path own).1<=t.length:=by
 unfold bU at h⊢;split
 ·rename_i hc;rw[ae hc]at h;cases h
 ·rename_i hc;rw[ab hc]at h;have:=kN h;exact⟨rfl,this.1,this.2.1⟩
theorem Kf [Fx F] {A:V} {t:ao} {path:Bs} {size:Int} {own:Bool} (ht:aa aG O A t) (h:bI t) (hp:path.length<=100000):
 ai F 95 [A,.str path,.j size,.bool own] O [] (fun r ψ R=>∃v,r=.aN [v,.j (je t path size own).2]/\aa aG ψ v (je t path size own).1/\R=[]) never:=by
 have G:=h.1;refine ar ?_;refine S.al (vU (own:=own) ht h hp) ?_;refine S.bin ?_;refine C.B (fun Pl=>?_) fun Pl=>?_
 ·have hz:(bU t path own).2≠0:=by simpa using Pl
  have d:je t path size own=(t,(bU t path own).2):=by unfold je;exact ae hz
  rw[d];exact⟨_,.t rfl (.t rfl .nil),.none ⟨_,rfl,ht,rfl⟩⟩
 ·have hz:(bU t path own).2=0:=by simpa using Pl
  have o:=vY hz;refine S.bin ?_;refine C.D (fun OW=>?_) fun OW=>?_
  ·have d:je t path size own=(t,1):=by unfold je;simp only;rw[ab (by omega),ae OW]
   rw[d];exact⟨_,.t rfl (.t rfl .nil),.none ⟨_,rfl,ht,rfl⟩⟩
  ·refine S.bin ?_;refine C.D (fun OT=>?_) fun OT=>?_
   ·have d:je t path size own=(t,8):=by unfold je;simp only;rw[ab (by omega),ab OW,ae OT]
    rw[d];exact⟨_,.t rfl (.t rfl .nil),.none ⟨_,rfl,ht,rfl⟩⟩
   ·have d:je t path size own=(eL t (bU t path own).1 {nodeAt t (bU t path own).1 with body:=jc (nodeAt t (bU t path own).1).body size.toNat},0):=by unfold je;simp only;rw[ab (by omega),ab OW,ab OT]
    rw[d];obtain⟨z,rfl⟩:∃z:Nat,size=(z:Int):=⟨size.toNat,by omega⟩
    rw[hC];refine S.bin ?_;refine S.ew (n:=(bU t path own).1) ht (by omega) (by omega) fun U M=>?_;refine S.bJ ?_;refine S.alloc fun L=>?_;refine S.store 0 ?_;refine S.ld 0 ?_;refine S.al (zH (s:=(nodeAt t (bU t path own).1).body) (n:=z) (by omega)) ?_;refine S.store 0 ?_;refine S.ag 0 ?_;refine S.call (oN (n:={nodeAt t (bU t path own).1 with body:=jc (nodeAt t (bU t path own).1).body z}) ht G o.2.1 o.2.2) fun W Y I Q hw=>?_;obtain⟨hw,rfl⟩:=hw;exact⟨_,.t rfl (.t rfl .nil),.none ⟨_,rfl,hw,rfl⟩⟩
theorem Kg [Fx F] {A:V} {t:ao} {path:Bs} {mode:Int} {own:Bool} (ht:aa aG O A t) (h:bI t) (hp:path.length<=100000):
 ai F 96 [A,.str path,.j mode,.bool own] O [] (fun r ψ R=>∃v,r=.aN [v,.j (j9 t path mode own).2]/\aa aG ψ v (j9 t path mode own).1/\R=[]) never:=by
 have D:=h.1;refine ar ?_;refine S.al (oM (own:=own) ht h hp) ?_;refine S.bin ?_;refine C.B (fun Pl=>?_) fun Pl=>?_
 ·have hz:(bb t path own).2≠0:=by simpa using Pl
  have d:j9 t path mode own=(t,(bb t path own).2):=by unfold j9;exact ae hz
  rw[d];exact⟨_,.t rfl (.t rfl .nil),.none ⟨_,rfl,ht,rfl⟩⟩
 ·have hz:(bb t path own).2=0:=by simpa using Pl
  have o:=kN hz;refine S.bin ?_;refine G.mv ?_;refine G.bin ?_;refine G.or ?_;refine C.B (fun Pr=>?_) fun Pr=>?_
  ·simp only[cx,aR]at Pr;have d:j9 t path mode own=(t,1):=by unfold j9;simp only;rw[ab (by omega),ae Pr]
   rw[d];exact⟨_,.t rfl (.t rfl .nil),.none ⟨_,rfl,ht,rfl⟩⟩
  ·simp only[cg,bD]at Pr;have d:j9 t path mode own=(eL t (bb t path own).1 {nodeAt t (bb t path own).1 with mode:=mode},0):=by unfold j9;simp only;rw[ab (by omega),ab (by omega)]
   rw[d];refine S.bin ?_;refine S.ew (n:=(bb t path own).1) ht (by omega) (by omega) fun U M=>?_;refine S.bJ ?_;refine S.alloc fun L=>?_;refine S.store 0 ?_;refine S.store 0 ?_;refine S.ag 0 ?_;refine S.call (oN (n:={nodeAt t (bb t path own).1 with mode:=mode}) ht D o.1 o.2.1) fun W Y I Q hw=>?_;obtain⟨hw,rfl⟩:=hw;exact⟨_,.t rfl (.t rfl .nil),.none ⟨_,rfl,hw,rfl⟩⟩
theorem Kh [Fx F] {ac:V} {t:ao} {path text:Bs} {off:Int} {own:Bool} (ht:aa aG O ac t) (Q:bI t) (hp:path.length<=100000) (hx:text.length<=100000) (az:off<=1000000):
 ai F 94 [ac,.str path,.j off,.str text,.bool own] O [] (fun r ψ R=>∃v,r=.aN [v,.j (hP t path off text own).2]/\aa aG ψ v (hP t path off text own).1/\R=[]) never:=by
 have ah:=Q.1;refine ar ?_;refine S.al (vU (own:=own) ht Q hp) ?_;refine S.bin ?_;refine C.B (fun O8=>?_) fun O8=>?_
 ·have hz:(bU t path own).2≠0:=by simpa using O8
  have o:hP t path off text own=(t,(bU t path own).2):=by unfold hP;exact ae hz
  rw[o];exact⟨_,.t rfl (.t rfl .nil),.none ⟨_,rfl,ht,rfl⟩⟩
 ·have hz:(bU t path own).2=0:=by simpa using O8
  have Z:=vY hz;refine S.bin ?_;refine C.D (fun OT=>?_) fun OT=>?_
  ·have o:hP t path off text own=(t,1):=by unfold hP;simp only;rw[ab (by omega),ae OT]
   rw[o];exact⟨_,.t rfl (.t rfl .nil),.none ⟨_,rfl,ht,rfl⟩⟩
  ·refine S.bin ?_;refine G.mv ?_;refine G.cb ?_;refine G.mv ?_;refine G.bin ?_ (hv:=fun _=>fU (by omega) (by omega));refine G.bin ?_;refine G.or ?_;refine C.B (fun M=>?_) fun M=>?_
   ·simp only[cx,aR]at M;have o:hP t path off text own=(t,8):=by unfold hP;simp only;rw[ab (by omega),ab OT,ae (by omega)]
    rw[o];exact⟨_,.t rfl (.t rfl .nil),.none ⟨_,rfl,ht,rfl⟩⟩
   ·simp only[cg,bD]at M;refine S.cb ?_;refine S.bin ?_;refine C.D (fun Y=>?_) fun Y=>?_
    ·have h0:text=[]:=e8 (by omega);have o:hP t path off text own=(t,0):=by unfold hP;simp only;rw[ab (by omega),ab OT,ab (by omega),ae h0]
     rw[o];exact⟨_,.t rfl (.t rfl .nil),.none ⟨_,rfl,ht,rfl⟩⟩
    ·have h0:text≠[]:=by intro e;subst e;exact Y rfl
     have aA:=rQ.2 h0;obtain⟨z,rfl⟩:∃z:Nat,off=(z:Int):=⟨off.toNat,by omega⟩
     have o:hP t path z text own=(eL t (bU t path own).1 {nodeAt t (bU t path own).1 with body:=oK (nodeAt t (bU t path own).1).body z text},0):=by unfold hP;simp only;rw[ab (by omega),ab OT,ab (by omega),ab h0];(try rfl)
     rw[o];obtain⟨A,L⟩:∃A,A=(nodeAt t (bU t path own).1).body:=⟨_,rfl⟩
     have aj:=vX Q (bU t path own).1;rw[<-L]at aj;refine S.bin ?_;refine S.ew (n:=(bU t path own).1) ht (by omega) (by omega) fun aC aw=>?_;refine S.bJ ?_;refine S.alloc fun av=>?_;refine S.store 0 ?_;refine S.ld 0 ?_;refine S.ld 0 ?_;refine S.cb ?_;refine S.cb ?_;refine S.bin ?_;refine S.kH (b:=.j ((z+text.length:Nat):Int)) (y5 (nodeAt t (bU t path own).1).body.length (z+text.length)) ?_;rw[<-L];refine S.al (zH (s:=A) (n:=max A.length (z+text.length)) (by omega)) ?_ (hx:=by rw[L];(try rfl));obtain⟨d,U⟩:∃d,d=jc A (max A.length (z+text.length)):=⟨_,rfl⟩
     have ay:d.length=max A.length (z+text.length):=by rw[U];unfold jc;simp;omega
     rw[<-U];refine S.Jv fun W an=>?_;obtain⟨a,I,c,ha,hs,ak⟩:=an.lo (j:=z) (by omega) (by omega);cases ha;refine S.slice hs ?_;have ho:I=z:=by
      rcases ak with h|h
      ·rw[h];exact Nat.mul_one z
      ·omega
     subst ho;refine S.zo (x:=text) (l:=d) (m:=d.length-I) (I:=I) 0 (by omega) ?_;rw[hD (show text.length<=d.length-I by omega),kk (show text.length<=d.length-I by omega)];have ap:af aU (.sl W 0 d.length (.un 1)) (d.take I++text++d.drop (I+text.length)) (some W):=by
      have hL:(d.take I++text++d.drop (I+text.length)).length=d.length:=by simp;omega
      unfold af;rw[hL];exact⟨by rw[gz,hL],iW _,.inr (.inl ⟨_,rfl,rfl⟩)⟩
     refine S.hM 0 ap ?_;refine S.store 1 ?_;refine S.ag 1 ?_;have am:oK (nodeAt t (bU t path own).1).body I text=d.take I++text++d.drop (I+text.length):=by unfold oK;rw[<-L,<-U]
     refine S.call (oN (n:={nodeAt t (bU t path own).1 with body:=oK (nodeAt t (bU t path own).1).body I text}) ht ah Z.2.1 Z.2.2) (fun aD aE au aB hw=>?_) (hx:=by rw[am];(try rfl));obtain⟨hw,rfl⟩:=hw;exact⟨_,.t rfl (.t rfl .nil),.none ⟨_,rfl,by rw[L];exact hw,rfl⟩⟩
theorem Ki [Fx F] {W:V} {t:ao} {fr dst:Bs} {own:Bool} {f:Nat} {x:ao×Int} (ht:aa aG O W t) (d:bI t) (hp:fr.length<=100000) (bg:dst.length<=100000) (hx:mG f t fr dst own=some x) (aH:∀q,parts fr own=some q->(bb t fr own).2=0->(bb t fr own).1≠1->(aQ t q).2.2=0):
 ai F 93 [W,.str fr,.str dst,.bool own] O [] (fun r ψ R=>∃v,r=.aN [v,.j (x).2]/\aa aG ψ v (x).1/\R=[]) never:=by
 have ba:=d.1;refine ar ?_;refine S.call (oL (path:=fr) (own:=own) (by omega)) fun bs aV a2 aP A=>?_;obtain⟨aT,rfl,A,rfl⟩:=A;have ht:=ht.mono aP;refine S.call (oL (path:=dst) (own:=own) (by omega)) fun bt aW a6 az L=>?_;obtain⟨aU,rfl,L,rfl⟩:=L;have ht:=ht.mono az;refine S.un ?_;refine G.mv ?_;refine G.un ?_;refine G.or ?_;refine C.B (fun I=>?_) fun I=>?_
 ·have aB:x=(t,1):=by
   unfold mG at hx;cases hq:parts fr own with
   |none=>rw[hq]at hx;cases hx;rfl
   |some bk=>
    cases ay:parts dst own with
    |none=>rw[hq,ay]at hx;cases hx;rfl
    |some bn=>rw[hq,ay]at I;simp at I
  rw[aB];exact⟨_,.t rfl (.t rfl .nil),.none ⟨_,rfl,ht,rfl⟩⟩
 ·simp only[cg,du]at I;obtain⟨q,hq⟩:=eS.1 I.1;obtain⟨l,ak⟩:=eS.1 I.2;rw[ak]at L;change aa dA aW aU l at L;rw[hq]at A;change aa dA aV aT q at A;have A:=A.mono az;have aF:=pT ak;have bj:=pT hq;unfold mG at hx;rw[hq,ak]at hx;simp only at hx;refine S.al (oM (path:=fr) (own:=own) ht d hp) ?_;refine S.bin ?_;refine C.B (fun Y=>?_) fun Y=>?_
  ·have hz:(bb t fr own).2≠0:=by simpa using Y
   rw[ae hz]at hx;cases hx;exact⟨_,.t rfl (.t rfl .nil),.none ⟨_,rfl,ht,rfl⟩⟩
  ·have hz:(bb t fr own).2=0:=by simpa using Y
   have bc:=kN hz;rw[ab (by omega)]at hx;refine S.bin ?_;refine C.D (fun M=>?_) fun M=>?_
   ·rw[ae M]at hx;cases hx;exact⟨_,.t rfl (.t rfl .nil),.none ⟨_,rfl,ht,rfl⟩⟩
   ·rw[ab M]at hx;refine S.len ?_ (hl:=aa.len L);refine S.bin ?_;refine C.D (fun an=>?_) fun an=>?_
    ·rw[ae (e8 (by omega))]at hx;cases hx;exact⟨_,.t rfl (.t rfl .nil),.none ⟨_,rfl,ht,rfl⟩⟩
    ·have au:l≠[]:=by intro e;subst e;exact an rfl
     rw[ab au]at hx;refine S.al (q1 ht d L au (by omega)) ?_;refine S.bin ?_;refine C.B (fun Z=>?_) fun Z=>?_
     ·have am:(aQ t l).2.2≠0:=by simpa using Z
      rw[ae am]at hx;cases hx;exact⟨_,.t rfl (.t rfl .nil),.none ⟨_,rfl,ht,rfl⟩⟩
     ·have am:(aQ t l).2.2=0:=by simpa using Z
      have av:=q2 am;have bh:=vV (t:=t) aF.2;rw[ab (by omega)]at hx;have aI:=zL hz M hq;have aL:=aH q hq hz M;have aw:=q2 aL;refine S.al (q1 ht d A aI (by omega)) ?_;refine S.bin ?_;refine G.mv ?_;refine G.mv ?_;refine G.bin ?_;refine G.and ?_;refine C.B (fun Q=>?_) fun Q=>?_
      ·simp only[be,aR]at Q;rw[ae Q]at hx;cases hx;exact⟨_,.t rfl (.t rfl .nil),.none ⟨_,rfl,ht,rfl⟩⟩
      ·rw[ab (fun h=>by rw[decide_eq_true h.1,decide_eq_true h.2]at Q;cases Q)]at hx;refine S.call (lO (ino:=(aQ t l).1) ht d) fun bv aA a7 aS aj=>?_;obtain⟨aj,rfl⟩:=aj;have ht:=ht.mono aS;have bd:=mF d (aQ t l).1;refine S.al (pR (name:=(aQ t l).2.1) aj (by omega)) ?_;refine C.B (fun ac=>?_) fun ac=>?_
       ·rw[ae ac]at hx;cases hx;exact⟨_,.t rfl (.t rfl .nil),.none ⟨_,rfl,ht,rfl⟩⟩
       ·rw[ab (by rw[ac];simp)]at hx;obtain⟨go,ap⟩:∃go:ao×Int,go=if(fg (j8 t (aQ t q).1 (aQ t q).2.1) (aQ t l).1 ⟨(aQ t l).2.1,(bb t fr own).1⟩).2=true then((fg (j8 t (aQ t q).1 (aQ t q).2.1) (aQ t l).1 ⟨(aQ t l).2.1,(bb t fr own).1⟩).1,0)else(t,8):=⟨_,rfl⟩
        rw[<-ap]at hx;refine S.bin ?_;refine S.ew (n:=(bb t fr own).1) ht (by omega) (by omega) fun bo aC=>?_;refine S.bl aC fun bp a8=>?_;refine S.a1 ?_;refine S.bin ?_;refine G.mv ?_;refine G.mv ?_;refine G.mv ?_;have aE:decide ((nodeAt t (bb t fr own).1).kind=2)=true->bm F 159 [W,.j (aQ t l).1,.j (bb t fr own).1] aA (.bool ((fh t (aQ t l).1 f (bb t fr own).1).getD false)):=fun h=>by
         rw[ae (of_decide_eq_true h)]at hx;cases hw:fh t (aQ t l).1 f (bb t fr own).1 with
         |none=>rw[hw]at hx;cases hx
         |some z=>exact J8 d f aA W ht hw
        refine G.al aE ?_;refine G.and ?_;refine C.B (fun o=>?_) fun o=>?_
        ·simp only[be,aR]at o;rw[ae o.1]at hx;have hw:fh t (aQ t l).1 f (bb t fr own).1=some true:=by
          cases hw:fh t (aQ t l).1 f (bb t fr own).1 with
          |none=>rw[hw]at hx;cases hx
          |some z=>rw[hw]at o;simp at o;rw[o.2]
         rw[hw]at hx;cases hx;exact⟨_,.t rfl (.t rfl .nil),.none ⟨_,rfl,ht,rfl⟩⟩
        ·have aK:x=go:=by
          split at hx
          ·rename_i hk;cases hw:fh t (aQ t l).1 f (bb t fr own).1 with
           |none=>rw[hw]at hx;cases hx
           |some z=>
            rw[hw]at hx o;cases z with
            |true=>simp[hk]at o
            |false=>cases hx;rfl
          ·cases hx;rfl
         rw[aK,ap];have aD:=q3 d (aQ t q).1 (aQ t q).2.1;have aJ:=zK t (aQ t q).1 (aQ t q).2.1;refine S.call (zF ht d aw.1 aw.2.1) fun v117 bx aX aM ag=>?_;obtain⟨ag,rfl⟩:=ag;have ht:=ht.mono aM;refine S.build ?_;refine S.call (vT (bi:=(aQ t l).1) (e:=⟨(aQ t l).2.1,(bb t fr own).1⟩) ag aD av.1 (by rw[aJ];exact av.2.1) (by show(aQ t l).2.1.length<=_;omega)) fun br bz aZ aO ah=>?_;obtain⟨bw,rfl,ah,rfl⟩:=ah;have ht:=ht.mono aO;refine S.un ?_;refine C.B (fun U=>?_) fun U=>?_
         ·rw[ab (by intro h;rw[h]at U;cases U)];exact⟨_,.t rfl (.t rfl .nil),.none ⟨_,rfl,ht,rfl⟩⟩
         ·rw[ae (by simpa using U)];exact⟨_,.t rfl (.t rfl .nil),.none ⟨_,rfl,ah,rfl⟩⟩
def pU (t:ao) (path:Bs) (own:Bool):Bs×Int:=if(bU t path own).2≠0 then([],(bU t path own).2)else((nodeAt t (bU t path own).1).body,0)
theorem Kj [Fx F] {o:V} {t:ao} {path:Bs} {own:Bool} (ht:aa aG O o t) (h:bI t) (hp:path.length<=100000):
 bm F 180 [o,.str path,.bool own] O (.aN [.str (pU t path own).1,.j (pU t path own).2]):=by
 have G:=h.1;refine ai.al (ar ?_);refine S.al (vU (own:=own) ht h hp) ?_;refine S.bin ?_;refine C.B (fun OY=>?_) fun OY=>?_
 ·have hz:(bU t path own).2≠0:=by simpa using OY
  have d:pU t path own=([],(bU t path own).2):=by unfold pU;exact ae hz
  rw[d];refine⟨_,.t rfl (.t rfl .nil),.done ?_⟩;rfl
 ·have hz:(bU t path own).2=0:=by simpa using OY
  have I:=vY hz;have d:pU t path own=((nodeAt t (bU t path own).1).body,0):=by unfold pU;exact ab (by omega)
  rw[d];refine S.bin ?_;refine S.ew (n:=(bU t path own).1) ht (by omega) (by omega) fun L A=>?_;refine S.bl A fun M D=>?_;refine S.a1 ?_;refine⟨_,.t rfl (.t rfl .nil),.done ?_⟩;rfl
theorem Kk [Fx F] {o:V} {t:ao} {path:Bs} {own:Bool} (ht:aa aG O o t) (h:bI t) (hp:path.length<=100000):
 ai F 181 [o,.str path,.bool own] O [] (fun r _ _=>∃a b c d e f:Int,r=.aN [.agg [.j a,.j b,.j c,.j d,.j e],.j f]) never:=by
 have I:=h.1;refine ar ?_;refine S.alloc fun D=>?_;refine S.al (oM (own:=own) ht h hp) ?_;refine S.bin ?_;refine C.B (fun OZ=>?_) fun OZ=>?_
 ·refine S.build ?_;refine S.store 0 ?_;exact⟨_,.cN 0 rfl rfl rfl rfl (.t rfl .nil),.none ⟨_,_,_,_,_,_,rfl⟩⟩
 ·have hz:(bb t path own).2=0:=by simpa using OZ
  have L:=kN hz;refine S.bin ?_;refine S.ew (n:=(bb t path own).1) ht (by omega) (by omega) fun M G=>?_;refine S.bJ ?_;refine S.alloc fun A=>?_;refine S.store 0 ?_;refine S.ld 0 ?_;refine S.ld 0 ?_;refine S.ld 0 ?_;refine S.cb ?_;refine S.al (zG ht h) ?_;refine S.bE 0 ?_;refine S.bE 0 ?_;refine S.bE 0 ?_;refine S.build ?_;refine S.store 1 ?_;exact⟨_,.cN 1 rfl rfl rfl rfl (.t rfl .nil),.none ⟨_,_,_,_,_,_,rfl⟩⟩
theorem Kl [Fx F] {o:V} {t:ao} {path:Bs} {own:Bool} (ht:aa aG O o t) (h:bI t) (hp:path.length<=100000):
 ai F 182 [o,.str path,.bool own] O [] (fun r ψ R=>∃v l e,r=.aN [v,.j e]/\aa cC ψ v l/\R=[]) never:=by
 have I:=h.1;refine ar ?_;refine S.al (oM (own:=own) ht h hp) ?_;refine S.bin ?_;refine C.B (fun OY=>?_) fun OY=>?_
 ·exact⟨_,.t rfl (.t rfl .nil),.none ⟨_,_,_,rfl,aa.nil _,rfl⟩⟩
 ·have hz:(bb t path own).2=0:=by simpa using OY
  have L:=kN hz;refine S.bin ?_;refine S.ew (n:=(bb t path own).1) ht (by omega) (by omega) fun Q A=>?_;refine S.bl A fun U G=>?_;refine S.a1 ?_;refine S.bin ?_;refine C.B (fun Pj=>?_) fun Pj=>?_
  ·exact⟨_,.t rfl (.t rfl .nil),.none ⟨_,_,_,rfl,aa.nil _,rfl⟩⟩
  ·refine S.call (lO (ino:=(bb t path own).1) ht h) fun W Y D M d=>?_;obtain⟨d,rfl⟩:=d;exact⟨_,.t rfl (.t rfl .nil),.none ⟨_,_,_,rfl,d,rfl⟩⟩
end Go.Ev
namespace Go.Ev
def dI (p:ah):Bool:=decide (0<=p.addr)&&decide (p.addr<=65535)&&e1 p.gen
def lP (p:ah):Bs:=le 2 p.addr++le 4 p.gen
def cM (l:List ah):Bs:=l.flatMap lP
def kO (n:Int):Bool:=decide (0<=n)&&decide (n<=255)
def q5 (gen:Int) (r:bA):Bool:=e1 gen&&kO r.ino&&kO r.idx&&decide (r.load.length<=53)
def fZ (gen:Int) (r:bA):aT:=if q5 gen r then⟨1,gen,[bM r.ino,bM r.idx]++r.load⟩else fA
def lQ (x:aT):bA:=⟨((x.load[0]?).getD 0).toNat,((x.load[1]?).getD 0).toNat,x.load.drop 2⟩
def eh (x:aT):Option bA:=if x.kind=1/\2<=x.load.length then(if fZ x.gen (lQ x)=x then some (lQ x)else none)else none
abbrev bO:=bA×ah
def pV (i:bO):Bs:=le 1 i.1.ino++le 1 i.1.idx++lP i.2
def fC (l:List bO):Bs:=l.flatMap pV
def kP (i:bO):Bool:=kO i.1.ino&&kO i.1.idx&&dI i.2
def gW (gen:Int) (l:List bO):aT:=if e1 gen&&l.all kP then⟨2,gen,fC l⟩else fA
def gC (gen:Int):Nat->List bO->List aT
 |0,_=>[]
 |_,[]=>[]
 |f+1,a::l=>gW gen ((a::l).take 6)::gC gen f ((a::l).drop 6)
def gD (gen:Int) (l:List bO):List aT:=gC gen l.length l
def fi (s:cL):ah×cL:=(⟨(rdNum 2 s).1,(rdNum 4 (rdNum 2 s).2).1⟩,(rdNum 4 (rdNum 2 s).2).2)
def fD (s:cL):bO×cL:=
 let a:=rdNum 1 s
 let b:=rdNum 1 a.2
 let p:=fi b.2
 ((⟨a.1,b.1,[]⟩,p.1),p.2)
def ka:Nat->cL->List bO->List bO×cL
 |0,s,d=>(d,s)
 |f+1,s,d=>if decide (0<s.1.length)&&!s.2 then ka f (fD s).2 (d++[(fD s).1])else(d,s)
def idxOf (load:Bs):List bO×cL:=ka load.length (load,false) []
def dp (x:aT):Option (List bO):=if x.kind=2/\x.load≠[]then(if(idxOf x.load).2.2=false/\gD x.gen (idxOf x.load).1=[x]then some (idxOf x.load).1 else none)else none
def kQ (gen:Int) (r:cK) (p:List ah):Bool:=e1 gen&&decide (p.length<=6)&&kO r.kind&&e1 r.id&&e1 r.cZ&&e1 r.base&&e1 r.done&&p.all dI
def ey (gen:Int) (r:cK) (p:List ah):aT:=if kQ gen r p then⟨3,gen,le 1 r.kind++bo 4 [r.id,r.cZ,r.base,r.done]++le 1 p.length++cM p⟩else fA
def jK:Nat->cL->List ah->List ah×cL
 |0,s,d=>(d,s)
 |n+1,s,d=>if s.2 then(d,s)else jK n (fi s).2 (d++[(fi s).1])
def gX (s:cL):List ah×cL:=jK (rdNum 1 s).1.toNat (rdNum 1 s).2 []
def fj (load:Bs):cK×List ah×cL:=
 let a:=rdNum 1 (load,false)
 let b:=rdNum 4 a.2
 let c:=rdNum 4 b.2
 let d:=rdNum 4 c.2
 let e:=rdNum 4 d.2
 (⟨a.1,b.1,c.1,d.1,e.1⟩,gX e.2)
def dJ (x:aT):Option (cK×List ah):=if x.kind=3/\(fj x.load).2.2.2=false/\ey x.gen (fj x.load).1 (fj x.load).2.1=x then some ((fj x.load).1,(fj x.load).2.1)else none
def kR (gen next id:Int) (p:List ah):Bool:=e1 gen&&e1 next&&e1 id&&decide (p.length<=7)&&p.all dI
def eM (gen next id:Int) (p:List ah):aT:=if kR gen next id p then⟨4,gen,bo 4 [next,id]++le 1 p.length++cM p⟩else fA
def dC (load:Bs):Int×Int×List ah×cL:=
 let a:=rdNum 4 (load,false)
 let b:=rdNum 4 a.2
 (a.1,b.1,gX b.2)
def c0 (x:aT):Option (Int×Int×List ah):=if x.kind=4/\(dC x.load).2.2.2.2=false/\eM x.gen (dC x.load).1 (dC x.load).2.1 (dC x.load).2.2.1=x then some ((dC x.load).1,(dC x.load).2.1,(dC x.load).2.2.1)else none
def ix (ino:Int):Nat->Int->Bs->List bA
 |0,_,_=>[]
 |f+1,idx,b=>if b=[]then[]else⟨ino,idx,b.take 40⟩::ix ino f (idx+1) (b.drop 40)
def jg (ino:Int) (n:cj):List bA:=if n.kind=0 then[]else⟨ino,0,[bM n.kind,bM n.mode,bM n.body.length]⟩::ix ino n.body.length 1 n.body
def fE:Int->List cj->List bA
 |_,[]=>[]
 |i,n::r=>jg i n++fE (i+1) r
def b3 (t:ao):List bA:=if bH t then fE 1 t else[]
def ez (t:ao) (r:bA):Option ao:=
 if r.ino<1\/9<r.ino then none
 else if r.idx=0 then(if r.load.length=3 then some (eL t r.ino {nodeAt t r.ino with kind:=((r.load[0]?).getD 0).toNat,mode:=((r.load[1]?).getD 0).toNat})else none)
 else some (eL t r.ino {nodeAt t r.ino with body:=(nodeAt t r.ino).body++r.load})
def hQ:ao->List bA->Option ao
 |t,[]=>some t
 |t,r::l=>match ez t r with|none=>none|some d=>hQ d l
def ei (l:List bA):Option ao:=match hQ (List.replicate 9 ef) l with
 |none=>none
 |some t=>if bH t&&decide (b3 t=l)then some t else none
def bP (d:au) (addr gen:Int):Option aT:=if(d.read addr).2 then(match er (d.read addr).1 with
 |none=>none
 |some x=>if 0<=gen/\x.gen≠gen then none else some x)else none
def kb (d:au):List bO->List bA->Option (List bA)
 |[],h=>some h
 |i::l,h=>match(bP d i.2.addr i.2.gen).bind eh with
  |none=>none
  |some r=>if r.ino≠i.1.ino\/r.idx≠i.1.idx then none else kb d l (h++[r])
def eN (d:au):List ah->List bO->List bA->Option (List bO×List bA)
 |[],an,cP=>some (an,cP)
 |q::r,an,cP=>match(bP d q.addr q.gen).bind dp with
  |none=>none
  |some l=>match kb d l cP with
   |none=>none
   |some h=>eN d r (an++l) h
structure gY where
 root:cK
 an:List bO
 tree:ao
structure jh where
 next:Int
 id:Int
 trees:List gY
 all:List ah
def lR (d:au) (p:ah):Option (gY×List ah):=match(bP d p.addr p.gen).bind dJ with
 |none=>none
 |some (r,q)=>match eN d q [] []with
  |none=>none
  |some (an,cP)=>match ei cP with
   |none=>none
   |some t=>some (⟨r,an,t⟩,q++an.map (·.2))
def iy (d:au):List ah->jh->Option jh
 |[],s=>some s
 |p::r,s=>match lR d p with
  |none=>none
  |some (x,l)=>iy d r {s with trees:=s.trees++[x],all:=s.all++l}
def look (d:au) (sum:Int):Option jh:=match bP d sum (-1)with
 |none=>none
 |some x=>match c0 x with
  |none=>none
  |some (next,id,p)=>iy d p ⟨next,id,[],⟨sum,x.gen⟩::p⟩
def cW (p:ah):List ah->List ah
 |[]=>[p]
 |a::l=>if a.addr=p.addr then a::l else if p.addr<a.addr then p::a::l else a::cW p l
def oQ (l:List ah):List ah:=l.foldl (fun out p=>cW p out) []
def blocks (d:au) (sum:Int):Option (List ah):=(look d sum).map (fun s=>oQ s.all)
namespace S
variable{F:Nat->Option aP} {K:KX} {E:Env} {O:Fz} {R:List Ob} {Q:bz} {rs:List Op} {d:Nat} {g:Option (Pa×Bool)}
theorem zM {n:Nat} {x:Od} {p:V} {u xs l:List V} (hn:SA F K rs E O R Q) (hd:lk d E=some (.agg u):=by rfl) (hx:ay E x p:=by exact .t rfl) (hp:EP O p xs:=by assumption) (hl:xs.take n=l:=by rfl) (j:l.length=n:=by rfl) (hs:same (.agg u) (.agg l)=true:=by simp[aq,bu,bq,df,aG,same,b9,V.cells,e0,fx,kL]) (hw:aA E g .yes:=by first|exact .none|exact .yes rfl):
 SR F K (.bX ⟨some (pa d),b2 (some n) x,g⟩::Op.aK rs) E O R Q:=fun W h sh=>ad.sU hw hd hx (hp.b1 hl j sh) hs (S.r hn W h sh)
theorem e2 {z l sd:List V} {n:Nat} {ps:List (Nat×Nat×Od)} {a:Pa} (i:Nat) (hn:SA F K rs E O R Q) (hd:lk d E=some (.sl a 0 n (.ex n)):=by rfl) (hi:R[i]? =some (some a,.cells l false):=by rfl) (j:ny E ps z=some (l,sd):=by rfl) (dl:aY sd=true:=by first|rfl|simp[aY,V.cells,iV,kI,jF,nz,nA,kJ,nB,nC, *]) (hs:aY l=true:=by first|rfl|simp[aY,V.cells,iV,kI,jF,nz,nA,kJ,nB,nC, *]) (hm:b9 l l=true:=by simp[b9,e0,fx,kL]) (hw:aA E g .yes:=by first|exact .none|exact .yes rfl):
 SR F K (.bX ⟨some (pa d),aH z n ps,g⟩::Op.aK rs) E O R Q:=fun W h sh=>ad.y6 hw hd (pJ j dl) hs (sh.fy hi) hm (S.r hn W h sh)
theorem vZ {f:T V->Hp->Option V} {v:V} (j:∀W h,SH O h (R++W)->∀e,bY e E->f e h=some v) (hn:SA F K rs E O R Q) (hd:lk d E=some v:=by rfl) (hs:same v v=true:=by first|rfl|exact tb _ _|exact tc _|exact kL _|exact FS.same (by assumption)) (hw:aA E g .yes:=by first|exact .none|exact .yes rfl):
 SR F K (.bX ⟨some (pa d),.pu f,g⟩::Op.aK rs) E O R Q:=fun W h sh=>WR.bX (fun e he=>by
 simp only[iM,hw e he];rw[he d _ hd];simp only[j W h sh e he,hs]) (S.r hn W h sh)
theorem gZ {z:List V} {a:Pa} {l:List V} (i:Nat) (hn:SA F K rs E O R Q) (hd:lk d E=some (.ptr a 0):=by rfl) (hi:R[i]? =some (some a,.cells l false):=by rfl) (hm:b9 z l=true:=by first|rfl|simp[b9,e0,fx,kL]) (hw:aA E g .yes:=by first|exact .none|exact .yes rfl):
 SR F K (.bX ⟨some (pa d),av z,g⟩::Op.aK rs) E O R Q:=fun W h sh=>WR.bX (fun e he=>by
 have j:same (.ptr a 0) (.ptr a 0)=true:=by
  show(a.beq a&&Nat.beq 0 0)=true;rw[(Pa.beq_iff a a).2 rfl];(try rfl)
 simp only[iM,hw e he,av];rw[he d _ hd];simp only[ln,sh.fy hi,j,aE];exact hm) (S.r hn W h sh)
theorem zN {x:Od} {b:UInt8} (hn:SA F K rs E O R Q) (hx:ay E x (cz b):=by exact .t rfl) (hd:lk d E=some (.int .i64 (b.toNat:Int)):=by rfl) (hw:aA E g .yes:=by first|exact .none|exact .yes rfl):SR F K (.bX ⟨some (pa d),cH .i64 x,g⟩::Op.aK rs) E O R Q:=
 vZ (fun _ _ _ e he=>by
  rw[show x.ev e=.int .u8 (b.toNat:Int)from hx e he];exact congrArg (fun z=>some (V.int .i64 z)) (vJ b)) hn hd (tb _ _) hw
theorem v7 {s:Nat} {x:Od} {lo hi mx:Option Od} {a v:V} {A j h:Option V} (hv:dx s a A j h=some v) (hs:same v v=true) (hn:SA F K rs E O R Q) (hd:lk d E=some v:=by rfl) (hx:ay E x a:=by first|exact .t rfl|exact .c) (o:gU E lo A:=by first|exact .none|exact .some (.t rfl)|exact .some .c) (aj:gU E hi j:=by first|exact .none|exact .some (.t rfl)|exact .some .c) (B:gU E mx h:=by first|exact .none|exact .some (.t rfl)|exact .some .c) (hw:aA E g .yes:=by first|exact .none|exact .yes rfl):
 SR F K (.bX ⟨some (pa d),dO s x lo hi mx,g⟩::Op.aK rs) E O R Q:=
 vZ (fun _ _ _ e he=>by simp only[hx e he,o e he,aj e he,B e he,hv];cases h<;>rfl) hn hd hs hw
theorem jL [eY K] {U:Type} {e:bG U} {w:V} {l:List U} {s:Option Pa} {n:Nat} {xs:List Od} {vs:List V} {Rt:V->List Ob->Prop} (i:Nat) (ho:af e w l s) (hc:∀ψ,O.Le ψ->aa e ψ w l->ai F n vs ψ [] (fun r G A=>G=ψ/\Rt r A) never) (hn:∀v A,Rt v A->SA F K rs ((d,v)::E) O (A++R.eraseIdx i) Q) (hi:R[i]? =some (e.ob s l):=by rfl) (hx:im E xs=some vs:=by rfl) (hw:aA E g .yes:=by first|exact .none|exact .yes rfl):
 SR F K (.op ⟨some (pa d),aI n xs,g⟩::Op.aK rs) E O R Q:=fun W h sh=>by
 obtain⟨ψ,j,B,D,I,rfl⟩:∃ψ j,O.Le ψ/\SH ψ h (j++W)/\aa e ψ w l/\j=R.eraseIdx i:=by
  obtain⟨ψ,j,B,D,o⟩:=Fin.bL (P:=fun ψ j=>aa e ψ w l/\j=R.eraseIdx i) i hi ho (fun ψ o aj=>.done ⟨aj,rfl⟩) W h sh;exact⟨ψ,j,B,D,o⟩
 rcases hc ψ B I (R.eraseIdx i++W) h (by simpa using D)with⟨v,h',o,G,A,aj,L,rfl,M⟩|⟨_,_,_,_,_,_,_,h⟩
 ·exact ad.call hw (j4 hx) o (S.r (hn v A M) W h' (by rw[bp];exact L.less B))
 ·exact h.elim
theorem vC [eY K] {U:Type} {e:bG U} {w u:V} {l:List U} {s:Option Pa} {n:Nat} {xs:List Od} {vs:List V} (i:Nat) (ho:af e w l s) (hc:∀ψ,O.Le ψ->aa e ψ w l->bm F n vs ψ u) (hn:SA F K rs ((d,u)::E) O R Q) (hi:R[i]? =some (e.ob s l):=by rfl) (hx:im E xs=some vs:=by rfl) (hw:aA E g .yes:=by first|exact .none|exact .yes rfl):
 SR F K (.op ⟨some (pa d),aI n xs,g⟩::Op.aK rs) E O R Q:=Ge (bm.vC i hi ho hc) (fun _ _ _ _ ⟨o,aj,h⟩=>by subst o;subst aj;subst h;exact hn) hx hw
theorem mH {j:IntKind} {x:Od} {n:Int} (hn:SA F K rs ((d,cz (bM n))::E) O R Q) (hx:ay E x (.int j n):=by first|exact .t rfl|exact .c) (hw:aA E g .yes:=by first|exact .none|exact .yes rfl):
 SR F K (.op ⟨some (pa d),cH .u8 x,g⟩::Op.aK rs) E O R Q:=mw (by rw[te];exact hn) hx hw
end S
namespace G
variable{F:Nat->Option aP} {K:KX} {E:Env} {O:Fz} {R:List Ob} {Q:bz} {rs:List Op} {d:Nat} {g:Option (Pa×Bool)} {b:Bool}
theorem dg {n:Nat} {x:Od} {a:Pa} {I:Nat} {u l:List V} {cs:List V} (i:Nat) (hn:SA F K rs E O R Q) (hd:lk d E=some (gv b (.agg u)):=by rfl) (h:Gd E g b:=by first|exact .y rfl|exact .n rfl|exact .yg rfl|exact .ng rfl) (hx:da E x b (.ptr a I):=by first|exact .g rfl|exact .gl rfl|exact .u (.t rfl)) (hi:R[i]? =some (some a,.cells cs false):=by rfl) (hl:(cs.drop I).take n=l:=by rfl) (j:l.length=n:=by rfl) (hs:same (.agg u) (.agg l)=true:=by simp[aq,bu,bq,df,aG,same,b9,V.cells,e0,fx,kL]):
 SR F K (.bX ⟨some (pa d),b2 (some n) x,g⟩::Op.aK rs) E O R Q:=by
 cases b with
 |true=>exact S.dg i hn hd (hx rfl) hi hl j hs h
 |false=>exact S.sT h hd hn
theorem call [eY K] {n:Nat} {xs:List Od} {vs:List V} {Rt:V->Fz->List Ob->Prop} (hc:b=true->ai F n vs O [] (fun r ψ R=>R=[]/\Rt r ψ R) never) (hn:∀v ψ,O.Le ψ->(b=true->Rt v ψ [])->SA F K rs ((d,gv b v)::E) ψ R Q) (j:Gd E g b:=by first|exact .y rfl|exact .n rfl|exact .yg rfl|exact .ng rfl) (hx:nE E b xs vs:=by repeat(first|exact .nil|refine .cons (.g rfl) ?_|refine .cons (.gl rfl) ?_|refine .cons (.u (.t rfl)) ?_|refine .cons (.u .c) ?_)):SR F K (.op ⟨some (pa d),aI n xs,g⟩::Op.aK rs) E O R Q:=by
 cases b with
 |false=>exact S.no j (hn cV O (.refl O) (fun h=>by cases h))
 |true=>
  intro W h sh;rcases hc rfl (R++W) h (by simpa using sh)with⟨v,h',o,ψ,D,aj,A,rfl,B⟩|⟨_,_,_,_,_,_,_,h⟩
  ·exact WR.up aj (ad.call j (hx.is rfl) o (S.r (hn v ψ aj (fun _=>B)) W h' (by simpa using A)))
  ·exact h.elim
end G
theorem zO (a b:aT):a=b↔a.kind=b.kind/\a.gen=b.gen/\a.load=b.load:=⟨fun h=>by subst h;exact⟨rfl,rfl,rfl⟩,fun⟨o,aj,d⟩=>by cases a;cases b;simp_all⟩
theorem nJ (a b:aT):b0 .neq (.agg [(0,.i),(1,.i),(2,.s)]) (.agg (bu.f a)) (.agg (bu.f b))=some (.bool (!decide (a=b))):=by
 have h:=sV a.kind a.gen b.kind b.gen a.load b.load;rw[show decide (a=b)=decide (a.kind=b.kind/\a.gen=b.gen/\a.load=b.load)from decide_eq_decide.2 (zO a b)];exact h
theorem Km (a b:bA):a=b↔a.ino=b.ino/\a.idx=b.idx/\a.load=b.load:=⟨fun h=>by subst h;exact⟨rfl,rfl,rfl⟩,fun⟨o,aj,d⟩=>by cases a;cases b;simp_all⟩
theorem zP (a b:bA):b0 .neq (.agg [(0,.i),(1,.i),(2,.s)]) (.agg (bq.f a)) (.agg (bq.f b))=some (.bool (!decide (a=b))):=by
 have h:=sV a.ino a.idx b.ino b.idx a.load b.load;rw[show decide (a=b)=decide (a.ino=b.ino/\a.idx=b.idx/\a.load=b.load)from decide_eq_decide.2 (Km a b)];exact h
theorem Kn (k g k' d:Int):b0 .neq (.agg [(0,.i),(1,.i)]) (.agg [.int .i64 k,.int .i64 g]) (.agg [.int .i64 k',.int .i64 d])=some (.bool (!decide (k=k'/\g=d))):=by
 show(ku [V.int .i64 k,.int .i64 g] [.int .i64 k',.int .i64 d] [(0,.i),(1,.i)]).map (fun b=>V.bool (!b))=_;have hk:cr .i64 .i64=true:=rfl;have n0:∀(a b:V),nth [a,b] 0=some a:=fun _ _=>rfl;have n1:∀(a b:V),nth [a,b] 1=some b:=fun _ _=>rfl;simp only[ku,n0,n1,en,hk,aE,h3];by_cases o:k=k'
 ·have h:(k==k')=true:=by simpa using o
  by_cases aj:g=d
  ·have j:(g==d)=true:=by simpa using aj
   rw[h,j];simp[o,aj]
  ·have j:(g==d)=false:=by simpa using aj
   rw[h,j];simp[aj]
 ·have h:(k==k')=false:=by simpa using o
  rw[h];simp[o]
theorem Ko (a b:ah):a=b↔a.addr=b.addr/\a.gen=b.gen:=⟨fun h=>by subst h;exact⟨rfl,rfl⟩,fun⟨o,aj⟩=>by cases a;cases b;simp_all⟩
theorem v8 (a b:ah):b0 .neq (.agg [(0,.i),(1,.i)]) (.agg (aq.f a)) (.agg (aq.f b))=some (.bool (!decide (a=b))):=by
 have h:=Kn a.addr a.gen b.addr b.gen;rw[show decide (a=b)=decide (a.addr=b.addr/\a.gen=b.gen)from decide_eq_decide.2 (Ko a b)];exact h
theorem ra {q:cy} {a m:Nat} (hm:0<m) (ha:a<=9223372036854775807):b0 .quo q (.int .i64 (a:Int)) (.int .i64 (m:Int))=some (.int .i64 ((a/m:Nat):Int)):=by
 show(bif cr .i64 .i64 then(bif gh (m:Int) 0 then none else some (V.int .i64 (ek .i64 ((a:Int).tdiv (m:Int)))))else none)=_;have aj:gh (m:Int) 0=false:=by rw[h3];simp;omega
 rw[show cr .i64 .i64=true from rfl,aj,aE,bw];have:(a:Int).tdiv (m:Int)=((a/m:Nat):Int):=rfl;rw[this,sQ .i64 (show a/m<=9223372036854775807 by have:=Nat.div_le_self a m;omega)]
theorem zQ (p:ah):(lP p).length=6:=by simp[lP,fz]
theorem re (l:List ah):(cM l).length=6*l.length:=by
 induction l with
 |nil=>rfl
 |cons a l d=>simp only[cM,rS,c2,zQ,b7]at*;rw[d];omega
theorem wa {l:List ah} {j:Nat} (hj:j<l.length):cM (l.take (j+1))=cM (l.take j)++lP l[j]:=by
 rw[fm hj,cM,List.flatMap_append];simp[cM]
theorem wb (l:List bO):(fC l).length=8*l.length:=by
 induction l with
 |nil=>rfl
 |cons a l d=>simp only[fC,pV,rS,c2,zQ,fz,b7]at*;rw[d];omega
theorem Kp {l:List bO} {j:Nat} (hj:j<l.length):fC (l.take (j+1))=fC (l.take j)++pV l[j]:=by
 rw[fm hj,fC,List.flatMap_append];simp[fC]
theorem dh (n:Nat) (s:cL):(rdNum n s).2.1.length<=s.1.length:=by unfold rdNum;split<;>simp
end Go.Ev
