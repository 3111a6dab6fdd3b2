/- A part of the proof of glacislaw13.LiveAll (made short by a program). -/
import Derived.Test.YtmglhbclhfgmaaaGreatDoorVG
set_option maxHeartbeats 2000000
namespace Go.Ev
variable{F:Nat→Option aN} {O:Fz}
theorem Gx {U:Type} (p:U→Bool) {l:List U} {j:Nat} (hj:j<l.length):(l.take (j+1)).all p=((l.take j).all p&&p l[j]):=by
 rw[aqd hj,arQ];simp
theorem Mo [Fx F] {s:Bs} (hs:s.length≤1000000):bk F 199 [.str s] O (.bool (fx s)):=by
 refine ai.ak (au ?_);refine SW.loop (fun m E ψ R=>∃j:Nat,j+m=s.length∧(s.take j).all (fun c=>!xo c)=true∧Sub [(0,.str s),(3,.j (j:Int))] E) (m:=s.length) ⟨0,by omega,rfl,.r rfl⟩ ?_;intro m0 E ψ R ac hI;obtain⟨j,hj,ha,hE⟩:=hI;refine C.sub hE ?_;refine S.cD ?_;refine S.bin ?_;refine C.D (fun ml=>?_) fun ml=>?_
 ·have ap:j<s.length:=by omega
  have bE:s[j]? =some s[j]:=KJ ap;refine S.iS bE ?_;refine S.bin ?_;refine G.mv ?_;refine G.mv ?_;refine G.iS ?_;refine G.bin ?_;refine G.or ?_;refine G.mv ?_;refine G.mv ?_;refine G.iS ?_;refine G.bin ?_;refine G.or ?_;refine C.B (fun bV=>?_) fun bV=>?_
  ·have I:fx s=false:=by
    unfold fx;rw[aqs];left;rw[List.all_eq_false];exact⟨s[j],W1 ap,by unfold xo;rw[bV];simp⟩
   rw[I];exact⟨_,.t rfl .nil,.done rfl⟩
  ·refine S.bin ?_;refine⟨m0-1,by omega,j+1,by omega,?_,.r rfl⟩;rw[Gx _ ap,ha,aql];unfold xo;rw[bV];(try rfl)
 ·have I:j=s.length:=by omega
  rw[I,ap2]at ha;have J:fx s=(decide ((1:Int)≤(s.length:Int))&&decide ((s.length:Int)≤6)):=by unfold fx;rw[ha,aql]
  rw[J];refine S.cD ?_;refine S.bin ?_;refine G.mv ?_;refine G.cD ?_;refine G.bin ?_;refine G.and ?_;refine⟨_,.t rfl .nil,.done ?_⟩;rfl
theorem aiD [Fx F] {s:Bs} (hs:s.length≤1000000):bk F 201 [.str s] O (.bool (Mh s)):=by
 refine ai.ak (au ?_);refine S.ak (Mo hs) ?_;have hz:fx s=true→s[0]? =some ((s[0]?).getD 0):=fun h=>by
  unfold fx at h;simp only[G7,G6]at h;rw[KJ (show 0<s.length by omega)];(try rfl)
 refine G.mv ?_;refine G.iS (j:=0) ?_;refine G.bin ?_;refine G.and ?_;refine⟨_,.t rfl .nil,.done ?_⟩;show V.bool _=V.bool _;congr 1;unfold Mh;cases ho:fx s with
 |false=>rfl
 |true=>
  have h0:=hz ho;have I:s.head? =some ((s[0]?).getD 0):=by rw[List.head?_eq_getElem?];exact h0
  rw[aql,aql,I];congr 1;refine decide_eq_decide.2 ⟨fun h=>?_,fun h=>?_⟩
  ·congr 1;refine art.1 ?_;show _=126;omega
  ·simp only[E8]at h;rw[h];(try rfl)
theorem xw [Fx F] {path:Bs} {own:Bool} (hp:path.length≤100000):
 ai F 159 [.str path,.bool own] O [] (fun r ψ R=>∃v,r=.aM [v,.bool (parts path own).isSome]∧aa ec ψ v ((parts path own).getD [])∧R=[]) never:=by
 refine au ?_;refine S.bin ?_;refine C.D (fun bU=>?_) fun bU=>?_
 ·have e:parts path own=some []:=by unfold parts;exact B4 bU
  rw[e];exact⟨_,.t rfl (.t rfl .nil),.none ⟨_,rfl,aa.nil _,rfl⟩⟩
 ·refine S.cD ?_;refine S.bin ?_;have hz:(!decide ((path.length:Int)=0))=true→path[0]? =some ((path[0]?).getD 0):=fun h=>by
   simp only[apH,NI]at h;rw[KJ (show 0<path.length by omega)];(try rfl)
  refine G.mv ?_;refine G.iS (j:=0) ?_;refine G.bin ?_;refine G.or ?_;refine C.B (fun cy=>?_) fun cy=>?_
  ·have e:parts path own=none:=by
    unfold parts;rw[pg bU];cases path with
    |nil=>rfl
    |cons c r=>
     simp only[WW,aqe,aqD,amt,G6,apH,NI]at cy;exact pg (by omega)
   rw[e];exact⟨_,.t rfl (.t rfl .nil),.none ⟨_,rfl,aa.nil _,rfl⟩⟩
  ·obtain⟨rest,hr,e⟩:∃rest,path=47::rest∧parts path own=ik own rest [] []:=by
    unfold parts;rw[pg bU];cases path with
    |nil=>simp at cy
    |cons c r=>
     simp only[WW,aqe,aqD,W0,NI,apR,G6]at cy;have nz:c.toNat=47:=by omega
     exact⟨r,by rw[art.1 (show c.toNat=(47:UInt8).toNat by rw[nz];(try rfl))],B4 nz⟩
   rw[e];refine SW.new ec ?_;refine SW.loop (fun m E ψ R=>∃(i:Nat) (name:Bs) (out:List Bs) (v:V) (s:Option Pa),i+m=path.length+1∧1≤i∧name.length≤i∧out.length≤i∧((i≤path.length∧ik own rest [] []=ik own (path.drop i) name out)∨(i=path.length+1∧ik own rest [] []=some out))∧R=[ec.ob s out]∧ae ec v out s∧Sub [(0,.str path),(1,.bool own),(6,v),(7,.str name),(8,.j (i:Int))] E) (m:=path.length) ⟨1,[],[],.no .sl,none,by omega,by omega,by simp,by simp,.inl ⟨by rw[hr];simp,by rw[hr];(try rfl)⟩,rfl,ae.nil,.r rfl⟩ ?_;intro m0 E ψ R ac hI;obtain⟨i,name,out,v,s,hm,rR,hn,DN,aj,rfl,ho,hE⟩:=hI;refine C.sub hE ?_;refine S.cD ?_;refine S.bin ?_;refine C.D (fun d5=>?_) fun d5=>?_
   ·obtain⟨hi,ab⟩:i≤path.length∧ik own rest [] []=ik own (path.drop i) name out:=by
     rcases aj with h|h
     ·exact h
     ·omega
    have hz:decide ((i:Int)<(path.length:Int))=true→path[i]? =some ((path[i]?).getD 0):=fun h=>by
     rw[KJ (show i<path.length by simp at h;omega)];(try rfl)
    refine S.cD ?_;refine S.bin ?_;refine G.mv ?_;refine G.mv ?_;refine G.iS (j:=i) ?_;refine G.bin ?_;refine G.and ?_;refine C.B (fun vO=>?_) fun vO=>?_
    ·simp only[G7,G6,apH,NI]at vO;have ap:i<path.length:=by omega
     rw[KJ ap,aqD]at vO;rw[Rm ap]at ab;have cz:ik own rest [] []=ik own (path.drop (i+1)) (name++[path[i]]) out:=by rw[ab];simp only[ik];exact pg (by omega)
     refine S.bin ?_;refine S.je (Gs (s:=path) (i:=i) (j:=i+1) (by omega) (by omega)) ?_;rw[show(path.drop i).take (i+1-i)=[path[i]] by rw[aqT,Rm ap];(try rfl)];refine S.bin ?_ (hv:=sS (by simp;omega));refine S.bin ?_;refine⟨m0-1,by omega,i+1,_,out,v,s,by omega,by omega,by simp;omega,by omega,.inl ⟨by omega,cz⟩,rfl,ho,.r rfl⟩
    ·have eZ:ik own rest [] []=if sY own name out.length then none else(if i<path.length then ik own (path.drop (i+1)) [] (out++[name])else some (out++[name])):=by
      rw[ab];by_cases ap:i<path.length
      ·rw[Rm ap];simp only[ik];have nz:(path[i]).toNat=47:=by
        simp only[aqs,NI,apR,G6]at vO;rw[KJ ap,aqD]at vO;omega
       rw[B4 nz,B4 ap]
      ·rw[aqw (by omega)];simp only[ik];rw[pg ap]
     refine S.ak (Mo (s:=name) (by omega)) ?_;refine S.un ?_;refine G.mv ?_;refine G.un ?_;refine G.mv ?_;refine G.mv ?_;refine G.ak (fun _=>aiD (s:=name) (by omega)) ?_;refine G.un ?_;refine G.jR ?_;refine G.or ?_;refine G.mv ?_;refine G.len ?_;refine G.bin ?_;refine G.or ?_;refine C.B (fun e4=>?_) fun e4=>?_
     ·have hb:sY own name out.length=true:=by unfold sY;rw[show decide (8≤out.length)=decide ((8:Int)≤(out.length:Int))from decide_eq_decide.2 (by omega)];exact e4
      rw[hb,B4 rfl]at eZ;rw[eZ];exact⟨_,.t rfl (.t rfl .nil),.none ⟨_,rfl,aa.nil _,rfl⟩⟩
     ·have hb:sY own name out.length=false:=by unfold sY;rw[show decide (8≤out.length)=decide ((8:Int)≤(out.length:Int))from decide_eq_decide.2 (by omega)];exact e4
      rw[hb,pg (by simp)]at eZ;refine S.a8 fun Yl=>?_;refine S.bu (m:=[name]) 1 ho (.lit 0) (by simp;omega) fun OC OD AI=>?_;refine S.drop 0 ?_;refine S.mv ?_;refine S.bin ?_;refine⟨m0-1,by omega,i+1,[],out++[name],OC,OD,by omega,by omega,by simp,by simp;omega,?_,rfl,AI,.r rfl⟩;by_cases ap:i<path.length
      ·rw[B4 ap]at eZ;exact .inl ⟨by omega,eZ⟩
      ·rw[pg ap]at eZ;exact .inr ⟨by omega,eZ⟩
   ·obtain⟨_,ab⟩:i=path.length+1∧ik own rest [] []=some out:=by
     rcases aj with h|h
     ·omega
     ·exact h
    rw[ab];refine⟨_,.t rfl (.t rfl .nil),.bR 0 rfl ho fun ψ hl hf=>.none ⟨_,rfl,hf,rfl⟩⟩
def u3 (l:List aT) (j:Nat):Option Bs:=if j=0 then none else some ((l[j-1]?).getD ⟨[],0⟩).name
theorem TR {l:List aT} {j:Nat} (hj:j<l.length):u3 l (j+1)=some (l[j]).name:=by
 unfold u3;rw[pg (by omega),arn,KJ hj];(try rfl)
theorem aiE {l:List aT} {j:Nat} {s:Bs} (hj:j<l.length) (z:aT) (hz:0<j→l[j-1]? =some z):
 (!fx (l[j]).name||decide ((l[j]).ino<1)||decide (9<(l[j]).ino)||(decide ((0:Int)<(j:Int))&&!kG z.name (l[j]).name)||decide ((120:Int)<(s.length:Int)))=sZ (u3 l j) (l[j]) s:=by
 unfold sZ u3;rw[show decide ((120:Int)<(s.length:Int))=decide (120<s.length)from decide_eq_decide.2 (by omega)];by_cases h0:j=0
 ·subst h0;simp
 ·rw[pg h0,hz (by omega),decide_eq_true (show(0:Int)<(j:Int) by omega)];simp
theorem Mp [Fx F] {lv:V} {l:List aT} (hl:aa c9 O lv l) (hlen:l.length≤1000000) (bx:∀e∈l,e.name.length≤100000):bk F 152 [lv] O (.aM [.str ((fN l).getD []),.bool (fN l).isSome]):=by
 refine ai.ak (au ?_);refine SW.bG (fun m E ψ R=>∃(j:Nat) (s:Bs),j+m=l.length∧fN l=fy (u3 l j) s (l.drop j)∧s.length≤200∧O=ψ∧R=[]∧Sub [(0,lv),(4,.str s),(5,.j (j:Int))] E) (m:=l.length) (.done ⟨0,[],by omega,rfl,by simp,rfl,rfl,.r rfl⟩) ?_;intro m0 E ψ R ac hI;obtain⟨j,s,hm,ab,gQ,rfl,rfl,hE⟩:=hI;refine C.sub hE ?_;refine S.len ?_;refine S.bin ?_;refine C.D (fun bU=>?_) fun bU=>?_
 ·have hj:j<l.length:=by omega
  rw[Rm hj]at ab;simp only[fy]at ab;have d2:=bx _ (W1 hj);have hz:0<j→l[j-1]? =some ((l[j-1]?).getD ⟨[],0⟩):=fun h=>by rw[KJ (show j-1<l.length by omega)];(try rfl)
  refine S.aF hl hj fun DO tT=>?_;refine S.bP ?_;refine S.alloc fun cb=>?_;refine S.store 0 ?_;refine S.ld 0 ?_;refine S.ak (Mo (s:=(l[j]).name) (by omega)) ?_;refine S.un ?_;refine G.aE ?_;refine G.ld 0 ?_;refine G.bin ?_;refine G.or ?_;refine G.aE ?_;refine G.ld 0 ?_;refine G.bin ?_;refine G.or ?_;refine G.mv ?_;refine G.bin ?_;refine G.mv ?_;refine G.mv ?_;refine G.mv ?_;refine G.bin ?_ (hv:=fun hb=>Mf (by simp at hb;omega) (by omega));refine G.aF hl (fun Ym OE=>?_) (hj:=fun hb=>hz (by simp at hb;omega));refine G.bl OE fun OF AJ=>?_;refine G.aX ?_;refine G.aE ?_;refine G.ld 0 ?_;refine G.bin ?_ (hv:=fun _=>TD);refine G.jR ?_;refine G.or ?_;refine G.mv ?_;refine G.cD ?_;refine G.bin ?_;refine G.or ?_;rw[aiE hj _ hz];refine C.B (fun k7=>?_) fun k7=>?_
  ·rw[B4 k7]at ab;rw[ab];exact⟨_,.t rfl (.t rfl .nil),.none rfl⟩
  ·rw[pg (by rw[k7];simp)]at ab;have hb:=k7;simp only[sZ,W0,apR,NI]at hb;have H5:(l[j]).name.length≤6:=by
    have:=hb.1.1.1.1;unfold fx at this;simp only[G7,G6]at this;omega
   refine S.ld 0 ?_;refine S.cD ?_;refine S.qV ?_;rw[Gr];refine S.a8 fun Yn=>?_;refine S.jS 0 (ae.new (e:=aQ) (l:=[bS ((l[j]).name.length:Int)]) rfl) ?_;refine S.bin ?_ (hv:=sS (by simp;omega));refine S.ld 1 ?_;refine S.bin ?_ (hv:=sS (by simp;omega));refine S.ld 1 ?_;refine S.qV ?_;rw[Gr];refine S.a8 fun Yo=>?_;refine S.jS 0 (ae.new (e:=aQ) (l:=[bS (l[j]).ino]) rfl) ?_;refine S.bin ?_ (hv:=sS (by simp;omega));refine S.bin ?_;refine⟨m0-1,by omega,.none ⟨j+1,_,by omega,?_,?_,rfl,rfl,.r rfl⟩⟩
   ·rw[ab,TR hj];congr 1;simp[xp,le]
   ·simp;omega
 ·have hj:j=l.length:=by omega
  subst hj;rw[WV]at ab;simp only[fy]at ab;refine S.cD ?_;refine S.bin ?_;refine C.D (fun rS=>?_) fun rS=>?_
  ·rw[B4 (by omega)]at ab;rw[ab];exact⟨_,.t rfl (.t rfl .nil),.none rfl⟩
  ·rw[pg (by omega)]at ab;rw[ab];refine⟨_,.t rfl (.t rfl .nil),.done ?_⟩;rfl
theorem TT:∀(f:Nat) (b:Bs) (am l:List aT),iF f b am=some l→(∀e∈am,e.name.length≤6)→∀e∈l,e.name.length≤6:=by
 intro f
 induction f with
 |zero=>intro b am l h ha;cases b with
  |nil=>simp only[iF,E8]at h;subst h;exact ha
  |cons c r=>simp[iF]at h
 |succ f ih=>intro b am l h ha;cases b with
  |nil=>simp only[iF,E8]at h;subst h;exact ha
  |cons c r=>
   simp only[iF]at h;split at h
   ·cases h
   ·rename_i hc;refine ih _ _ _ h fun e he=>?_;rw[aqh,aqj]at he;rcases he with he|rfl
    ·exact ha e he
    ·show(r.take c.toNat).length≤6;rw[ab7];omega
theorem aiF {b:Bs} {l:List aT} (h:cY b=some l):∀e∈l,e.name.length≤6:=by
 unfold cY at h;split at h
 ·cases h
 ·rename_i l' hl;split at h
  ·cases h;exact TT _ _ _ _ hl (fun e he=>by cases he)
  ·cases h
theorem TU {t:an} {i:Int}:∀e∈aR t i,e.name.length≤6:=by
 unfold aR;split
 ·intro e he;cases he
 ·cases h:cY (nodeAt t i).body with
  |none=>intro e he;cases he
  |some l=>exact aiF h
theorem TV [Fx F] {b:Bs} (hb:b.length≤1000000):
 ai F 102 [.str b] O [] (fun r ψ R=>∃v,r=.aM [v,.bool (cY b).isSome]∧aa c9 ψ v ((cY b).getD [])∧R=[]) never:=by
 refine au ?_;refine SW.new c9 ?_;refine SW.loop (fun m E ψ R=>∃(j:Nat) (am:List aT) (v:V) (s:Option Pa),j≤b.length∧b.length≤j+m∧iF b.length b []=iF m (b.drop j) am∧am.length≤j∧R=[c9.ob s am]∧ae c9 v am s∧Sub [(0,.str b),(4,v),(5,.j (j:Int))] E) (m:=b.length) ⟨0,[],.no .sl,none,by omega,by omega,rfl,by simp,rfl,ae.nil,.r rfl⟩ ?_;intro m0 E ψ R ac hI;obtain⟨j,am,v,s,hj,hm,ab,rT,rfl,ho,hE⟩:=hI;refine C.sub hE ?_;refine S.cD ?_;refine S.bin ?_;refine C.D (fun k8=>?_) fun k8=>?_
 ·have ap:j<b.length:=by omega
  obtain⟨f,rfl⟩:∃f,m0=f+1:=⟨m0-1,by omega⟩
  rw[Rm ap]at ab;simp only[iF]at ab;have fW:(b.drop (j+1)).length=b.length-(j+1):=Rn;have hc8:=(b[j]).toNat_lt;refine S.iS (KJ ap) ?_;refine S.lK ?_;refine S.bin ?_;refine G.mv ?_;refine G.mv ?_;refine G.bin ?_;refine G.bin ?_;refine G.mv ?_;refine G.cD ?_;refine G.bin ?_;refine G.or ?_;refine C.B (fun iK=>?_) fun iK=>?_
  ·simp only[amt,G6]at iK;rw[B4 (by omega)]at ab;have e:cY b=none:=by unfold cY;rw[ab]
   rw[e];exact⟨_,.t rfl (.t rfl .nil),.none ⟨_,rfl,aa.nil _,rfl⟩⟩
  ·simp only[W0,NI]at iK;rw[pg (by omega)]at ab;obtain⟨n,hn⟩:∃n,n=(b[j]).toNat:=⟨_,rfl⟩
   rw[←hn]at ab iK⊢;refine S.bin ?_;refine S.bin ?_;refine S.bin ?_;refine S.je (Gs (s:=b) (i:=j+1) (j:=j+1+n) (by omega) (by omega)) ?_;rw[aqT];refine S.bin ?_;refine S.bin ?_;refine S.iS (j:=j+1+n) (KJ (show j+1+n<b.length by omega)) ?_;refine S.lK ?_;refine S.build ?_;refine S.a8 fun a45=>?_;refine S.bu (m:=[⟨(b.drop (j+1)).take n,((b[j+1+n]).toNat:Int)⟩]) 1 ho (.lit 0) (by simp;omega) fun v46 DP tU=>?_;refine S.drop 0 ?_;refine S.mv ?_;refine S.bin ?_;refine S.bin ?_;refine⟨f,by omega,j+n+2,_,v46,DP,by omega,by omega,?_,by simp;omega,rfl,tU,.r rfl⟩;rw[ab,aq6,aqi,KJ (show j+1+n<b.length by omega),show j+1+(n+1)=j+n+2 by omega];(try rfl)
 ·obtain rfl:j=b.length:=by omega
  rw[WV]at ab;have cz:iF b.length b []=some am:=by rw[ab];cases m0<;>rfl
  have e:cY b=if fN am=some b then some am else none:=by unfold cY;rw[cz]
  rw[e];refine S.ct 0 ho fun ψ1 l1 I=>?_;refine S.ak (Mp I (by omega) (fun e he=>aqb (TT _ _ _ _ cz (fun e he=>by cases he) e he) (by omega))) ?_;refine S.un ?_;refine G.mv ?_;refine G.mv ?_;refine G.bin ?_;refine G.or ?_;refine C.B (fun oS=>?_) fun oS=>?_
  ·have bx:¬fN am=some b:=by
    intro h;rw[h]at oS;simp at oS
   rw[pg bx];exact⟨_,.t rfl (.t rfl .nil),.none ⟨_,rfl,aa.nil _,rfl⟩⟩
  ·have he:fN am=some b:=by
    cases hp:fN am with
    |none=>rw[hp]at oS;simp at oS
    |some x=>rw[hp]at oS;simp at oS;rw[oS]
   rw[B4 he];exact⟨_,.t rfl (.t rfl .nil),.none ⟨_,rfl,I,rfl⟩⟩
theorem aiG {l:List aT} {name:Bs} {j:Nat} (hj:j<l.length) (h:gB l name=gB (l.drop j) name):gB l name=if(l[j]).name=name then some (l[j]).ino else gB (l.drop (j+1)) name:=by
 rw[h,Rm hj];unfold gB;rw[List.find?_cons];by_cases he:(l[j]).name=name
 ·rw[B4 he,decide_eq_true he];(try rfl)
 ·rw[pg he,decide_eq_false he]
theorem zx [Fx F] {lv:V} {l:List aT} {name:Bs} (hl:aa c9 O lv l) (hlen:l.length≤1000000):bk F 161 [lv,.str name] O (.aM [.j ((gB l name).getD 0),.bool (gB l name).isSome]):=by
 refine ai.ak (au ?_);refine SW.loop (fun m E ψ R=>∃j:Nat,j+m=l.length∧gB l name=gB (l.drop j) name∧O=ψ∧R=[]∧Sub [(0,lv),(1,.str name),(6,.j (j:Int))] E) (m:=l.length) ⟨0,by omega,rfl,rfl,rfl,.r rfl⟩ ?_;intro m0 E ψ R ac hI;obtain⟨j,hm,ab,rfl,rfl,hE⟩:=hI;refine C.sub hE ?_;refine S.len ?_;refine S.bin ?_;refine C.D (fun bU=>?_) fun bU=>?_
 ·have hj:j<l.length:=by omega
  have ab:=aiG hj ab;refine S.aF hl hj fun DO tT=>?_;refine S.bl tT fun DQ vP=>?_;refine S.aX ?_;refine S.bin ?_;refine C.D (fun cG=>?_) fun cG=>?_
  ·rw[B4 cG]at ab;rw[ab];refine S.aF hl hj fun xZ oM=>?_;refine S.bl oM fun oN j4=>?_;refine S.aX ?_;refine⟨_,.t rfl (.t rfl .nil),.done ?_⟩;rfl
  ·rw[pg cG]at ab;refine S.bin ?_;exact⟨m0-1,by omega,j+1,by omega,ab,rfl,rfl,.r rfl⟩
 ·obtain rfl:j=l.length:=by omega
  rw[WV]at ab;rw[ab];refine⟨_,.t rfl (.t rfl .nil),.done ?_⟩;rfl
theorem aiH (e:aT) (l:List aT):(lL e l).length=l.length+1:=by
 induction l with
 |nil=>rfl
 |cons x r ih=>simp only[lL];split<;>simp[ih]
theorem aiI [Fx F] {lv:V} {l:List aT} {e:aT} (hl:aa c9 O lv l) (hlen:l.length≤1000000):
 ai F 203 [lv,.agg [.str e.name,.j e.ino]] O [] (fun r ψ R=>∃v,r=.aM [v,.bool (kH l e).2]∧aa c9 ψ v (kH l e).1∧R=[]) never:=by
 refine au ?_;refine S.box fun a3=>?_;refine S.ld 0 ?_;refine S.ak (zx hl hlen) ?_;refine C.B (fun cy=>?_) fun cy=>?_
 ·have e1:kH l e=(l,false):=by unfold kH;exact B4 cy
  rw[e1];exact⟨_,.t rfl (.t rfl .nil),.none ⟨_,rfl,hl,rfl⟩⟩
 ·have e1:kH l e=(lL e l,true):=by unfold kH;exact pg (by rw[cy];simp)
  rw[e1];refine SW.new c9 ?_;refine SW.bG (fun m E ψ R=>∃(j:Nat) (out:List aT) (v:V) (s:Option Pa) (p:Bool),j+m=l.length∧out.length=j+p.toNat∧lL e l=out++(if p then l.drop j else lL e (l.drop j))∧O=ψ∧R=[c9.ob s out,(some a3,.cells [.str e.name,.j e.ino] false)]∧ae c9 v out s∧Sub [(0,lv),(3,.ptr a3 0),(8,v),(9,.bool p),(10,.j (j:Int))] E) (m:=l.length) (.done ⟨0,[],.no .sl,none,false,by omega,rfl,rfl,rfl,rfl,ae.nil,.r rfl⟩) ?_;intro m0 E ψ R ac hI;obtain⟨j,out,v,s,p,hm,dC,ab,rfl,rfl,ho,hE⟩:=hI;refine C.sub hE ?_;refine S.len ?_;refine S.bin ?_;refine C.D (fun eu=>?_) fun eu=>?_
  ·have AK:=ard p;have hj:j<l.length:=by omega
   rw[Rm hj]at ab;refine S.un ?_;refine G.mv ?_;refine G.mv ?_;refine G.aF hl (z:=l[j]) (fun Yc Ov=>?_) (hj:=fun _=>KJ hj);refine G.bl Ov fun vQ jD=>?_;refine G.aX ?_;refine G.aE ?_;refine G.ld 1 ?_;refine G.bin ?_ (hv:=fun _=>ais);refine G.and ?_;refine SW.xk (fun E ψ R=>∃(out:List aT) (v:V) (s:Option Pa) (p:Bool),out.length=j+p.toNat∧lL e l=out++l[j]::(if p then l.drop (j+1)else lL e (l.drop (j+1)))∧O=ψ∧R=[c9.ob s out,(some a3,.cells [.str e.name,.j e.ino] false)]∧ae c9 v out s∧Sub [(0,lv),(3,.ptr a3 0),(8,v),(9,.bool p),(10,.j (j:Int))] E) ?_ ?_
   ·refine C.B (fun kY=>?_) fun kY=>?_
    ·refine S.af 1 ?_;refine S.a8 fun H6=>?_;refine S.bu (m:=[e]) 1 ho (.lit 0) (by simp;omega) fun OG Yp Yq=>?_;refine S.drop 0 ?_;refine S.mv ?_;simp only[G7,apH]at kY;obtain⟨rfl,ap⟩:=kY;rw[pg (by simp)]at ab;simp only[lL]at ab;rw[B4 ap]at ab;refine .done ⟨out++[e],OG,Yp,true,by simpa using dC,by rw[ab];simp,rfl,rfl,Yq,.r rfl⟩
    ·refine .done ⟨out,v,s,p,dC,?_,rfl,rfl,ho,.r rfl⟩
     ·rw[ab];cases p with
      |true=>rfl
      |false=>
       have hn:kG e.name (l[j]).name=false:=by simpa using kY
       simp only[lL];rw[pg (by simp),pg (by rw[hn];simp),pg (by simp)]
   intro E ψ R ac hM;obtain⟨out,v,s,p,dC,ab,rfl,rfl,ho,hE⟩:=hM;refine C.sub hE ?_;refine S.aF hl hj fun HU HV=>?_;refine S.bP ?_;refine S.a8 fun H7=>?_;have AK:=ard p;refine S.bu (m:=[l[j]]) 1 ho (.lit 0) (by simp;omega) fun AL H8 DR=>?_;refine S.drop 0 ?_;refine S.mv ?_;refine S.bin ?_;refine⟨m0-1,by omega,.done ⟨j+1,out++[l[j]],AL,H8,p,by omega,by simp;omega,by rw[ab];simp,rfl,rfl,DR,.r rfl⟩⟩
  ·obtain rfl:j=l.length:=by omega
   rw[WV]at ab;refine S.un ?_;refine C.B (fun k7=>?_) fun k7=>?_
   ·refine S.af 1 ?_;refine S.a8 fun a53=>?_;have AK:=ard p;refine S.bu (m:=[e]) 1 ho (.lit 0) (by simp;omega) fun OH Yr AN=>?_;refine S.drop 0 ?_;refine S.mv ?_;have hp:p=false:=by simpa using k7
    subst hp;rw[pg (by simp)]at ab;rw[ab];exact⟨_,.t rfl (.t rfl .nil),.bR 0 rfl AN fun ψ eJ hf=>.none ⟨_,rfl,hf,rfl⟩⟩
   ·have hp:p=true:=by simpa using k7
    subst hp;rw[B4 rfl,ap9]at ab;rw[ab];exact⟨_,.t rfl (.t rfl .nil),.bR 0 rfl ho fun ψ eJ hf=>.none ⟨_,rfl,hf,rfl⟩⟩
theorem aiJ [Fx F] {lv:V} {l:List aT} {name:Bs} (hl:aa c9 O lv l) (hlen:l.length≤1000000):
 ai F 204 [lv,.str name] O [] (fun r ψ R=>∃v,r=.aM [v,.bool (lM l name).2]∧aa c9 ψ v (lM l name).1∧R=[]) never:=by
 refine au ?_;refine S.ak (zx hl hlen) ?_;refine S.un ?_;refine C.B (fun d4=>?_) fun d4=>?_
 ·have e1:lM l name=(l,false):=by unfold lM;exact pg (by simpa using d4)
  rw[e1];exact⟨_,.t rfl (.t rfl .nil),.none ⟨_,rfl,hl,rfl⟩⟩
 ·have e1:lM l name=(l.filter (fun e=>!decide (e.name=name)),true):=by unfold lM;exact B4 (by simpa using d4)
  rw[e1];refine SW.new c9 ?_;refine SW.loop (fun m E ψ R=>∃(j:Nat) (out:List aT) (v:V) (s:Option Pa),j+m=l.length∧out.length≤j∧l.filter (fun e=>!decide (e.name=name))=out++(l.drop j).filter (fun e=>!decide (e.name=name))∧O=ψ∧R=[c9.ob s out]∧ae c9 v out s∧Sub [(0,lv),(1,.str name),(8,v),(9,.j (j:Int))] E) (m:=l.length) ⟨0,[],.no .sl,none,by omega,by simp,rfl,rfl,rfl,ae.nil,.r rfl⟩ ?_;intro m0 E ψ R ac hI;obtain⟨j,out,v,s,hm,dC,ab,rfl,rfl,ho,hE⟩:=hI;refine C.sub hE ?_;refine S.len ?_;refine S.bin ?_;refine C.D (fun d5=>?_) fun d5=>?_
  ·have hj:j<l.length:=by omega
   rw[Rm hj,ars]at ab;refine S.aF hl hj fun H4 vN=>?_;refine S.bl vN fun AO vR=>?_;refine S.aX ?_;refine S.bin ?_;refine C.B (fun rU=>?_) fun rU=>?_
   ·rw[B4 rU]at ab;refine S.aF hl hj fun DK DL=>?_;refine S.bP ?_;refine S.a8 fun a37=>?_;refine S.bu (m:=[l[j]]) 1 ho (.lit 0) (by simp;omega) fun ya Ys Yt=>?_;refine S.drop 0 ?_;refine S.mv ?_;refine S.bin ?_;refine⟨m0-1,by omega,j+1,out++[l[j]],ya,Ys,by omega,by simp;omega,by rw[ab];simp,rfl,rfl,Yt,.r rfl⟩
   ·rw[pg (by rw[rU];simp)]at ab;refine S.bin ?_;refine⟨m0-1,by omega,j+1,out,v,s,by omega,by omega,ab,rfl,rfl,ho,.r rfl⟩
  ·obtain rfl:j=l.length:=by omega
   rw[WV,List.filter_nil,ap9]at ab;rw[ab];exact⟨_,.t rfl (.t rfl .nil),.bR 0 rfl ho fun ψ eJ hf=>.none ⟨_,rfl,hf,rfl⟩⟩
theorem aiK {U:Type} {e:bI U} (x:U) (n:Nat):dI (e.f x) n=e.fl (List.replicate n x):=by
 induction n with
 |zero=>rfl
 |succ n ih=>show e.f x++dI (e.f x) n=_;rw[ih,arK];(try rfl)
theorem TW [Fx F]:ai F 44 [] O [] (fun r ψ R=>aa aH ψ r u1∧R=[]) never:=by
 refine au ?_;refine S.xh (n:=9) (m:=9) (by omega) (by omega) (by omega) fun a2=>?_;have o2:ae aH (.sl a2 0 9 (.ex 9)) (List.replicate 9 ff) (some a2):=ae.new rfl;refine S.build ?_;refine S.CF (n:=9) (j:=0) (by omega) ?_;refine S.pE (e:=aH) (l:=List.replicate 9 ff) (j:=0) ⟨2,7,[]⟩ 0 ?_ (hj:=by simp);exact⟨_,.t rfl .nil,.bR 0 rfl (o2.set 0 ⟨2,7,[]⟩) fun ψ eJ hf=>.none ⟨hf,rfl⟩⟩
theorem zy {U:Type} {a b:List U} {j:Nat} (ha:j<a.length) (hb:j<b.length):(a.drop j=b.drop j)↔(a[j]=b[j]∧a.drop (j+1)=b.drop (j+1)):=by
 rw[Rm ha,Rm hb,aq3]
theorem asw [Fx F] {v1 v2:V} {a b:an} (I:aa aH O v1 a) (J:aa aH O v2 b) (hlen:a.length≤1000000):bk F 67 [v1,v2] O (.bool (decide (a=b))):=by
 refine ai.ak (au ?_);refine S.len ?_ (hl:=aa.len I);refine S.len ?_ (hl:=aa.len J);refine S.bin ?_;refine C.B (fun bU=>?_) fun bU=>?_
 ·have bx:decide (a=b)=false:=by
   rw[NI];intro e;subst e;simp at bU
  rw[bx];refine⟨_,.t rfl .nil,.done ?_⟩;rfl
 ·have hl:a.length=b.length:=by simp at bU;omega
  refine SW.loop (fun m E ψ R=>∃j:Nat,j+m=a.length∧((a=b)↔(a.drop j=b.drop j))∧O=ψ∧R=[]∧Sub [(0,v1),(1,v2),(5,.j (j:Int))] E) (m:=a.length) ⟨0,by omega,Iff.rfl,rfl,rfl,.r rfl⟩ ?_;intro m0 E ψ R ac hI;obtain⟨j,hm,sg,rfl,rfl,hE⟩:=hI;refine C.sub hE ?_;refine S.len ?_ (hl:=aa.len I);refine S.bin ?_;refine C.D (fun dG=>?_) fun dG=>?_
  ·have hj:j<a.length:=by omega
   have o3:j<b.length:=by omega
   rw[zy hj o3]at sg;refine S.aF I hj fun vS nA=>?_;refine S.bP ?_;refine S.aF J o3 fun oN j4=>?_;refine S.bP ?_;refine S.bin ?_ (hv:=neN a[j] b[j]);refine C.B (fun bV=>?_) fun bV=>?_
   ·have bx:decide (a=b)=false:=by
     rw[NI,sg];simp at bV;exact fun h=>bV h.1
    rw[bx];refine⟨_,.t rfl .nil,.done ?_⟩;rfl
   ·have he:a[j]=b[j]:=by simpa using bV
    refine S.bin ?_;exact⟨m0-1,by omega,j+1,by omega,by rw[sg];exact and_iff_right he,rfl,rfl,.r rfl⟩
  ·obtain rfl:j=a.length:=by omega
   have he:decide (a=b)=true:=by
    rw[G6,sg,WV,hl,WV]
   rw[he];refine⟨_,.t rfl .nil,.done ?_⟩;rfl
theorem q4 [Fx F] {tv:V} {t:an} {ino:Int} (ht:aa aH O tv t) (hb:bN t):
 ai F 103 [tv,.j ino] O [] (fun r ψ R=>aa c9 ψ r (aR t ino)∧R=[]) never:=by
 have b0:=hb.1;refine au ?_;refine S.bin ?_;refine G.mv ?_;refine G.mv ?_;refine G.len ?_ (hl:=aa.len ht);refine G.bin ?_;refine G.or ?_;refine G.mv ?_;refine G.mv ?_;refine G.bin ?_ (hv:=fun hb=>ig (by simp at hb;omega) (by simp at hb;omega));refine G.fz ht (fun vS nA=>?_) (h:=fun hb=>by simp at hb;omega);refine G.bl nA fun OI DS=>?_;refine G.aX ?_;refine G.bin ?_;refine G.or ?_;refine C.B (fun eu=>?_) fun eu=>?_
 ·have e1:aR t ino=[]:=by
   unfold aR;simp only[amt,G6,apH,NI]at eu;exact B4 (by omega)
  rw[e1];exact⟨_,.t rfl .nil,.none ⟨aa.nil _,rfl⟩⟩
 ·simp only[W0,NI,apR,G6]at eu;have e1:aR t ino=(cY (nodeAt t ino).body).getD []:=by unfold aR;exact pg (by omega)
  rw[e1];obtain⟨j,hj,ap,H9⟩:=CM (t:=t) (x:=ino) (by omega) (by omega);have dD:(nodeAt t ino).body.length≤100000:=by rw[H9];exact hb.2 _ (W1 ap)
  refine S.bin ?_;refine S.fz (n:=ino) ht (by omega) (by omega) fun AO vR=>?_;refine S.bl vR fun OJ OK=>?_;refine S.aX ?_;refine S.call (TV (b:=(nodeAt t ino).body) (by omega)) fun vT rV AP mn fp=>?_;obtain⟨w,rfl,hw,rfl⟩:=fp;exact⟨_,.t rfl .nil,.none ⟨hw,rfl⟩⟩
theorem TX [Fx F] {tv lv:V} {t:an} {l:List Bs} (ht:aa aH O tv t) (hb:bN t) (hl:aa ec O lv l) (hlen:l.length≤1000000):
 bk F 202 [tv,lv] O (.aM [.j (eS t l).1,.j (eS t l).2]):=by
 have b0:=hb.1;refine ai.ak (au ?_);refine S.len ?_ (hl:=aa.len ht);refine S.bin ?_;refine C.D (fun k8=>?_) fun k8=>?_
 ·have e1:eS t l=(0,2):=by unfold eS;exact B4 (by omega)
  rw[e1];exact⟨_,.t rfl (.t rfl .nil),.none rfl⟩
 ·have e1:eS t l=jT t 1 l:=by unfold eS;exact pg (by omega)
  rw[e1];refine SW.loop (fun m E ψ R=>∃(j:Nat) (x:Int),j+m=l.length∧1≤x∧x≤t.length∧jT t 1 l=jT t x (l.drop j)∧aa aH ψ tv t∧aa ec ψ lv l∧R=[]∧Sub [(0,tv),(1,lv),(6,.j x),(7,.j (j:Int))] E) (m:=l.length) ⟨0,1,by omega,by omega,by omega,rfl,ht,hl,rfl,.r rfl⟩ ?_;intro m0 E ψ R ac hI;obtain⟨j,x,hm,jB,hx2,ab,ht,hl,rfl,hE⟩:=hI;refine C.sub hE ?_;refine S.len ?_ (hl:=aa.len hl);refine S.bin ?_;refine C.D (fun d9=>?_) fun d9=>?_
  ·have hj:j<l.length:=by omega
   rw[Rm hj]at ab;simp only[jT]at ab;refine S.bin ?_;refine S.fz (n:=x) ht (by omega) (by omega) fun xZ oM=>?_;refine S.bl oM fun oN j4=>?_;refine S.aX ?_;refine S.bin ?_;refine C.B (fun bV=>?_) fun bV=>?_
   ·rw[B4 (by simpa using bV)]at ab;rw[ab];exact⟨_,.t rfl (.t rfl .nil),.none rfl⟩
   ·rw[pg (by simpa using bV)]at ab;refine S.aF hl hj fun vQ jD=>?_;refine S.aX ?_;refine S.call (q4 (ino:=x) ht hb) fun yb yc yd oT d6=>?_;obtain⟨d6,rfl⟩:=d6;have jD:=jD.mono oT;refine S.CL ?_;refine S.ak (zx d6 (aqb (s4 hb _) (by omega))) ?_;refine S.un ?_;refine G.mv ?_;refine G.mv ?_;refine G.len ?_ (hl:=aa.len ht);refine G.bin ?_;refine G.or ?_;refine C.B (fun fX=>?_) fun fX=>?_
    ·have cz:jT t 1 l=(0,2):=by
      rw[ab];cases hf:gB (aR t x) l[j]with
      |none=>rfl
      |some n=>rw[hf]at fX;simp at fX;exact B4 fX
     rw[cz];exact⟨_,.t rfl (.t rfl .nil),.none rfl⟩
    ·obtain⟨n,hf,hn⟩:∃n,gB (aR t x) l[j]=some n∧n≤t.length:=by
      cases hf:gB (aR t x) l[j]with
      |none=>rw[hf]at fX;simp at fX
      |some n=>rw[hf]at fX;simp at fX;exact⟨n,rfl,fX⟩
     have tP:1≤n:=by
      have rW:=hf;unfold gB at rW;simp only[aqp]at rW;obtain⟨e,he,rfl⟩:=rW;exact(pF e (arG he)).1
     rw[hf]at ab⊢;simp only at ab;rw[pg (by omega)]at ab;refine S.bin ?_;exact⟨m0-1,by omega,j+1,n,by omega,tP,hn,ab,ht.mono oT,hl.mono oT,rfl,.r rfl⟩
  ·obtain rfl:j=l.length:=by omega
   rw[WV]at ab;rw[ab];exact⟨_,.t rfl (.t rfl .nil),.none rfl⟩
theorem aiL (own:Bool):∀(b name:Bs) (out l:List Bs),ik own b name out=some l→l.length≤9∧∀x∈l,x∈out∨x.length≤6:=by
 intro b
 induction b with
 |nil=>
  intro name out l h;simp only[ik]at h;split at h
  ·cases h
  ·rename_i hb;cases h;simp only[sY,amt,apH,G6,not_or,Bool.not_eq_false]at hb;have h6:=hb.1.1;unfold fx at h6;simp only[G7,G6]at h6;refine⟨by simp;omega,fun x hx=>?_⟩;rw[aqh,aqj]at hx;rcases hx with hx|rfl
   ·exact .inl hx
   ·exact .inr (by omega)
 |cons c r ih=>
  intro name out l h;simp only[ik]at h;split at h
  ·split at h
   ·cases h
   ·rename_i hb;simp only[sY,amt,apH,G6,not_or,Bool.not_eq_false]at hb;have h6:=hb.1.1;unfold fx at h6;simp only[G7,G6]at h6;obtain⟨I,J⟩:=ih _ _ _ h;refine⟨I,fun x hx=>?_⟩;rcases J x hx with h3|h3
    ·rw[aqh,aqj]at h3;rcases h3 with h3|rfl
     ·exact .inl h3
     ·exact .inr (by omega)
    ·exact .inr h3
  ·exact ih _ _ _ h
theorem zz {path:Bs} {own:Bool} {l:List Bs} (h:parts path own=some l):l.length≤9∧∀x∈l,x.length≤6:=by
 unfold parts at h;split at h
 ·cases h;exact⟨by simp,fun x hx=>by cases hx⟩
 ·split at h
  ·cases h
  ·split at h
   ·obtain⟨I,J⟩:=aiL own _ _ _ _ h;exact⟨I,fun x hx=>(J x hx).resolve_left (by simp)⟩
   ·cases h
theorem aiM {path:Bs} {own:Bool} {l:List Bs} (h:parts path own=some l):l.length≤9:=(zz h).1
theorem xx [Fx F] {tv:V} {t:an} {path:Bs} {own:Bool} (ht:aa aH O tv t) (hb:bN t) (hp:path.length≤100000):
 bk F 164 [tv,.str path,.bool own] O (.aM [.j (bc t path own).1,.j (bc t path own).2]):=by
 refine ai.ak (au ?_);refine S.call (xw (own:=own) hp) fun oO nr DT p8 c0=>?_;obtain⟨w,rfl,hw,rfl⟩:=c0;refine S.un ?_;refine C.B (fun d4=>?_) fun d4=>?_
 ·have e1:bc t path own=(0,1):=by
   unfold bc;cases hq:parts path own with
   |none=>rfl
   |some l=>rw[hq]at d4;simp at d4
  rw[e1];exact⟨_,.t rfl (.t rfl .nil),.none rfl⟩
 ·obtain⟨l,hq⟩:∃l,parts path own=some l:=by
   cases hq:parts path own with
   |none=>rw[hq]at d4;simp at d4
   |some l=>exact⟨l,rfl⟩
  have e1:bc t path own=eS t l:=by unfold bc;rw[hq]
  rw[e1];rw[hq]at hw;have ny:=aiM hq;refine S.ak (TX (ht.mono p8) hb hw (by simp;omega)) ?_;exact⟨_,.t rfl (.t rfl .nil),.none rfl⟩
theorem TY {nm:List Int} {e:aT} {B:Int} (h:∀x∈nm,0≤x∧x≤B):∀x∈bump nm e,0≤x∧x≤B+1:=by
 intro x hx;unfold bump at hx;rw[List.mem_iff_getElem?]at hx;obtain⟨i,hi⟩:=hx;rw[arJ]at hi;split at hi
 ·cases hq:nm[i]? with
  |none=>rw[hq]at hi;simp at hi
  |some y=>rw[hq]at hi;simp at hi;have:=h y (aqM hq);omega
 ·cases hq:nm[i]? with
  |none=>rw[hq]at hi;simp at hi
  |some y=>rw[hq]at hi;simp at hi;have:=h y (aqM hq);omega
theorem aiN {s:List Bool} {i:Nat} (e:aT) (h:(s[i]?).getD false=true):((mark s e)[i]?).getD false=true:=by
 unfold mark;rw[aqG];split
 ·split
  ·rfl
  ·rename_i I J;rw[aq9 (by omega)]at h;cases h
 ·exact h
theorem aiO {t:an} {j:Nat} (hj:j<t.length) (nm:List Int):nY (t.drop j) nm=match gC nm t[j]with|none=>none|some j3=>nY (t.drop (j+1)) j3:=by
 rw[Rm hj];(try rfl)
theorem Gy [Fx F] {tv:V} {t:an} (ht:aa aH O tv t) (hb:bN t):bk F 61 [tv] O (.bool (bL t)):=by
 have b0:=hb.1;refine ai.ak (au ?_);refine S.len ?_ (hl:=aa.len ht);refine S.bin ?_;refine G.mv ?_;refine G.aF ht (j:=0) (z:=nodeAt t 1) (fun AG x9=>?_) (hj:=fun hb=>by simp at hb;rw[KJ (show 0<t.length by omega)];unfold nodeAt;rw[show((1:Int)-1).toNat=0 by rfl,KJ (show 0<t.length by omega)];(try rfl));refine G.bl x9 fun xZ oM=>?_;refine G.aX ?_;refine G.bin ?_;refine G.or ?_;refine C.B (fun bV=>?_) fun bV=>?_
 ·have e1:bL t=false:=by
   unfold bL;simp only[amt,apH,NI]at bV;rw[pg (by omega)]
  rw[e1];exact⟨_,.t rfl .nil,.none rfl⟩
 ·simp only[W0,apR,G6]at bV;have tV:t.length=9:=by omega
  have rX:(nodeAt t 1).kind=2:=bV.2;refine S.xh (n:=10) (m:=10) (by omega) (by omega) (by omega) fun g5=>?_;have vH:∀l:List Int,l.length=10→ae bp (.sl g5 0 10 (.ex 10)) l (some g5):=fun l hl=>ae.new hl;refine SW.bG (fun m E ψ R=>∃(j:Nat) (nm:List Int),j+m=t.length∧nm.length=10∧(∀x∈nm,0≤x∧x≤j*100001)∧zu t=nY (t.drop j) nm∧aa aH ψ tv t∧R=[bp.ob (some g5) nm]∧Sub [(0,tv),(3,.sl g5 0 10 (.ex 10)),(4,.j (j:Int))] E) (m:=t.length) (.done ⟨0,List.replicate 10 0,by omega,by simp,fun x hx=>by rw[aq8 hx];omega,rfl,ht,rfl,.r rfl⟩) ?_;intro m0 E ψ R ac hI;obtain⟨j,nm,hm,d2,oG,ab,ht,rfl,hE⟩:=hI;refine C.sub hE ?_;refine S.len ?_ (hl:=aa.len ht);refine S.bin ?_;refine C.D (fun qf=>?_) fun qf=>?_
  ·have hj:j<t.length:=by omega
   rw[aiO hj]at ab;have dD:=hb.2 _ (W1 hj);refine S.aF ht hj fun DK DL=>?_;refine S.bP ?_;refine S.alloc fun a5=>?_;refine S.store 0 ?_;refine S.ld 0 ?_;refine S.bin ?_;refine C.D (fun co=>?_) fun co=>?_
   ·refine S.af 0 ?_;refine S.build ?_;refine S.bin ?_ (hv:=neN t[j] ff);refine C.B (fun fD=>?_) fun fD=>?_
    ·have aj:gC nm t[j]=none:=by unfold gC;rw[B4 co,pg (by simpa using fD)]
     have e1:bL t=false:=by unfold bL;rw[B4 ⟨tV,rX⟩,ab,aj]
     rw[e1];exact⟨_,.t rfl .nil,.none rfl⟩
    ·have aj:gC nm t[j]=some nm:=by unfold gC;rw[B4 co,B4 (by simpa using fD)]
     rw[aj]at ab;refine S.bin ?_;exact⟨m0-1,by omega,.drop 0 (.done ⟨j+1,nm,by omega,d2,fun x hx=>by have:=oG x hx;omega,ab,ht,rfl,.r rfl⟩)⟩
   ·refine S.bin ?_;refine C.D (fun fX=>?_) fun fX=>?_
    ·have ye:gC nm t[j]=nX t[j] nm:=by unfold gC;rw[pg co,B4 fX]
     refine S.ld 0 ?_;refine S.bin ?_;refine G.aE ?_;refine G.ld 0 ?_;refine G.bin ?_;refine G.or ?_;refine G.aE ?_;refine G.ld 0 ?_;refine G.cD ?_;refine G.bin ?_;refine G.or ?_;refine C.B (fun vU=>?_) fun vU=>?_
     ·have aj:gC nm t[j]=none:=by
       rw[ye];unfold nX;simp only[amt,G6]at vU;exact B4 (by omega)
      have e1:bL t=false:=by unfold bL;rw[B4 ⟨tV,rX⟩,ab,aj]
      rw[e1];exact⟨_,.t rfl .nil,.none rfl⟩
     ·refine S.bin ?_;have aj:gC nm t[j]=some nm:=by
       rw[ye];unfold nX;simp only[W0,NI]at vU;exact pg (by omega)
      rw[aj]at ab;exact⟨m0-1,by omega,.drop 0 (.done ⟨j+1,nm,by omega,d2,fun x hx=>by have:=oG x hx;omega,ab,ht,rfl,.r rfl⟩)⟩
    ·refine S.bin ?_;refine C.D (fun rY=>?_) fun rY=>?_
     ·refine S.ld 0 ?_;refine S.call (TV (b:=(t[j]).body) (by omega)) fun v51 OL Yu Ia vV=>?_;obtain⟨w,rfl,hw,rfl⟩:=vV;have ht:=ht.mono Ia;refine S.un ?_;refine C.B (fun vW=>?_) fun vW=>?_
      ·have aj:gC nm t[j]=none:=by
        unfold gC;rw[pg co,pg fX,B4 rY];cases hq:cY (t[j]).body with
        |none=>rfl
        |some l=>rw[hq]at vW;simp at vW
       have e1:bL t=false:=by unfold bL;rw[B4 ⟨tV,rX⟩,ab,aj]
       rw[e1];exact⟨_,.t rfl .nil,.none rfl⟩
      ·obtain⟨l,hq⟩:∃l,cY (t[j]).body=some l:=by
        cases hq:cY (t[j]).body with
        |none=>rw[hq]at vW;simp at vW
        |some l=>exact⟨l,rfl⟩
       have ye:gC nm t[j]=nX t[j] (l.foldl bump nm):=by unfold gC;rw[pg co,pg fX,B4 rY,hq]
       rw[hq]at hw;change aa c9 OL w l at hw;have ny:=Mj hq;have Yv:=Mi hq;refine SW.loop (fun m E ψ R=>∃(k:Nat) (nk:List Int),k+m=l.length∧nk.length=10∧(∀x∈nk,0≤x∧x≤j*100001+k)∧l.foldl bump nm=(l.drop k).foldl bump nk∧aa aH ψ tv t∧aa c9 ψ w l∧R=[(some a5,.cells (aH.f t[j]) false),bp.ob (some g5) nk]∧Sub [(0,tv),(3,.sl g5 0 10 (.ex 10)),(4,.j (j:Int)),(5,.ptr a5 0),(6,w),(8,.j (k:Int))] E) (m:=l.length) ⟨0,nm,by omega,d2,by simpa using oG,rfl,ht,hw,rfl,.r rfl⟩ ?_;intro Yw E ψ R ac hI;obtain⟨k,nk,DU,nB,tW,oU,ht,hw,rfl,hE⟩:=hI;refine C.sub hE ?_;refine S.len ?_ (hl:=aa.len hw);refine S.bin ?_;refine C.D (fun Yx=>?_) fun Yx=>?_
       ·have hk:k<l.length:=by omega
        rw[Rm hk]at oU;have gc:=Yv _ (W1 hk);obtain⟨q,mo⟩:∃q:Nat,(l[k]).ino=(q:Int):=⟨(l[k]).ino.toNat,by omega⟩
        have g3:q<nk.length:=by omega
        have Yy:=tW _ (W1 g3);have tX:bump nk l[k]=nk.set q (nk[q]+1):=by unfold bump;rw[mo,aqo];exact TF _ g3
        refine S.aF hw hk fun Yz DV=>?_;refine S.bl DV fun OM Ib=>?_;refine S.aX ?_;refine S.cX (vH nk nB) g3 (fun a68 AQ=>?_) (hi:=by rw[←mo];exact .t rfl);cases AQ;refine S.fM 0 1 ?_;refine S.bin ?_ (hv:=ei (by omega) (by omega));refine S.cX (vH nk nB) g3 (fun a71 vX=>?_) (hi:=by rw[←mo];exact .t rfl);cases vX;refine S.pE (nk[q]+1) 1 ?_;refine S.bin ?_;refine⟨Yw-1,by omega,k+1,nk.set q (nk[q]+1),by omega,by simpa using nB,?_,by rw[oU,←tX];(try rfl),ht,hw,rfl,.r rfl⟩;rw[←tX];intro x hx;have:=TY tW x hx;omega
       ·obtain rfl:k=l.length:=by omega
        rw[WV]at oU;change l.foldl bump nm=nk at oU;rw[oU]at ye;refine S.ld 0 ?_;refine S.bin ?_;refine G.aE ?_;refine G.ld 0 ?_;refine G.bin ?_;refine G.or ?_;refine G.aE ?_;refine G.ld 0 ?_;refine G.cD ?_;refine G.bin ?_;refine G.or ?_;refine C.B (fun vU=>?_) fun vU=>?_
        ·have aj:gC nm t[j]=none:=by
          rw[ye];unfold nX;simp only[amt,G6]at vU;exact B4 (by omega)
         have e1:bL t=false:=by unfold bL;rw[B4 ⟨tV,rX⟩,ab,aj]
         rw[e1];exact⟨_,.t rfl .nil,.none rfl⟩
        ·refine S.bin ?_;have aj:gC nm t[j]=some nk:=by
          rw[ye];unfold nX;simp only[W0,NI]at vU;exact pg (by omega)
         rw[aj]at ab;exact⟨m0-1,by omega,.drop 0 (.done ⟨j+1,nk,by omega,nB,fun x hx=>by have:=tW x hx;omega,ab,ht,rfl,.r rfl⟩)⟩
     ·have aj:gC nm t[j]=none:=by unfold gC;rw[pg co,pg fX,pg rY]
      have e1:bL t=false:=by unfold bL;rw[B4 ⟨tV,rX⟩,ab,aj]
      rw[e1];exact⟨_,.t rfl .nil,.none rfl⟩
  ·obtain rfl:j=t.length:=by omega
   rw[WV]at ab;change zu t=some nm at ab;refine S.xh (n:=10) (m:=10) (by omega) (by omega) (by omega) fun qg=>?_;have Ic:∀l:List Bool,l.length=10→ae qY (.sl qg 0 10 (.ex 10)) l (some qg):=fun l hl=>ae.new hl;refine S.CF (n:=10) (j:=1) (by omega) ?_;refine S.pE (e:=qY) (l:=List.replicate 10 false) (j:=1) true 0 ?_ (hj:=by simp);refine SW.loop (fun m E ψ R=>∃(j:Nat) (sn:List Bool),j+m=9∧sn.length=10∧fg t=mW t m sn∧aa aH ψ tv t∧R=[qY.ob (some qg) sn,bp.ob (some g5) nm]∧Sub [(0,tv),(3,.sl g5 0 10 (.ex 10)),(9,.sl qg 0 10 (.ex 10)),(10,.j (j:Int))] E) (m:=9) ⟨0,(List.replicate 10 false).set 1 true,by omega,by simp,rfl,ht,rfl,.r rfl⟩ ?_;intro Id E ψ R ac hI;obtain⟨j,sn,hm5,gQ,AR,ht,rfl,hE⟩:=hI;refine C.sub hE ?_;refine S.bin ?_;refine C.D (fun YA=>?_) fun YA=>?_
   ·obtain⟨f,rfl⟩:∃f,Id=f+1:=⟨Id-1,by omega⟩
    change fg t=mW t f (kI t sn)at AR;refine SW.loop (fun m E ψ R=>∃(i:Nat) (sc:List Bool),i+m=10∧1≤i∧sc.length=10∧kI t sn=(List.range' i m).foldl (lN t) sc∧aa aH ψ tv t∧R=[qY.ob (some qg) sc,bp.ob (some g5) nm]∧Sub [(0,tv),(3,.sl g5 0 10 (.ex 10)),(9,.sl qg 0 10 (.ex 10)),(10,.j (j:Int)),(11,.j (i:Int))] E) (m:=9) ⟨1,sn,by omega,by omega,gQ,rfl,ht,rfl,.r rfl⟩ ?_;intro m7 E ψ R ac hI;obtain⟨i,sc,hm7,rR,jp,AS,ht,rfl,hE⟩:=hI;refine C.sub hE ?_;refine S.bin ?_;refine C.D (fun YD=>?_) fun YD=>?_
    ·obtain⟨iL,rfl⟩:∃f,m7=f+1:=⟨m7-1,by omega⟩
     change kI t sn=(List.range' (i+1) iL).foldl (lN t) (lN t sc i)at AS;have amL:i<10:=by omega
     refine S.call (q4 (ino:=(i:Int)) ht hb) fun ON amM O99 YE vY=>?_;obtain⟨vY,rfl⟩:=vY;have ht:=ht.mono YE;have amN:=s4 hb (i:Int);refine SW.loop (fun m E ψ R=>∃(k:Nat) (s2:List Bool),k+m=(aR t i).length∧s2.length=10∧(s2[i]?).getD false=(sc[i]?).getD false∧(lN t sc i=if(sc[i]?).getD false then((aR t i).drop k).foldl mark s2 else s2)∧aa aH ψ tv t∧aa c9 ψ ON (aR t i)∧R=[qY.ob (some qg) s2,bp.ob (some g5) nm]∧Sub [(0,tv),(3,.sl g5 0 10 (.ex 10)),(9,.sl qg 0 10 (.ex 10)),(10,.j (j:Int)),(11,.j (i:Int)),(12,ON),(13,.j (k:Int))] E) (m:=(aR t i).length) ⟨0,sc,by omega,jp,rfl,rfl,ht,vY,rfl,.r rfl⟩ ?_;intro m9 E ψ R ac hI;obtain⟨k,s2,hm9,DW,Ie,nC,ht,vY,rfl,hE⟩:=hI;refine C.sub hE ?_;refine S.len ?_ (hl:=aa.len vY);refine S.bin ?_;refine G.mv ?_;refine G.mv ?_;have i2:i<s2.length:=by omega
     refine G.cX (Ic s2 DW) i2 fun a107 YG=>?_;cases YG;refine G.fM 0 0 ?_;refine G.and ?_;refine C.B (fun rZ=>?_) fun rZ=>?_
     ·simp only[G7,G6]at rZ;have hk:k<(aR t i).length:=by omega
      have yf:(sc[i]?).getD false=true:=by rw[←Ie,KJ i2];exact rZ.2
      rw[yf,B4 rfl,Rm hk]at nC;have gc:=pF _ (W1 hk);obtain⟨q,mo⟩:∃q:Nat,((aR t i)[k]).ino=(q:Int):=⟨((aR t i)[k]).ino.toNat,by omega⟩
      have g3:q<s2.length:=by omega
      have yh:mark s2 (aR t i)[k]=s2.set q true:=by unfold mark;rw[mo];(try rfl)
      refine S.aF vY hk fun amO YH=>?_;refine S.bl YH fun amP amQ=>?_;refine S.aX ?_;refine S.cX (Ic s2 DW) g3 (fun amR YI=>?_) (hi:=by rw[←mo];exact .t rfl);cases YI;refine S.pE true 0 ?_;refine S.bin ?_;refine⟨m9-1,by omega,k+1,s2.set q true,by omega,by simpa using DW,?_,?_,ht,vY,rfl,.r rfl⟩
      ·rw[←yh,yf];exact aiN _ (by rw[Ie];exact yf)
      ·rw[yf,B4 rfl,←yh];exact nC
     ·have vC:lN t sc i=s2:=by
       rw[nC];cases yf:(sc[i]?).getD false with
       |false=>exact pg (by simp)
       |true=>
        rw[B4 rfl];have h3:s2[i]=true:=by
         have h4:=Ie;rw[KJ i2,yf]at h4;exact h4
        rw[h3,aqK,NI]at rZ;rw[aqw (by omega)];(try rfl)
      rw[vC]at AS;refine S.bin ?_;exact⟨iL,by omega,i+1,s2,by omega,by omega,DW,AS,ht,rfl,.r rfl⟩
    ·obtain rfl:m7=0:=by omega
     change kI t sn=sc at AS;rw[AS]at AR;refine S.bin ?_;exact⟨f,by omega,j+1,sc,by omega,jp,AR,ht,rfl,.r rfl⟩
   ·obtain rfl:Id=0:=by omega
    change fg t=sn at AR;have yi:bL t=[1,2,3,4,5,6,7,8,9].all (fun i=>!mX t nm sn i):=by unfold bL;rw[B4 ⟨tV,rX⟩,ab,AR]
    refine SW.loop (fun m E ψ R=>∃i:Nat,i+m=10∧1≤i∧bL t=(List.range' i m).all (fun i=>!mX t nm sn i)∧aa aH ψ tv t∧R=[qY.ob (some qg) sn,bp.ob (some g5) nm]∧Sub [(0,tv),(3,.sl g5 0 10 (.ex 10)),(9,.sl qg 0 10 (.ex 10)),(14,.j (i:Int))] E) (m:=9) ⟨1,by omega,by omega,yi,ht,rfl,.r rfl⟩ ?_;intro If E ψ R ac hI;obtain⟨i,amS,rR,tz,ht,rfl,hE⟩:=hI;refine C.sub hE ?_;refine S.bin ?_;refine C.D (fun YJ=>?_) fun YJ=>?_
    ·obtain⟨f,rfl⟩:∃f,If=f+1:=⟨If-1,by omega⟩
     change bL t=(!mX t nm sn i&&(List.range' (i+1) f).all (fun i=>!mX t nm sn i))at tz;have gc:i<nm.length:=by omega
     have OO:i<sn.length:=by omega
     refine S.bin ?_;refine S.fz (n:=(i:Int)) ht (by omega) (by omega) fun amT YK=>?_;refine S.bl YK fun amU amV=>?_;refine S.aX ?_;refine S.bin ?_;refine S.sW fun amW YM=>?_;refine S.cX (vH nm d2) gc fun amX YN=>?_;cases YN;refine S.fM 0 1 ?_;refine S.bin ?_;refine S.sW fun amY YO=>?_;refine G.mv ?_;refine G.un ?_;refine G.and ?_;refine G.mv ?_;refine G.mv ?_;refine G.mv ?_;refine G.mv ?_;refine G.cX (Ic sn gQ) OO fun amZ YP=>?_;cases YP;refine G.fM 0 0 ?_;refine G.sW fun am0 YQ=>?_;refine G.un ?_;refine G.jR ?_;refine G.or ?_;refine G.mv ?_;refine G.bin ?_;refine G.sW fun am1 YR=>?_;refine G.mv ?_;refine G.mv ?_;refine G.mv ?_;refine G.cX (vH nm d2) gc fun am2 YS=>?_;cases YS;refine G.fM 0 1 ?_;refine G.bin ?_;refine G.sW fun am3 YT=>?_;refine G.jR ?_;refine G.or ?_;refine G.mv ?_;refine G.bin ?_;refine G.sW fun am4 YU=>?_;refine G.mv ?_;refine G.mv ?_;refine G.mv ?_;refine G.bin ?_;refine G.fz (n:=(i:Int)) ht (fun YV OP=>?_) (h:=fun _=>by omega);refine G.bl OP fun am5 am6=>?_;refine G.aX ?_;refine G.bin ?_;refine G.sW fun am7 YW=>?_;refine G.jR ?_;refine G.mv ?_;refine G.mv ?_;refine G.mv ?_;refine G.cX (vH nm d2) gc fun a175 YX=>?_;cases YX;refine G.fM 0 1 ?_;refine G.bin ?_;refine G.sW fun am8 YY=>?_;refine G.jR ?_;refine G.or ?_;subst YM YO YQ YR YT YU YW YY;have j0:mX t nm sn i=_:=(show mX t nm sn i=((decide (0<nm[i])&&!(!decide ((nodeAt t i).kind=0)))||(!decide ((nodeAt t i).kind=0)&&!sn[i])||(decide ((i:Int)=1)&&decide (0<nm[i]))||(decide ((1:Int)<(i:Int))&&decide ((nodeAt t i).kind=2)&&!decide (nm[i]=1))) by unfold mX;rw[KJ gc,KJ OO];(try rfl))
     refine C.B (fun Ig=>?_) fun Ig=>?_
     ·have e1:bL t=false:=by rw[tz,j0];rw[Ig];(try rfl)
      rw[e1];exact⟨_,.t rfl .nil,.none rfl⟩
     ·have dl:mX t nm sn i=false:=by rw[j0];exact Ig
      rw[dl,Bool.not_false,aql]at tz;refine S.bin ?_;exact⟨f,by omega,i+1,by omega,by omega,tz,ht,rfl,.r rfl⟩
    ·obtain rfl:If=0:=by omega
     change bL t=true at tz;rw[tz];exact⟨_,.t rfl .nil,.none rfl⟩
end Go.Ev
namespace Go.Ev
variable{F:Nat→Option aN} {O:Fz}
theorem aiP {t:an} {ino:Int} {n:cM} {j:Nat} (h:ino-1=(j:Int)):fO t ino n=t.set j n:=by unfold fO;rw[h];(try rfl)
theorem xy [Fx F] {tv:V} {t:an} {ino:Int} {n:cM} (ht:aa aH O tv t) (hb:t.length≤1000) (I:1≤ino) (J:ino≤t.length):ai F 163 [tv,.j ino,.agg [.j n.kind,.j n.mode,.str n.body]] O [] (fun r ψ R=>aa aH ψ r (fO t ino n)∧R=[]) never:=by
 obtain⟨j,hj,ap,_⟩:=CM (t:=t) I J;refine au ?_;refine S.box fun a5=>?_;refine S.a8 fun ew=>?_;have o8:ae aH (.sl ew 0 0 (.ex 0)) [] (some ew):=ae.new rfl;refine S.bu 0 o8 (.f ht) (by simp;omega) fun eL qb mi=>?_;rw[aqa]at mi;refine S.bin ?_;refine S.af 1 ?_;refine S.cX mi ap (fun r6 dR=>?_) (hi:=by rw[←hj];exact .t rfl);subst dR;refine S.pE (e:=aH) (l:=t) n 0 ?_;rw[aiP hj];exact⟨_,.t rfl .nil,.bR 0 rfl (mi.set j n) fun ψ eJ hf=>.none ⟨hf,rfl⟩⟩
theorem aiQ (l:List aT) (e:aT):(kH l e).1.length≤l.length+1:=by
 unfold kH;split
 ·exact aqF _
 ·rw[aiH];exact B5 _
theorem aiR {e x:aT} {l:List aT} (h:x∈lL e l):x=e∨x∈l:=by
 induction l with
 |nil=>simp[lL]at h;exact .inl h
 |cons y r ih=>
  simp only[lL]at h;split at h
  ·rcases Ro.1 h with h|h
   ·exact .inl h
   ·exact .inr h
  ·rcases Ro.1 h with rfl|h
   ·exact .inr (apV)
   ·rcases ih h with h|h
    ·exact .inl h
    ·exact .inr (amI _ h)
theorem aiS {e x:aT} {l:List aT} (h:x∈(kH l e).1):x=e∨x∈l:=by
 unfold kH at h;split at h
 ·exact .inr h
 ·exact aiR h
theorem aiT {n:Bs} {x:aT} {l:List aT} (h:x∈(lM l n).1):x∈l:=by
 unfold lM at h;split at h
 ·exact(List.mem_filter.1 h).1
 ·exact h
theorem aiU (l:List aT) (n:Bs):(lM l n).1.length≤l.length:=by
 unfold lM;split
 ·exact List.length_filter_le _ _
 ·exact B5 _
theorem Mq [Fx F] {tv:V} {t:an} {bt:Int} {e:aT} (ht:aa aH O tv t) (hb:bN t) (I:1≤bt) (J:bt≤t.length) (he:e.name.length≤100000):
 ai F 162 [tv,.j bt,.agg [.str e.name,.j e.ino]] O [] (fun r ψ R=>∃v,r=.aM [v,.bool (gD t bt e).2]∧aa aH ψ v (gD t bt e).1∧R=[]) never:=by
 have b0:=hb.1;refine au ?_;refine S.box fun a5=>?_;refine S.af 0 ?_;refine S.call (q4 (ino:=bt) ht hb) fun oP qe vZ kZ c2=>?_;obtain⟨c2,rfl⟩:=c2;have d2:=s4 hb bt;refine S.dy 0 ?_;refine S.call (aiI (e:=e) c2 (by omega)) fun r7 j5 AT mq cK=>?_;obtain⟨Ih,rfl,cK,rfl⟩:=cK;refine S.ak (Mp cK (by have:=aiQ (aR t bt) e;omega) (fun x hx=>by rcases aiS hx with rfl|h<;>first|exact he|exact aqb (TU _ h) (by omega))) ?_;refine S.un ?_;refine C.B (fun iK=>?_) fun iK=>?_
 ·have hn:fN (kH (aR t bt) e).1=none:=by cases hq:fN (kH (aR t bt) e).1 with|none=>rfl|some b=>rw[hq]at iK;simp at iK
  have e1:gD t bt e=(t,false):=by unfold gD;rw[hn]
  rw[e1];exact⟨_,.t rfl (.t rfl .nil),.none ⟨_,rfl,(ht.mono kZ).mono mq,rfl⟩⟩
 ·obtain⟨b,hq⟩:∃b,fN (kH (aR t bt) e).1=some b:=by cases hq:fN (kH (aR t bt) e).1 with|none=>rw[hq]at iK;simp at iK|some b=>exact⟨b,rfl⟩
  have e1:gD t bt e=(fO t bt {nodeAt t bt with body:=b},true):=by unfold gD;rw[hq]
  rw[e1];rw[hq];have ht:=(ht.mono kZ).mono mq;refine S.bin ?_;refine S.fz (n:=bt) ht (by omega) (by omega) fun vQ jD=>?_;refine S.bP ?_;refine S.alloc fun ez=>?_;refine S.store 0 ?_;refine S.store 0 ?_;refine S.af 0 ?_;refine S.call (xy (n:={nodeAt t bt with body:=b}) ht b0 I J) fun v39 yj DX qh g6=>?_;obtain⟨g6,rfl⟩:=g6;exact⟨_,.t rfl (.t rfl .nil),.none ⟨_,rfl,g6,rfl⟩⟩
theorem TZ [Fx F] {tv:V} {t:an} {bt:Int} {name:Bs} (ht:aa aH O tv t) (hb:bN t) (I:1≤bt) (J:bt≤t.length):
 ai F 165 [tv,.j bt,.str name] O [] (fun r ψ R=>aa aH ψ r (nZ t bt name)∧R=[]) never:=by
 have b0:=hb.1;refine au ?_;refine S.call (q4 (ino:=bt) ht hb) fun oP qe vZ kZ c2=>?_;obtain⟨c2,rfl⟩:=c2;have d2:=s4 hb bt;refine S.call (aiJ (name:=name) c2 (by omega)) fun r7 j5 AT mq cK=>?_;obtain⟨Ih,rfl,cK,rfl⟩:=cK;have ht:=(ht.mono kZ).mono mq;refine S.ak (Mp cK (by have:=aiU (aR t bt) name;omega) (fun x hx=>aqb (TU _ (aiT hx)) (by omega))) ?_;refine S.bin ?_;refine S.fz (n:=bt) ht (by omega) (by omega) fun vQ jD=>?_;refine S.bP ?_;refine S.alloc fun gR=>?_;refine S.store 0 ?_;refine S.store 0 ?_;refine S.af 0 ?_;refine S.call (xy (n:={nodeAt t bt with body:=(fN (lM (aR t bt) name).1).getD []}) ht b0 I J) fun v39 yj DX qh g6=>?_;obtain⟨g6,rfl⟩:=g6;exact⟨_,.t rfl .nil,.none ⟨g6,rfl⟩⟩
theorem CO [Fx F] {tv lv:V} {t:an} {l:List Bs} (ht:aa aH O tv t) (hb:bN t) (hl:aa ec O lv l) (h0:l≠[]) (hlen:l.length≤1000):
 bk F 160 [tv,lv] O (.aM [.j (aO t l).1,.str (aO t l).2.1,.j (aO t l).2.2]):=by
 have b0:=hb.1;have Dq:0<l.length:=arL.2 h0;have OQ:(l.length:Int)-1=((l.length-1:Nat):Int):=by omega
 refine ai.ak (au ?_);refine S.len ?_ (hl:=aa.len hl);refine S.bin ?_;obtain⟨w,w1,w2⟩:=aa.hi hl (show l.length-1≤l.length by omega);rw[←List.dropLast_eq_take]at w2;refine S.slice w1 ?_ (J:=.some (by rw[←OQ];exact .t rfl));refine S.ak (TX ht hb w2 (by simp;omega)) ?_;refine S.bin ?_;refine C.B (fun gs=>?_) fun gs=>?_
 ·have e1:aO t l=(0,[],(eS t l.dropLast).2):=by unfold aO;exact B4 (by simpa using gs)
  rw[e1];refine⟨_,.t rfl (.t rfl (.t rfl .nil)),.done ?_⟩;rfl
 ·have hz:(eS t l.dropLast).2=0:=by simpa using gs
  have hw:=Mk hz;refine S.bin ?_;refine S.fz (n:=(eS t l.dropLast).1) ht (by omega) (by omega) fun DJ x0=>?_;refine S.bl x0 fun YZ Y0=>?_;refine S.aX ?_;refine S.bin ?_;refine C.B (fun bq=>?_) fun bq=>?_
  ·have e1:aO t l=(0,[],5):=by unfold aO;rw[pg (by simpa using hz),B4 (by simpa using bq)]
   rw[e1];refine⟨_,.t rfl (.t rfl (.t rfl .nil)),.done ?_⟩;rfl
  ·have ny:l[l.length-1]? =some (l.getLastD []):=by rw[←List.getLast?_eq_getElem?];cases l with|nil=>exact absurd rfl h0|cons a r=>rw[List.getLastD_cons,List.getLast?_cons,List.getLastD_eq_getLast?]
   have e1:aO t l=((eS t l.dropLast).1,l.getLastD [],0):=by unfold aO;rw[pg (by simpa using hz),pg (by simpa using bq)]
   rw[e1];obtain⟨ap,OS⟩:=ap1.1 ny;refine S.len ?_ (hl:=aa.len hl);refine S.bin ?_;refine S.aF hl ap (fun yk tY=>?_) (hi:=by rw[←OQ];exact .t rfl);rw[OS]at tY;refine S.aX ?_;refine S.CL ?_;refine⟨_,.t rfl (.t rfl (.t rfl .nil)),.done ?_⟩;rfl
theorem aiV {ino:Int} {l:List aT} {k:Nat} (hk:k<l.length) (n:Int):(l.drop k).foldl (fun n e=>if e.ino=ino then n+1 else n) n=(l.drop (k+1)).foldl (fun n e=>if e.ino=ino then n+1 else n) (if(l[k]).ino=ino then n+1 else n):=by
 rw[Rm hk];(try rfl)
theorem aiW (ino:Int) (l:List aT):∀n:Int,l.foldl (fun n e=>if e.ino=ino then n+1 else n) n=n+zw ino l:=by
 unfold zw
 induction l with
 |nil=>intro n;simp
 |cons a l ih=>intro n;simp only[aqk];rw[ih,ih (if a.ino=ino then 0+1 else 0)];split<;>omega
theorem T0 [Fx F] {tv:V} {t:an} {ino:Int} (ht:aa aH O tv t) (hb:bN t):bk F 166 [tv,.j ino] O (.j (xq t ino)):=by
 have b0:=hb.1;refine ai.ak (au ?_);refine S.bin ?_;refine C.D (fun bU=>?_) fun bU=>?_
 ·have e1:xq t ino=1:=by unfold xq;exact B4 bU
  rw[e1];exact⟨_,.t rfl .nil,.none rfl⟩
 ·have e1:xq t ino=u2 t ino t.length 1 0:=by unfold xq;exact pg bU
  rw[e1];refine SW.loop (fun m E ψ R=>∃(i:Nat) (n:Int),i+m=t.length+1∧1≤i∧0≤n∧n≤i*100001∧u2 t ino t.length 1 0=u2 t ino m i n∧aa aH ψ tv t∧R=[]∧Sub [(0,tv),(1,.j ino),(5,.j n),(6,.j (i:Int))] E) (m:=t.length) ⟨1,0,by omega,by omega,by omega,by omega,rfl,ht,rfl,.r rfl⟩ ?_;intro m0 E ψ R ac hI;obtain⟨i,n,hm,rR,m5,oG,ab,ht,rfl,hE⟩:=hI;refine C.sub hE ?_;refine S.len ?_ (hl:=aa.len ht);refine S.bin ?_;refine C.D (fun dG=>?_) fun dG=>?_
  ·obtain⟨f,rfl⟩:∃f,m0=f+1:=⟨m0-1,by omega⟩
   change u2 t ino t.length 1 0=u2 t ino f (i+1) (n+zw ino (aR t i))at ab;refine S.call (q4 (ino:=(i:Int)) ht hb) fun mr wa wb r8 cu=>?_;obtain⟨cu,rfl⟩:=cu;have ht:=ht.mono r8;have d2:=s4 hb (i:Int);refine SW.loop (fun m E ψ R=>∃(k:Nat) (n2:Int),k+m=(aR t i).length∧0≤n2∧n2≤n+k∧n+zw ino (aR t i)=((aR t i).drop k).foldl (fun n e=>if e.ino=ino then n+1 else n) n2∧aa aH ψ tv t∧aa c9 ψ mr (aR t i)∧R=[]∧Sub [(0,tv),(1,.j ino),(5,.j n2),(6,.j (i:Int)),(7,mr),(8,.j (k:Int))] E) (m:=(aR t i).length) ⟨0,n,by omega,m5,by omega,by rw[aqY,aiW],ht,cu,rfl,.r rfl⟩ ?_;intro m2 E ψ R ac hI;obtain⟨k,n2,vG,cU,h2b,nC,ht,cu,rfl,hE⟩:=hI;refine C.sub hE ?_;refine S.len ?_ (hl:=aa.len cu);refine S.bin ?_;refine C.D (fun eu=>?_) fun eu=>?_
   ·have hk:k<(aR t i).length:=by omega
    rw[aiV hk]at nC;refine S.aF cu hk fun AO vR=>?_;refine S.bl vR fun OJ OK=>?_;refine S.aX ?_;refine S.bin ?_;refine C.D (fun eA=>?_) fun eA=>?_
    ·rw[B4 eA]at nC;refine S.bin ?_;refine S.bin ?_;exact⟨m2-1,by omega,k+1,n2+1,by omega,by omega,by omega,nC,ht,cu,rfl,.r rfl⟩
    ·rw[pg eA]at nC;refine S.bin ?_;exact⟨m2-1,by omega,k+1,n2,by omega,by omega,by omega,nC,ht,cu,rfl,.r rfl⟩
   ·obtain rfl:k=(aR t i).length:=by omega
    rw[WV]at nC;change n+zw ino (aR t i)=n2 at nC;rw[nC]at ab;refine S.bin ?_;exact⟨f,by omega,i+1,n2,by omega,by omega,by omega,by omega,ab,ht,rfl,.r rfl⟩
  ·obtain rfl:m0=0:=by omega
   change u2 t ino t.length 1 0=n at ab;rw[ab];exact⟨_,.t rfl .nil,.none rfl⟩
theorem Mr [Fx F] {tv:V} {t:an} {path:Bs} {own:Bool} (ht:aa aH O tv t) (hb:bN t) (hp:path.length≤100000):
 bk F 168 [tv,.str path,.bool own] O (.aM [.j (b5 t path own).1,.j (b5 t path own).2]):=by
 have b0:=hb.1;refine ai.ak (au ?_);refine S.ak (xx (own:=own) ht hb hp) ?_;refine S.bin ?_;refine G.mv ?_;refine G.mv ?_;refine G.bin ?_ (hv:=fun h=>ig (by have:=pG (of_decide_eq_true h);omega) (by have:=pG (of_decide_eq_true h);omega));refine G.fz (n:=(bc t path own).1) ht (fun oN j4=>?_) (h:=fun h=>by have:=pG (of_decide_eq_true h);omega);refine G.bl j4 fun vK nq=>?_;refine G.aX ?_;refine G.bin ?_;refine G.and ?_;refine C.B (fun iK=>?_) fun iK=>?_
 ·simp only[G7,G6]at iK;have e1:b5 t path own=(0,4):=by unfold b5;exact B4 iK
  rw[e1];refine⟨_,.t rfl (.t rfl .nil),.done ?_⟩;rfl
 ·have e1:b5 t path own=bc t path own:=by
   unfold b5;exact pg (fun h=>by rw[decide_eq_true h.1,decide_eq_true h.2]at iK;cases iK)
  rw[e1];refine⟨_,.t rfl (.t rfl .nil),.done ?_⟩;rfl
theorem aiX (s:Bs) (n:Nat):(List.replicate n (0:UInt8)).take 0++s.take n++(List.replicate n (0:UInt8)).drop (0+min s.length n)=lO s n:=by
 unfold lO;rw[aq5,aqa,ap7,List.drop_replicate];congr 2;omega
theorem T1 [Fx F] {s:Bs} {n:Nat} (hn:n≤1000000):bk F 169 [.str s,.j (n:Int)] O (.str (lO s n)):=by
 refine ai.ak (au ?_);refine S.u0 (e:=aQ) (n:=n) 0 (by omega) (by omega) fun c1 o7=>?_;have DY:∀l:Bs,l.length=n→ae aQ (.sl c1 0 n (.ex n)) l (some c1):=fun l hl=>ae.new hl;refine S.TH (x:=s) (m:=n) (o:=0) (l:=List.replicate n 0) 0 (by simp;omega) ?_;rw[aiX];refine S.jS 0 (DY (lO s n) (by unfold lO;simp;omega)) ?_;exact⟨_,.t rfl .nil,.none rfl⟩
end Go.Ev
namespace Go.Ev
variable{F:Nat→Option aN} {O:Fz}
theorem CP {t:an} {l:List Bs} (h:(aO t l).2.2=0):1≤(aO t l).1∧(aO t l).1≤t.length∧(aO t l).2.1=l.getLastD []∧(nodeAt t (aO t l).1).kind=2:=by
 unfold aO at h⊢;split
 ·rename_i I;rw[B4 I]at h;exact absurd h I
 ·rename_i I;rw[pg I]at h;split
  ·rename_i J;rw[B4 J]at h;cases h
  ·rename_i J;have:=Mk (t:=t) (l:=l.dropLast) (by omega);exact⟨this.1,this.2,rfl,by simpa using J⟩
theorem Ms {t:an} {l:List Bs} (hl:∀x∈l,x.length≤6):(aO t l).2.1.length≤6:=by
 unfold aO;split
 ·exact amu _
 ·split
  ·exact amu _
  ·show(l.getLastD []).length≤6;cases l with
   |nil=>exact amu _
   |cons a r=>rw[List.getLastD_cons,List.getLastD_eq_getLast?];cases hq:r.getLast? with
    |none=>exact hl a (apV)
    |some b=>exact hl b (amI _ (List.mem_of_getLast? hq))
theorem Mt (t:an) (i:Int) (n:cM):(fO t i n).length=t.length:=by unfold fO;simp
theorem T2 (t:an) (d:Int) (e:aT):(gD t d e).1.length=t.length:=by unfold gD;split<;>simp[Mt]
theorem xz {t:an} {i:Int} {n:cM} (hb:bN t) (hn:n.body.length≤100000):bN (fO t i n):=by
 refine⟨by rw[Mt];exact hb.1,fun x hx=>?_⟩;unfold fO at hx;rcases ara hx with h|rfl
 ·exact hb.2 x h
 ·exact hn
theorem aiY {l:List aT}:∀{p:Option Bs} {s b:Bs},fy p s l=some b→b.length≤120:=by
 induction l with
 |nil=>
  intro p s b h;simp only[fy]at h;split at h
  ·cases h
  ·cases h;omega
 |cons a l ih=>
  intro p s b h;simp only[fy]at h;split at h
  ·cases h
  ·exact ih h
theorem T3 {l:List aT} {b:Bs} (h:fN l=some b):b.length≤120:=aiY h
theorem Mu {t:an} (hb:bN t) (i:Int):(nodeAt t i).body.length≤100000:=by
 unfold nodeAt;cases hq:t[(i-1).toNat]? with
 |none=>exact amu _
 |some n=>exact hb.2 n (aqM hq)
theorem CQ {t:an} (hb:bN t) (d:Int) (n:Bs):bN (nZ t d n):=by
 unfold nZ;refine xz hb ?_;show((fN (lM (aR t d) n).1).getD []).length≤_;cases hq:fN (lM (aR t d) n).1 with
 |none=>exact amu _
 |some b=>have:=T3 hq;show b.length≤_;omega
theorem T4 (t:an) (d:Int) (n:Bs):(nZ t d n).length=t.length:=Mt _ _ _
def CR (t:an) (bt:Int) (f:Nat) (l:List aT):Option Bool:=l.foldr (fun e rest=>if e.ino≤(t.length:Int)∧(nodeAt t e.ino).kind=2 then(match gE t bt f e.ino with
    |none=>none
    |some true=>some true
    |some false=>rest)else rest) (some false)
theorem aiZ {t:an} {bt:Int} {f:Nat} {l:List aT} {k:Nat} (hk:k<l.length):CR t bt f (l.drop k)=if(l[k]).ino≤(t.length:Int)∧(nodeAt t (l[k]).ino).kind=2 then(match gE t bt f (l[k]).ino with
 |none=>none
 |some true=>some true
 |some false=>CR t bt f (l.drop (k+1)))else CR t bt f (l.drop (k+1)):=by
 rw[Rm hk];(try rfl)
theorem ai0 [Fx F] {t:an} {bt:Int} (hb:bN t):∀(f:Nat) {top:Int} {r:Bool} (O:Fz) (tv:V),aa aH O tv t→gE t bt f top=some r→bk F 167 [tv,.j bt,.j top] O (.bool r):=by
 intro f;have b0:=hb.1
 induction f with
 |zero=>intro top r O tv ht hr;cases hr
 |succ f ih=>
  intro top r O tv ht hr;have ih:=fun(O:Fz) (tv:V) (ht:aa aH O tv t) {top:Int} {r:Bool} (h:gE t bt f top=some r)=> @ih top r O tv ht h;simp only[gE]at hr;refine ai.ak (au ?_);refine S.bin ?_;refine C.D (fun jE=>?_) fun jE=>?_
  ·rw[B4 jE]at hr;cases hr;exact⟨_,.t rfl .nil,.none rfl⟩
  ·rw[pg jE]at hr;change CR t bt f (aR t top)=some r at hr;refine S.call (q4 (ino:=top) ht hb) fun nw tQ tR qc b4=>?_;obtain⟨b4,rfl⟩:=b4;have ht:=ht.mono qc;have d2:=s4 hb top;refine SW.loop (fun m E ψ R=>∃k:Nat,k+m=(aR t top).length∧CR t bt f ((aR t top).drop k)=some r∧aa aH ψ tv t∧aa c9 ψ nw (aR t top)∧R=[]∧Sub [(0,tv),(1,.j bt),(7,nw),(8,.j (k:Int))] E) (m:=(aR t top).length) ⟨0,by omega,hr,ht,b4,rfl,.r rfl⟩ ?_;intro m0 E ψ R ac hI;obtain⟨k,hm,ab,ht,b4,rfl,hE⟩:=hI;refine C.sub hE ?_;refine S.len ?_ (hl:=aa.len b4);refine S.bin ?_;refine C.D (fun cy=>?_) fun cy=>?_
   ·have hk:k<(aR t top).length:=by omega
    rw[aiZ hk]at ab;have gc:=pF _ (W1 hk);refine S.aF b4 hk fun oN j4=>?_;refine S.bl j4 fun vK nq=>?_;refine S.aX ?_;refine S.len ?_ (hl:=aa.len ht);refine S.bin ?_;refine G.mv ?_;refine G.mv ?_;refine G.mv ?_;refine G.aF b4 (z:=(aR t top)[k]) (fun AU r9=>?_) (hj:=fun _=>KJ hk);refine G.bl r9 fun yk tY=>?_;refine G.aX ?_;refine G.bin ?_;refine G.fz (n:=((aR t top)[k]).ino) ht (fun OT Ii=>?_) (h:=fun hb=>by have:=of_decide_eq_true hb;omega);refine G.bl Ii fun Ym OE=>?_;refine G.aX ?_;refine G.bin ?_;refine G.and ?_;refine G.mv ?_;refine G.mv ?_;refine G.mv ?_;refine G.mv ?_;refine G.aF b4 (z:=(aR t top)[k]) (fun Y1 OU=>?_) (hj:=fun _=>KJ hk);refine G.bl OU fun p48 e48=>?_;refine G.aX ?_;have Ij:(decide (((aR t top)[k]).ino≤(t.length:Int))&&decide ((nodeAt t ((aR t top)[k]).ino).kind=2))=true→bk F 167 [tv,.j bt,.j ((aR t top)[k]).ino] ψ (.bool ((gE t bt f ((aR t top)[k]).ino).getD false)):=fun h=>by
     simp only[G7,G6]at h;rw[B4 h]at ab;cases hq:gE t bt f ((aR t top)[k]).ino with
     |none=>rw[hq]at ab;cases ab
     |some z=>exact ih ψ tv ht hq
    refine G.ak Ij ?_;refine G.and ?_;refine C.B (fun fE=>?_) fun fE=>?_
    ·simp only[G7,G6]at fE;rw[B4 fE.1]at ab;have hz:gE t bt f ((aR t top)[k]).ino=some true:=by
      cases hq:gE t bt f ((aR t top)[k]).ino with
      |none=>rw[hq]at ab;cases ab
      |some z=>rw[hq]at fE;simp at fE;rw[fE.2]
     rw[hz]at ab;cases ab;exact⟨_,.t rfl .nil,.none rfl⟩
    ·refine S.bin ?_;refine⟨m0-1,by omega,k+1,by omega,?_,ht,b4,rfl,.r rfl⟩;split at ab
     ·rename_i hc;cases hq:gE t bt f ((aR t top)[k]).ino with
      |none=>rw[hq]at ab;cases ab
      |some z=>
       rw[hq]at ab fE;cases z with
       |true=>simp[hc.1,hc.2]at fE
       |false=>exact ab
     ·exact ab
   ·obtain rfl:k=(aR t top).length:=by omega
    rw[WV]at ab;change some false=some r at ab;cases ab;exact⟨_,.t rfl .nil,.none rfl⟩
def xA (t:an) (i:Nat):Int:=match(t.drop (i-1)).findIdx? (fun n=>decide (n.kind=0))with
 |none=>0
 |some q=>(q:Int)+i
theorem ai1 {t:an} {i:Nat} (I:1≤i) (J:i≤t.length):xA t i=if(nodeAt t i).kind=0 then(i:Int)else xA t (i+1):=by
 have hj:i-1<t.length:=by omega
 have hn:nodeAt t i=t[i-1]:=by
  have:=Gu (t:=t) (i:=i-1) hj
  rwa [show i-1+1=i by omega]at this
 unfold xA;rw[Rm hj,List.findIdx?_cons,hn,show i-1+1=i by omega,show i+1-1=i by omega];by_cases hk:(t[i-1]).kind=0
 ·rw[B4 hk,decide_eq_true hk];simp
 ·rw[pg hk,decide_eq_false hk];cases (t.drop i).findIdx? (fun n=>decide (n.kind=0))with
  |none=>rfl
  |some q=>simp;omega
theorem ai2 (t:an):xr t=xA t 1:=by
 unfold xr xA;rw[show 1-1=0 by rfl,aqY];cases t.findIdx? (fun n=>decide (n.kind=0))<;>rfl
theorem ai3 (t:an):0≤xr t∧xr t≤t.length:=by
 unfold xr;cases h:t.findIdx? (fun n=>decide (n.kind=0))with
 |none=>exact⟨aqc _,by simp⟩
 |some q=>
  have:=(List.findIdx?_eq_some_iff_getElem.1 h).1;show 0≤(q:Int)+1∧(q:Int)+1≤t.length;omega
theorem ai4 [Fx F] {tv:V} {t:an} {path:Bs} {kind mode ino:Int} {own:Bool} (ht:aa aH O tv t) (hb:bN t) (hp:path.length≤100000):
 ai F 117 [tv,.str path,.j kind,.j mode,.j ino,.bool own] O [] (fun r ψ R=>∃v,r=.aM [v,.j (iU t path kind mode ino own).2]∧aa aH ψ v (iU t path kind mode ino own).1∧R=[]) never:=by
 have b0:=hb.1;refine au ?_;refine S.call (xw (path:=path) (own:=own) (by omega)) fun DI Ax Ik vI fo=>?_;obtain⟨w,rfl,fo,rfl⟩:=fo;have ht:=ht.mono vI;refine S.un ?_;refine G.mv ?_;refine G.bin ?_;refine G.mv ?_;refine G.mv ?_;refine G.bin ?_;refine G.jR ?_;refine G.or ?_;refine G.mv ?_;refine G.bin ?_;refine G.or ?_;refine G.mv ?_;refine G.bin ?_;refine G.or ?_;refine G.mv ?_;refine G.bin ?_;refine G.or ?_;refine G.mv ?_;refine G.bin ?_;refine G.or ?_;refine C.B (fun k9=>?_) fun k9=>?_
 ·have e1:iU t path kind mode ino own=(t,1):=by
   unfold iU;cases hq:parts path own with
   |none=>rfl
   |some l=>
    rw[hq]at k9;simp only[Option.isSome_some,aqR,aqu,amt,G7,apH,G6,NI]at k9;exact B4 (by omega)
  rw[e1];exact⟨_,.t rfl (.t rfl .nil),.none ⟨_,rfl,ht,rfl⟩⟩
 ·simp only[W0,aqs,apR,G6,NI]at k9;obtain⟨l,eo⟩:∃l,parts path own=some l:=by
   cases hq:parts path own with
   |none=>rw[hq]at k9;simp at k9
   |some x=>exact⟨x,rfl⟩
  rw[eo]at fo;change aa ec Ax w l at fo;have yl:=zz eo;refine S.len ?_ (hl:=aa.len fo);refine S.bin ?_;refine C.D (fun e4=>?_) fun e4=>?_
  ·have e1:iU t path kind mode ino own=(t,3):=by
    unfold iU;rw[eo];simp only;rw[pg (by omega),B4 (ap8 (by omega))]
   rw[e1];exact⟨_,.t rfl (.t rfl .nil),.none ⟨_,rfl,ht,rfl⟩⟩
  ·have gM:l≠[]:=by intro e;subst e;exact e4 rfl
   refine S.ak (CO ht hb fo gM (by omega)) ?_;refine S.bin ?_;refine C.B (fun Il=>?_) fun Il=>?_
   ·have hz:(aO t l).2.2≠0:=by simpa using Il
    have e1:iU t path kind mode ino own=(t,(aO t l).2.2):=by
     unfold iU;rw[eo];simp only;rw[pg (by omega),pg gM,B4 hz]
    rw[e1];exact⟨_,.t rfl (.t rfl .nil),.none ⟨_,rfl,ht,rfl⟩⟩
   ·have hz:(aO t l).2.2=0:=by simpa using Il
    have dE:=CP hz;have ym:=Ms (t:=t) yl.2;refine S.call (q4 (ino:=(aO t l).1) ht hb) fun Y2 Y3 O74 DZ AV=>?_;obtain⟨AV,rfl⟩:=AV;have ht:=ht.mono DZ;have d2:=s4 hb (aO t l).1;refine S.ak (zx (name:=(aO t l).2.1) AV (by omega)) ?_;refine C.B (fun qi=>?_) fun qi=>?_
    ·have e1:iU t path kind mode ino own=(t,3):=by
      unfold iU;rw[eo];simp only;rw[pg (by omega),pg gM,pg (by omega),B4 qi]
     rw[e1];exact⟨_,.t rfl (.t rfl .nil),.none ⟨_,rfl,ht,rfl⟩⟩
    ·refine S.bin ?_;refine G.mv ?_;refine G.mv ?_;refine G.len ?_ (hl:=aa.len ht);refine G.bin ?_;refine G.mv ?_;refine G.mv ?_;refine G.mv ?_;refine G.bin ?_;refine G.fz (n:=ino) ht (fun p92 Y4=>?_) (h:=fun h=>by simp only[G7,apH,G6,NI]at h;omega);refine G.bl Y4 fun Y5 OW=>?_;refine G.aX ?_;refine G.bin ?_;refine G.xl ?_;refine G.and ?_;refine C.B (fun jF=>?_) fun jF=>?_
     ·simp only[G7,amt,apH,G6,NI]at jF;have e1:iU t path kind mode ino own=(t,3):=by
       unfold iU;rw[eo];simp only;rw[pg (by omega),pg gM,pg (by omega),pg (by rw[qi];simp),B4 jF]
      rw[e1];exact⟨_,.t rfl (.t rfl .nil),.none ⟨_,rfl,ht,rfl⟩⟩
     ·have Af:¬(0<ino∧((t.length:Int)<ino∨(nodeAt t ino).kind≠0)):=by
       intro h;have:(decide (0<ino)&&(decide ((t.length:Int)<ino)||!decide ((nodeAt t ino).kind=0)))=true:=by
        simp only[G7,amt,apH,G6,NI];exact h
       rw[this]at jF;cases jF
      obtain⟨k,hk⟩:∃k,k=if ino=0 then xr t else ino:=⟨_,rfl⟩
      have hf:=ai3 t;have tW:0≤k∧k≤t.length:=by
       rw[hk];split
       ·exact hf
       ·exact⟨by omega,by
         rcases Classical.em (0<ino)with h|h
         ·rcases Classical.em ((t.length:Int)<ino)with J|J
          ·exact absurd ⟨h,.inl J⟩ Af
          ·omega
         ·omega⟩
      have yh:iU t path kind mode ino own=if k=0 then(t,8)else if(gD t (aO t l).1 ⟨(aO t l).2.1,k⟩).2 then(fO (gD t (aO t l).1 ⟨(aO t l).2.1,k⟩).1 k ⟨kind,mode,[]⟩,0)else(t,8):=by
       unfold iU;rw[eo];simp only;rw[pg (by omega),pg gM,pg (by omega),pg (by rw[qi];simp),pg Af,←hk]
      refine SW.loop (fun m E ψ R=>∃(i:Nat) (x:Int),i+m=t.length+1∧1≤i∧k=(if x=0 then xA t i else x)∧aa aH ψ tv t∧R=[]∧Sub [(0,tv),(2,.j kind),(3,.j mode),(4,.j x),(16,.j (aO t l).1),(17,.str (aO t l).2.1),(21,.j (i:Int))] E) (m:=t.length) ⟨1,ino,by omega,by omega,by rw[hk,ai2],ht,rfl,.r rfl⟩ ?_;intro m0 E ψ R ac hI;obtain⟨i,x,hm,rR,hx,ht,rfl,hE⟩:=hI;refine C.sub hE ?_;refine S.len ?_ (hl:=aa.len ht);refine S.bin ?_;refine G.mv ?_;refine G.bin ?_;refine G.and ?_;refine C.B (fun D0=>?_) fun D0=>?_
      ·simp only[G7,G6]at D0;have rx:=D0.2;subst rx;rw[B4 rfl,ai1 rR (by omega)]at hx;refine S.bin ?_;refine S.fz (n:=(i:Int)) ht (by omega) (by omega) fun am9 Y6=>?_;refine S.bl Y6 fun ana anb=>?_;refine S.aX ?_;refine S.bin ?_;refine C.D (fun Im=>?_) fun Im=>?_
       ·rw[B4 Im]at hx;refine S.bin ?_;exact⟨m0-1,by omega,i+1,(i:Int),by omega,by omega,by rw[hx,pg (by omega)],ht,rfl,.r rfl⟩
       ·rw[pg Im]at hx;refine S.bin ?_;exact⟨m0-1,by omega,i+1,0,by omega,by omega,by rw[hx,B4 rfl],ht,rfl,.r rfl⟩
      ·obtain rfl:k=x:=by
        rw[hx];split
        ·rename_i h0;subst h0;have hi:t.length<i:=by simp at D0;omega
         unfold xA;rw[aqw (by omega)];(try rfl)
        ·rfl
       refine S.bin ?_;refine C.D (fun In=>?_) fun In=>?_
       ·rw[yh,B4 In];exact⟨_,.t rfl (.t rfl .nil),.none ⟨_,rfl,ht,rfl⟩⟩
       ·rw[pg In]at yh;rw[yh];refine S.build ?_;refine S.call (Mq (e:=⟨(aO t l).2.1,k⟩) ht hb dE.1 dE.2.1 (by show(aO t l).2.1.length≤_;omega)) fun anc ane anf Y7 Io=>?_;obtain⟨ang,rfl,Io,rfl⟩:=Io;have ht:=ht.mono Y7;refine S.un ?_;refine C.B (fun D1=>?_) fun D1=>?_
        ·rw[pg (by intro h;rw[h]at D1;cases D1)];exact⟨_,.t rfl (.t rfl .nil),.none ⟨_,rfl,ht,rfl⟩⟩
        ·rw[B4 (by simpa using D1)];refine S.build ?_;refine S.call (xy (ino:=k) (n:=⟨kind,mode,[]⟩) Io (by rw[T2];exact b0) (by omega) (by rw[T2];omega)) fun anh ani anj ank Ip=>?_;obtain⟨Ip,rfl⟩:=Ip;exact⟨_,.t rfl (.t rfl .nil),.none ⟨_,rfl,Ip,rfl⟩⟩
theorem ai5 [Fx F] {tv:V} {t:an} {fr dst:Bs} {own:Bool} (ht:aa aH O tv t) (hb:bN t) (hp:fr.length≤100000) (tZ:dst.length≤100000):
 ai F 118 [tv,.str fr,.str dst,.bool own] O [] (fun r ψ R=>∃v,r=.aM [v,.j (il t fr dst own).2]∧aa aH ψ v (il t fr dst own).1∧R=[]) never:=by
 have b0:=hb.1;refine au ?_;refine S.call (xw (path:=fr) (own:=own) (by omega)) fun v25 AW AX t6 fF=>?_;obtain⟨w1,rfl,fF,rfl⟩:=fF;have ht:=ht.mono t6;refine S.call (xw (path:=dst) (own:=own) (by omega)) fun vT rV AP mn fp=>?_;obtain⟨w2,rfl,fp,rfl⟩:=fp;have ht:=ht.mono mn;refine S.un ?_;refine G.mv ?_;refine G.un ?_;refine G.or ?_;refine C.B (fun co=>?_) fun co=>?_
 ·have e1:il t fr dst own=(t,1):=by
   unfold il;cases hq:parts fr own with
   |none=>rfl
   |some l1=>
    cases g3:parts dst own with
    |none=>rfl
    |some l2=>rw[hq,g3]at co;simp at co
  rw[e1];exact⟨_,.t rfl (.t rfl .nil),.none ⟨_,rfl,ht,rfl⟩⟩
 ·simp only[W0,apR]at co;obtain⟨q,hq⟩:=ap4.1 co.1;obtain⟨l,eo⟩:=ap4.1 co.2;rw[eo]at fp;change aa ec rV w2 l at fp;have yl:=zz eo;refine S.ak (xx (path:=fr) (own:=own) ht hb hp) ?_;refine S.bin ?_;refine C.B (fun AY=>?_) fun AY=>?_
  ·have hz:(bc t fr own).2≠0:=by simpa using AY
   have e1:il t fr dst own=(t,(bc t fr own).2):=by unfold il;rw[hq,eo];exact B4 hz
   rw[e1];exact⟨_,.t rfl (.t rfl .nil),.none ⟨_,rfl,ht,rfl⟩⟩
  ·have hz:(bc t fr own).2=0:=by simpa using AY
   have eW:=pG hz;refine S.bin ?_;refine S.fz (n:=(bc t fr own).1) ht (by omega) (by omega) fun Ye HW=>?_;refine S.bl HW fun Oz HX=>?_;refine S.aX ?_;refine S.bin ?_;refine C.D (fun e4=>?_) fun e4=>?_
   ·have e1:il t fr dst own=(t,4):=by unfold il;rw[hq,eo];simp only;rw[pg (by omega),B4 e4]
    rw[e1];exact⟨_,.t rfl (.t rfl .nil),.none ⟨_,rfl,ht,rfl⟩⟩
   ·refine S.len ?_ (hl:=aa.len fp);refine S.bin ?_;refine C.D (fun oS=>?_) fun oS=>?_
    ·have e1:il t fr dst own=(t,3):=by unfold il;rw[hq,eo];simp only;rw[pg (by omega),pg e4,B4 (ap8 (by omega))]
     rw[e1];exact⟨_,.t rfl (.t rfl .nil),.none ⟨_,rfl,ht,rfl⟩⟩
    ·have gM:l≠[]:=by intro e;subst e;exact oS rfl
     refine S.ak (CO ht hb fp gM (by omega)) ?_;refine S.bin ?_;refine C.B (fun mt=>?_) fun mt=>?_
     ·have hy:(aO t l).2.2≠0:=by simpa using mt
      have e1:il t fr dst own=(t,(aO t l).2.2):=by unfold il;rw[hq,eo];simp only;rw[pg (by omega),pg e4,pg gM,B4 hy]
      rw[e1];exact⟨_,.t rfl (.t rfl .nil),.none ⟨_,rfl,ht,rfl⟩⟩
     ·have hy:(aO t l).2.2=0:=by simpa using mt
      have dE:=CP hy;have ym:=Ms (t:=t) yl.2;refine S.call (q4 (ino:=(aO t l).1) ht hb) fun v78 anl O78 Y8 Iq=>?_;obtain⟨Iq,rfl⟩:=Iq;have ht:=ht.mono Y8;have d2:=s4 hb (aO t l).1;refine S.ak (zx (name:=(aO t l).2.1) Iq (by omega)) ?_;refine C.B (fun sa=>?_) fun sa=>?_
      ·have e1:il t fr dst own=(t,3):=by unfold il;rw[hq,eo];simp only;rw[pg (by omega),pg e4,pg gM,pg (by omega),B4 sa]
       rw[e1];exact⟨_,.t rfl (.t rfl .nil),.none ⟨_,rfl,ht,rfl⟩⟩
      ·have e1:il t fr dst own=if(gD t (aO t l).1 ⟨(aO t l).2.1,(bc t fr own).1⟩).2 then((gD t (aO t l).1 ⟨(aO t l).2.1,(bc t fr own).1⟩).1,0)else(t,8):=by unfold il;rw[hq,eo];simp only;rw[pg (by omega),pg e4,pg gM,pg (by omega),pg (by rw[sa];simp)]
       rw[e1];refine S.build ?_;refine S.call (Mq (e:=⟨(aO t l).2.1,(bc t fr own).1⟩) ht hb dE.1 dE.2.1 (by show(aO t l).2.1.length≤_;omega)) fun v91 anm O91 Y9 Ir=>?_;obtain⟨w91,rfl,Ir,rfl⟩:=Ir;have ht:=ht.mono Y9;refine S.un ?_;refine C.B (fun D2=>?_) fun D2=>?_
       ·rw[pg (by intro h;rw[h]at D2;cases D2)];exact⟨_,.t rfl (.t rfl .nil),.none ⟨_,rfl,ht,rfl⟩⟩
       ·rw[B4 (by simpa using D2)];exact⟨_,.t rfl (.t rfl .nil),.none ⟨_,rfl,Ir,rfl⟩⟩
theorem T5 {t:an} {p:Bs} {own:Bool} {l:List Bs} (hz:(bc t p own).2=0) (I:(bc t p own).1≠1) (hq:parts p own=some l):l≠[]:=by
 intro e;subst e;unfold bc at hz I;rw[hq]at hz I;unfold eS at hz I;simp only at hz I;split at hz
 ·cases hz
 ·rename_i h0;rw[pg h0]at I;exact I rfl
theorem ai6 [Fx F] {tv:V} {t:an} {path:Bs} {own:Bool} (ht:aa aH O tv t) (hb:bN t) (hp:path.length≤100000) (Is:(bc t path own).2=0→(bc t path own).1≠1→(aO t ((parts path own).getD [])).2.2=0):
 ai F 119 [tv,.str path,.bool own] O [] (fun r ψ R=>∃v,r=.aM [v,.j (lP t path own).2]∧aa aH ψ v (lP t path own).1∧R=[]) never:=by
 have b0:=hb.1;refine au ?_;refine S.ak (xx (own:=own) ht hb hp) ?_;refine S.bin ?_;refine C.B (fun ey=>?_) fun ey=>?_
 ·have hz:(bc t path own).2≠0:=by simpa using ey
  have e1:lP t path own=(t,(bc t path own).2):=by unfold lP;exact B4 hz
  rw[e1];exact⟨_,.t rfl (.t rfl .nil),.none ⟨_,rfl,ht,rfl⟩⟩
 ·have hz:(bc t path own).2=0:=by simpa using ey
  have eW:=pG hz;refine S.bin ?_;refine C.D (fun bq=>?_) fun bq=>?_
  ·have e1:lP t path own=(t,4):=by unfold lP;simp only;rw[pg (by omega),B4 bq]
   rw[e1];exact⟨_,.t rfl (.t rfl .nil),.none ⟨_,rfl,ht,rfl⟩⟩
  ·refine S.bin ?_;refine S.fz (n:=(bc t path own).1) ht (by omega) (by omega) fun AU r9=>?_;refine S.bl r9 fun yk tY=>?_;refine S.aX ?_;refine S.bin ?_;refine G.mv ?_;refine G.mv ?_;refine G.bin ?_;refine G.fz (n:=(bc t path own).1) ht (fun p41 Za=>?_) (h:=fun _=>⟨eW.1,eW.2.1⟩);refine G.bl Za fun p42 e42=>?_;refine G.aX ?_;refine G.bin ?_;refine G.and ?_;refine C.B (fun wc=>?_) fun wc=>?_
   ·simp only[G7,apH,G6,NI]at wc;have e1:lP t path own=(t,6):=by unfold lP;simp only;rw[pg (by omega),pg bq,B4 wc]
    rw[e1];exact⟨_,.t rfl (.t rfl .nil),.none ⟨_,rfl,ht,rfl⟩⟩
   ·have H5:¬((nodeAt t (bc t path own).1).kind=2∧(nodeAt t (bc t path own).1).body≠[]):=fun h=>by rw[decide_eq_true h.1,decide_eq_false h.2]at wc;cases wc
    obtain⟨l,eo⟩:=ap4.1 eW.2.2;have gM:=T5 hz bq eo;have yl:=zz eo;have hy:=Is hz bq;rw[eo]at hy;change (aO t l).2.2=0 at hy;have dE:=CP hy;have dl:=CQ hb (aO t l).1 (aO t l).2.1;have di:=T4 t (aO t l).1 (aO t l).2.1;have e1:lP t path own=(if xq (nZ t (aO t l).1 (aO t l).2.1) (bc t path own).1=0 then fO (nZ t (aO t l).1 (aO t l).2.1) (bc t path own).1 ff else nZ t (aO t l).1 (aO t l).2.1,0):=by unfold lP;simp only;rw[pg (by omega),pg bq,pg H5,eo];(try rfl)
    rw[e1];refine S.call (xw (path:=path) (own:=own) (by omega)) fun v50 D3 It t7 oV=>?_;obtain⟨w,rfl,oV,rfl⟩:=oV;have ht:=ht.mono t7;rw[eo]at oV;change aa ec D3 w l at oV;refine S.ak (CO ht hb oV gM (by omega)) ?_;refine S.call (TZ ht hb dE.1 dE.2.1) fun v63 OX O63 OY wd=>?_;obtain⟨wd,rfl⟩:=wd;refine S.ak (T0 wd dl) ?_;refine S.bin ?_;refine C.D (fun Iu=>?_) fun Iu=>?_
    ·rw[B4 Iu];refine S.build ?_;refine S.call (xy (n:=ff) wd (by rw[di];exact b0) eW.1 (by rw[di];exact eW.2.1)) fun Zb OZ Zc D4 vX=>?_;obtain⟨vX,rfl⟩:=vX;exact⟨_,.t rfl (.t rfl .nil),.none ⟨_,rfl,vX,rfl⟩⟩
    ·rw[pg Iu];exact⟨_,.t rfl (.t rfl .nil),.none ⟨_,rfl,wd,rfl⟩⟩
theorem Mv {t:an} {path:Bs} {own:Bool} (h:(b5 t path own).2=0):b5 t path own=bc t path own∧1≤(b5 t path own).1∧(b5 t path own).1≤t.length:=by
 unfold b5 at h⊢;split
 ·rename_i hc;rw[B4 hc]at h;cases h
 ·rename_i hc;rw[pg hc]at h;have:=pG h;exact⟨rfl,this.1,this.2.1⟩
theorem ai7 [Fx F] {tv:V} {t:an} {path:Bs} {size:Int} {own:Bool} (ht:aa aH O tv t) (hb:bN t) (hp:path.length≤100000):
 ai F 122 [tv,.str path,.j size,.bool own] O [] (fun r ψ R=>∃v,r=.aM [v,.j (lQ t path size own).2]∧aa aH ψ v (lQ t path size own).1∧R=[]) never:=by
 have b0:=hb.1;refine au ?_;refine S.ak (Mr (own:=own) ht hb hp) ?_;refine S.bin ?_;refine C.B (fun jG=>?_) fun jG=>?_
 ·have hz:(b5 t path own).2≠0:=by simpa using jG
  have e1:lQ t path size own=(t,(b5 t path own).2):=by unfold lQ;exact B4 hz
  rw[e1];exact⟨_,.t rfl (.t rfl .nil),.none ⟨_,rfl,ht,rfl⟩⟩
 ·have hz:(b5 t path own).2=0:=by simpa using jG
  have eW:=Mv hz;refine S.bin ?_;refine C.D (fun bV=>?_) fun bV=>?_
  ·have e1:lQ t path size own=(t,1):=by unfold lQ;simp only;rw[pg (by omega),B4 bV]
   rw[e1];exact⟨_,.t rfl (.t rfl .nil),.none ⟨_,rfl,ht,rfl⟩⟩
  ·refine S.bin ?_;refine C.D (fun bq=>?_) fun bq=>?_
   ·have e1:lQ t path size own=(t,8):=by unfold lQ;simp only;rw[pg (by omega),pg bV,B4 bq]
    rw[e1];exact⟨_,.t rfl (.t rfl .nil),.none ⟨_,rfl,ht,rfl⟩⟩
   ·have e1:lQ t path size own=(fO t (b5 t path own).1 {nodeAt t (b5 t path own).1 with body:=lO (nodeAt t (b5 t path own).1).body size.toNat},0):=by unfold lQ;simp only;rw[pg (by omega),pg bV,pg bq]
    rw[e1];obtain⟨z,rfl⟩:∃z:Nat,size=(z:Int):=⟨size.toNat,by omega⟩
    rw[aqo];refine S.bin ?_;refine S.fz (n:=(b5 t path own).1) ht (by omega) (by omega) fun AU r9=>?_;refine S.bP ?_;refine S.alloc fun ez=>?_;refine S.store 0 ?_;refine S.ld 0 ?_;refine S.ak (T1 (s:=(nodeAt t (b5 t path own).1).body) (n:=z) (by omega)) ?_;refine S.store 0 ?_;refine S.af 0 ?_;refine S.call (xy (n:={nodeAt t (b5 t path own).1 with body:=lO (nodeAt t (b5 t path own).1).body z}) ht b0 eW.2.1 eW.2.2) fun O0 O4 O5 O8 hw=>?_;obtain⟨hw,rfl⟩:=hw;exact⟨_,.t rfl (.t rfl .nil),.none ⟨_,rfl,hw,rfl⟩⟩
theorem ai8 [Fx F] {tv:V} {t:an} {path:Bs} {mode:Int} {own:Bool} (ht:aa aH O tv t) (hb:bN t) (hp:path.length≤100000):
 ai F 123 [tv,.str path,.j mode,.bool own] O [] (fun r ψ R=>∃v,r=.aM [v,.j (n4 t path mode own).2]∧aa aH ψ v (n4 t path mode own).1∧R=[]) never:=by
 have b0:=hb.1;refine au ?_;refine S.ak (xx (own:=own) ht hb hp) ?_;refine S.bin ?_;refine C.B (fun jG=>?_) fun jG=>?_
 ·have hz:(bc t path own).2≠0:=by simpa using jG
  have e1:n4 t path mode own=(t,(bc t path own).2):=by unfold n4;exact B4 hz
  rw[e1];exact⟨_,.t rfl (.t rfl .nil),.none ⟨_,rfl,ht,rfl⟩⟩
 ·have hz:(bc t path own).2=0:=by simpa using jG
  have eW:=pG hz;refine S.bin ?_;refine G.mv ?_;refine G.bin ?_;refine G.or ?_;refine C.B (fun x4=>?_) fun x4=>?_
  ·simp only[amt,G6]at x4;have e1:n4 t path mode own=(t,1):=by unfold n4;simp only;rw[pg (by omega),B4 x4]
   rw[e1];exact⟨_,.t rfl (.t rfl .nil),.none ⟨_,rfl,ht,rfl⟩⟩
  ·simp only[W0,NI]at x4;have e1:n4 t path mode own=(fO t (bc t path own).1 {nodeAt t (bc t path own).1 with mode:=mode},0):=by unfold n4;simp only;rw[pg (by omega),pg (by omega)]
   rw[e1];refine S.bin ?_;refine S.fz (n:=(bc t path own).1) ht (by omega) (by omega) fun yk tY=>?_;refine S.bP ?_;refine S.alloc fun ez=>?_;refine S.store 0 ?_;refine S.store 0 ?_;refine S.af 0 ?_;refine S.call (xy (n:={nodeAt t (bc t path own).1 with mode:=mode}) ht b0 eW.1 eW.2.1) fun O0 O4 O5 O8 hw=>?_;obtain⟨hw,rfl⟩:=hw;exact⟨_,.t rfl (.t rfl .nil),.none ⟨_,rfl,hw,rfl⟩⟩
theorem ai9 [Fx F] {tv:V} {t:an} {path text:Bs} {off:Int} {own:Bool} (ht:aa aH O tv t) (hb:bN t) (hp:path.length≤100000) (hx:text.length≤100000) (hof:off≤1000000):
 ai F 121 [tv,.str path,.j off,.str text,.bool own] O [] (fun r ψ R=>∃v,r=.aM [v,.j (jU t path off text own).2]∧aa aH ψ v (jU t path off text own).1∧R=[]) never:=by
 have b0:=hb.1;refine au ?_;refine S.ak (Mr (own:=own) ht hb hp) ?_;refine S.bin ?_;refine C.B (fun ey=>?_) fun ey=>?_
 ·have hz:(b5 t path own).2≠0:=by simpa using ey
  have e1:jU t path off text own=(t,(b5 t path own).2):=by unfold jU;exact B4 hz
  rw[e1];exact⟨_,.t rfl (.t rfl .nil),.none ⟨_,rfl,ht,rfl⟩⟩
 ·have hz:(b5 t path own).2=0:=by simpa using ey
  have eW:=Mv hz;refine S.bin ?_;refine C.D (fun bq=>?_) fun bq=>?_
  ·have e1:jU t path off text own=(t,1):=by unfold jU;simp only;rw[pg (by omega),B4 bq]
   rw[e1];exact⟨_,.t rfl (.t rfl .nil),.none ⟨_,rfl,ht,rfl⟩⟩
  ·refine S.bin ?_;refine G.mv ?_;refine G.cD ?_;refine G.mv ?_;refine G.bin ?_ (hv:=fun _=>ig (by omega) (by omega));refine G.bin ?_;refine G.or ?_;refine C.B (fun j6=>?_) fun j6=>?_
   ·simp only[amt,G6]at j6;have e1:jU t path off text own=(t,8):=by unfold jU;simp only;rw[pg (by omega),pg bq,B4 (by omega)]
    rw[e1];exact⟨_,.t rfl (.t rfl .nil),.none ⟨_,rfl,ht,rfl⟩⟩
   ·simp only[W0,NI]at j6;refine S.cD ?_;refine S.bin ?_;refine C.D (fun iM=>?_) fun iM=>?_
    ·have h0:text=[]:=ap8 (by omega);have e1:jU t path off text own=(t,0):=by unfold jU;simp only;rw[pg (by omega),pg bq,pg (by omega),B4 h0]
     rw[e1];exact⟨_,.t rfl (.t rfl .nil),.none ⟨_,rfl,ht,rfl⟩⟩
    ·have h0:text≠[]:=by intro e;subst e;exact iM rfl
     have Dq:=arL.2 h0;obtain⟨z,rfl⟩:∃z:Nat,off=(z:Int):=⟨off.toNat,by omega⟩
     have e1:jU t path z text own=(fO t (b5 t path own).1 {nodeAt t (b5 t path own).1 with body:=xu (nodeAt t (b5 t path own).1).body z text},0):=by unfold jU;simp only;rw[pg (by omega),pg bq,pg (by omega),pg h0];(try rfl)
     rw[e1];obtain⟨we,AZ⟩:∃we,we=(nodeAt t (b5 t path own).1).body:=⟨_,rfl⟩
     have dD:=Mu hb (b5 t path own).1;rw[←AZ]at dD;refine S.bin ?_;refine S.fz (n:=(b5 t path own).1) ht (by omega) (by omega) fun Y1 OU=>?_;refine S.bP ?_;refine S.alloc fun nD=>?_;refine S.store 0 ?_;refine S.ld 0 ?_;refine S.ld 0 ?_;refine S.cD ?_;refine S.cD ?_;refine S.bin ?_;refine S.pB (b:=.j ((z+text.length:Nat):Int)) (Tn (nodeAt t (b5 t path own).1).body.length (z+text.length)) ?_;rw[←AZ];refine S.ak (T1 (s:=we) (n:=max we.length (z+text.length)) (by omega)) ?_ (hx:=by rw[AZ];(try rfl));obtain⟨lg,Iv⟩:∃lg,lg=lO we (max we.length (z+text.length)):=⟨_,rfl⟩
     have ny:lg.length=max we.length (z+text.length):=by rw[Iv];unfold lO;simp;omega
     rw[←Iv];refine S.aio fun Pb Iw=>?_;obtain⟨a,o,c,ha,hs,Zd⟩:=Iw.lo (j:=z) (by omega) (by omega);cases ha;refine S.slice hs ?_;have ho:o=z:=by
      rcases Zd with h|h
      ·rw[h];exact Nat.mul_one z
      ·omega
     subst ho;refine S.TH (x:=text) (l:=lg) (m:=lg.length-o) (o:=o) 0 (by omega) ?_;rw[aqn (show text.length≤lg.length-o by omega),aqz (show text.length≤lg.length-o by omega)];have Ix:ae aQ (.sl Pb 0 lg.length (.un 1)) (lg.take o++text++lg.drop (o+text.length)) (some Pb):=by
      have hL:(lg.take o++text++lg.drop (o+text.length)).length=lg.length:=by simp;omega
      unfold ae;rw[hL];exact⟨by rw[iT,hL],lI _,.inr (.inl ⟨_,rfl,rfl⟩)⟩
     refine S.jS 0 Ix ?_;refine S.store 1 ?_;refine S.af 1 ?_;have cL:xu (nodeAt t (b5 t path own).1).body o text=lg.take o++text++lg.drop (o+text.length):=by unfold xu;rw[←AZ,←Iv]
     refine S.call (xy (n:={nodeAt t (b5 t path own).1 with body:=xu (nodeAt t (b5 t path own).1).body o text}) ht b0 eW.2.1 eW.2.2) (fun O0 O4 O5 O8 hw=>?_) (hx:=by rw[cL];(try rfl));obtain⟨hw,rfl⟩:=hw;exact⟨_,.t rfl (.t rfl .nil),.none ⟨_,rfl,by rw[AZ];exact hw,rfl⟩⟩
theorem aja [Fx F] {tv:V} {t:an} {fr dst:Bs} {own:Bool} {f:Nat} {x:an×Int} (ht:aa aH O tv t) (hb:bN t) (hp:fr.length≤100000) (tZ:dst.length≤100000) (hx:s5 f t fr dst own=some x) (Is:∀q,parts fr own=some q→(bc t fr own).2=0→(bc t fr own).1≠1→(aO t q).2.2=0):
 ai F 120 [tv,.str fr,.str dst,.bool own] O [] (fun r ψ R=>∃v,r=.aM [v,.j (x).2]∧aa aH ψ v (x).1∧R=[]) never:=by
 have b0:=hb.1;refine au ?_;refine S.call (xw (path:=fr) (own:=own) (by omega)) fun nE yn A0 oW dv=>?_;obtain⟨w1,rfl,dv,rfl⟩:=dv;have ht:=ht.mono oW;refine S.call (xw (path:=dst) (own:=own) (by omega)) fun Ze Pc Zf Iy t8=>?_;obtain⟨w2,rfl,t8,rfl⟩:=t8;have ht:=ht.mono Iy;refine S.un ?_;refine G.mv ?_;refine G.un ?_;refine G.or ?_;refine C.B (fun iM=>?_) fun iM=>?_
 ·have e1:x=(t,1):=by
   unfold s5 at hx;cases hq:parts fr own with
   |none=>rw[hq]at hx;cases hx;rfl
   |some l1=>
    cases g3:parts dst own with
    |none=>rw[hq,g3]at hx;cases hx;rfl
    |some l2=>rw[hq,g3]at iM;simp at iM
  rw[e1];exact⟨_,.t rfl (.t rfl .nil),.none ⟨_,rfl,ht,rfl⟩⟩
 ·simp only[W0,apR]at iM;obtain⟨q,hq⟩:=ap4.1 iM.1;obtain⟨l,eo⟩:=ap4.1 iM.2;rw[eo]at t8;change aa ec Pc w2 l at t8;rw[hq]at dv;change aa ec yn w1 q at dv;have dv:=dv.mono Iy;have yl:=zz eo;have Pd:=zz hq;unfold s5 at hx;rw[hq,eo]at hx;simp only at hx;refine S.ak (xx (path:=fr) (own:=own) ht hb hp) ?_;refine S.bin ?_;refine C.B (fun Iz=>?_) fun Iz=>?_
  ·have hz:(bc t fr own).2≠0:=by simpa using Iz
   rw[B4 hz]at hx;cases hx;exact⟨_,.t rfl (.t rfl .nil),.none ⟨_,rfl,ht,rfl⟩⟩
  ·have hz:(bc t fr own).2=0:=by simpa using Iz
   have eW:=pG hz;rw[pg (by omega)]at hx;refine S.bin ?_;refine C.D (fun wg=>?_) fun wg=>?_
   ·rw[B4 wg]at hx;cases hx;exact⟨_,.t rfl (.t rfl .nil),.none ⟨_,rfl,ht,rfl⟩⟩
   ·rw[pg wg]at hx;refine S.len ?_ (hl:=aa.len t8);refine S.bin ?_;refine C.D (fun ua=>?_) fun ua=>?_
    ·rw[B4 (ap8 (by omega))]at hx;cases hx;exact⟨_,.t rfl (.t rfl .nil),.none ⟨_,rfl,ht,rfl⟩⟩
    ·have gM:l≠[]:=by intro e;subst e;exact ua rfl
     rw[pg gM]at hx;refine S.ak (CO ht hb t8 gM (by omega)) ?_;refine S.bin ?_;refine C.B (fun rS=>?_) fun rS=>?_
     ·have hy:(aO t l).2.2≠0:=by simpa using rS
      rw[B4 hy]at hx;cases hx;exact⟨_,.t rfl (.t rfl .nil),.none ⟨_,rfl,ht,rfl⟩⟩
     ·have hy:(aO t l).2.2=0:=by simpa using rS
      have dE:=CP hy;have ym:=Ms (t:=t) yl.2;rw[pg (by omega)]at hx;have Pe:=T5 hz wg hq;have Zg:=Is q hq hz wg;have Pf:=CP Zg;refine S.ak (CO ht hb dv Pe (by omega)) ?_;refine S.bin ?_;refine G.mv ?_;refine G.mv ?_;refine G.bin ?_;refine G.and ?_;refine C.B (fun A1=>?_) fun A1=>?_
      ·simp only[G7,G6]at A1;rw[B4 A1]at hx;cases hx;exact⟨_,.t rfl (.t rfl .nil),.none ⟨_,rfl,ht,rfl⟩⟩
      ·rw[pg (fun h=>by rw[decide_eq_true h.1,decide_eq_true h.2]at A1;cases A1)]at hx;refine S.call (q4 (ino:=(aO t l).1) ht hb) fun Zh Pg Zi Zj A2=>?_;obtain⟨A2,rfl⟩:=A2;have ht:=ht.mono Zj;have d2:=s4 hb (aO t l).1;refine S.ak (zx (name:=(aO t l).2.1) A2 (by omega)) ?_;refine C.B (fun jF=>?_) fun jF=>?_
       ·rw[B4 jF]at hx;cases hx;exact⟨_,.t rfl (.t rfl .nil),.none ⟨_,rfl,ht,rfl⟩⟩
       ·rw[pg (by rw[jF];simp)]at hx;obtain⟨go,ab⟩:∃go:an×Int,go=if(gD (nZ t (aO t q).1 (aO t q).2.1) (aO t l).1 ⟨(aO t l).2.1,(bc t fr own).1⟩).2=true then((gD (nZ t (aO t q).1 (aO t q).2.1) (aO t l).1 ⟨(aO t l).2.1,(bc t fr own).1⟩).1,0)else(t,8):=⟨_,rfl⟩
        rw[←ab]at hx;refine S.bin ?_;refine S.fz (n:=(bc t fr own).1) ht (by omega) (by omega) fun ann Zk=>?_;refine S.bl Zk fun ano anp=>?_;refine S.aX ?_;refine S.bin ?_;refine G.mv ?_;refine G.mv ?_;refine G.mv ?_;have Ij:decide ((nodeAt t (bc t fr own).1).kind=2)=true→bk F 167 [tv,.j (aO t l).1,.j (bc t fr own).1] Pg (.bool ((gE t (aO t l).1 f (bc t fr own).1).getD false)):=fun h=>by
         rw[B4 (of_decide_eq_true h)]at hx;cases hw:gE t (aO t l).1 f (bc t fr own).1 with
         |none=>rw[hw]at hx;cases hx
         |some z=>exact ai0 hb f Pg tv ht hw
        refine G.ak Ij ?_;refine G.and ?_;refine C.B (fun ub=>?_) fun ub=>?_
        ·simp only[G7,G6]at ub;rw[B4 ub.1]at hx;have hw:gE t (aO t l).1 f (bc t fr own).1=some true:=by
          cases hw:gE t (aO t l).1 f (bc t fr own).1 with
          |none=>rw[hw]at hx;cases hx
          |some z=>rw[hw]at ub;simp at ub;rw[ub.2]
         rw[hw]at hx;cases hx;exact⟨_,.t rfl (.t rfl .nil),.none ⟨_,rfl,ht,rfl⟩⟩
        ·have Zl:x=go:=by
          split at hx
          ·rename_i hk;cases hw:gE t (aO t l).1 f (bc t fr own).1 with
           |none=>rw[hw]at hx;cases hx
           |some z=>
            rw[hw]at hx ub;cases z with
            |true=>simp[hk]at ub
            |false=>cases hx;rfl
          ·cases hx;rfl
         rw[Zl,ab];have dl:=CQ hb (aO t q).1 (aO t q).2.1;have di:=T4 t (aO t q).1 (aO t q).2.1;refine S.call (TZ ht hb Pf.1 Pf.2.1) fun v117 anq anr Zm IA=>?_;obtain⟨IA,rfl⟩:=IA;have ht:=ht.mono Zm;refine S.build ?_;refine S.call (Mq (bt:=(aO t l).1) (e:=⟨(aO t l).2.1,(bc t fr own).1⟩) IA dl dE.1 (by rw[di];exact dE.2.1) (by show(aO t l).2.1.length≤_;omega)) fun ans ant anu Zn IB=>?_;obtain⟨anv,rfl,IB,rfl⟩:=IB;have ht:=ht.mono Zn;refine S.un ?_;refine C.B (fun D5=>?_) fun D5=>?_
         ·rw[pg (by intro h;rw[h]at D5;cases D5)];exact⟨_,.t rfl (.t rfl .nil),.none ⟨_,rfl,ht,rfl⟩⟩
         ·rw[B4 (by simpa using D5)];exact⟨_,.t rfl (.t rfl .nil),.none ⟨_,rfl,IB,rfl⟩⟩
def zA (t:an) (path:Bs) (own:Bool):Bs×Int:=if(b5 t path own).2≠0 then([],(b5 t path own).2)else((nodeAt t (b5 t path own).1).body,0)
theorem ajb [Fx F] {tv:V} {t:an} {path:Bs} {own:Bool} (ht:aa aH O tv t) (hb:bN t) (hp:path.length≤100000):
 bk F 125 [tv,.str path,.bool own] O (.aM [.str (zA t path own).1,.j (zA t path own).2]):=by
 have b0:=hb.1;refine ai.ak (au ?_);refine S.ak (Mr (own:=own) ht hb hp) ?_;refine S.bin ?_;refine C.B (fun cy=>?_) fun cy=>?_
 ·have hz:(b5 t path own).2≠0:=by simpa using cy
  have e1:zA t path own=([],(b5 t path own).2):=by unfold zA;exact B4 hz
  rw[e1];refine⟨_,.t rfl (.t rfl .nil),.done ?_⟩;rfl
 ·have hz:(b5 t path own).2=0:=by simpa using cy
  have eW:=Mv hz;have e1:zA t path own=((nodeAt t (b5 t path own).1).body,0):=by unfold zA;exact pg (by omega)
  rw[e1];refine S.bin ?_;refine S.fz (n:=(b5 t path own).1) ht (by omega) (by omega) fun oN j4=>?_;refine S.bl j4 fun vK nq=>?_;refine S.aX ?_;refine⟨_,.t rfl (.t rfl .nil),.done ?_⟩;rfl
theorem ajc [Fx F] {tv:V} {t:an} {path:Bs} {own:Bool} (ht:aa aH O tv t) (hb:bN t) (hp:path.length≤100000):
 ai F 126 [tv,.str path,.bool own] O [] (fun r _ _=>∃a b c d e f:Int,r=.aM [.agg [.j a,.j b,.j c,.j d,.j e],.j f]) never:=by
 have b0:=hb.1;refine au ?_;refine S.alloc fun cb=>?_;refine S.ak (xx (own:=own) ht hb hp) ?_;refine S.bin ?_;refine C.B (fun cG=>?_) fun cG=>?_
 ·refine S.build ?_;refine S.store 0 ?_;exact⟨_,.cN 0 rfl rfl rfl rfl (.t rfl .nil),.none ⟨_,_,_,_,_,_,rfl⟩⟩
 ·have hz:(bc t path own).2=0:=by simpa using cG
  have eW:=pG hz;refine S.bin ?_;refine S.fz (n:=(bc t path own).1) ht (by omega) (by omega) fun DJ x0=>?_;refine S.bP ?_;refine S.alloc fun mh=>?_;refine S.store 0 ?_;refine S.ld 0 ?_;refine S.ld 0 ?_;refine S.ld 0 ?_;refine S.cD ?_;refine S.ak (T0 ht hb) ?_;refine S.bF 0 ?_;refine S.bF 0 ?_;refine S.bF 0 ?_;refine S.build ?_;refine S.store 1 ?_;exact⟨_,.cN 1 rfl rfl rfl rfl (.t rfl .nil),.none ⟨_,_,_,_,_,_,rfl⟩⟩
theorem ajd [Fx F] {tv:V} {t:an} {path:Bs} {own:Bool} (ht:aa aH O tv t) (hb:bN t) (hp:path.length≤100000):
 ai F 127 [tv,.str path,.bool own] O [] (fun r ψ R=>∃v l e,r=.aM [v,.j e]∧aa c9 ψ v l∧R=[]) never:=by
 have b0:=hb.1;refine au ?_;refine S.ak (xx (own:=own) ht hb hp) ?_;refine S.bin ?_;refine C.B (fun cy=>?_) fun cy=>?_
 ·exact⟨_,.t rfl (.t rfl .nil),.none ⟨_,_,_,rfl,aa.nil _,rfl⟩⟩
 ·have hz:(bc t path own).2=0:=by simpa using cy
  have eW:=pG hz;refine S.bin ?_;refine S.fz (n:=(bc t path own).1) ht (by omega) (by omega) fun oN j4=>?_;refine S.bl j4 fun vK nq=>?_;refine S.aX ?_;refine S.bin ?_;refine C.B (fun mg=>?_) fun mg=>?_
  ·exact⟨_,.t rfl (.t rfl .nil),.none ⟨_,_,_,rfl,aa.nil _,rfl⟩⟩
  ·refine S.call (q4 (ino:=(bc t path own).1) ht hb) fun yb yc yd oT d6=>?_;obtain⟨d6,rfl⟩:=d6;exact⟨_,.t rfl (.t rfl .nil),.none ⟨_,_,_,rfl,d6,rfl⟩⟩
end Go.Ev
namespace Go.Ev
def ep (p:ag):Bool:=decide (0≤p.addr)&&decide (p.addr≤65535)&&gg p.gen
def q5 (p:ag):Bs:=le 2 p.addr++le 4 p.gen
def dg (l:List ag):Bs:=l.flatMap q5
def pH (n:Int):Bool:=decide (0≤n)&&decide (n≤255)
def CS (gen:Int) (r:bH):Bool:=gg gen&&pH r.ino&&pH r.idx&&decide (r.load.length≤53)
def im (gen:Int) (r:bH):aV:=if CS gen r then⟨1,gen,[bS r.ino,bS r.idx]++r.load⟩else hG
def ra (x:aV):bH:=⟨((x.load[0]?).getD 0).toNat,((x.load[1]?).getD 0).toNat,x.load.drop 2⟩
def fP (x:aV):Option bH:=if x.kind=1∧2≤x.load.length then(if im x.gen (ra x)=x then some (ra x)else none)else none
abbrev b2:=bH×ag
def zB (i:b2):Bs:=le 1 i.1.ino++le 1 i.1.idx++q5 i.2
def hO (l:List b2):Bs:=l.flatMap zB
def pI (i:b2):Bool:=pH i.1.ino&&pH i.1.idx&&ep i.2
def jn (gen:Int) (l:List b2):aV:=if gg gen&&l.all pI then⟨2,gen,hO l⟩else hG
def iV (gen:Int):Nat→List b2→List aV
 |0,_=>[]
 |_,[]=>[]
 |f+1,a::l=>jn gen ((a::l).take 6)::iV gen f ((a::l).drop 6)
def iW (gen:Int) (l:List b2):List aV:=iV gen l.length l
def gF (s:df):ag×df:=(⟨(rdNum 2 s).1,(rdNum 4 (rdNum 2 s).2).1⟩,(rdNum 4 (rdNum 2 s).2).2)
def hP (s:df):b2×df:=
 let a:=rdNum 1 s
 let b:=rdNum 1 a.2
 let p:=gF b.2
 ((⟨a.1,b.1,[]⟩,p.1),p.2)
def n5:Nat→df→List b2→List b2×df
 |0,s,am=>(am,s)
 |f+1,s,am=>if decide (0<s.1.length)&&!s.2 then n5 f (hP s).2 (am++[(hP s).1])else(am,s)
def idxOf (load:Bs):List b2×df:=n5 load.length (load,false) []
def er (x:aV):Option (List b2):=if x.kind=2∧x.load≠[]then(if(idxOf x.load).2.2=false∧iW x.gen (idxOf x.load).1=[x]then some (idxOf x.load).1 else none)else none
def pJ (gen:Int) (r:dn) (p:List ag):Bool:=gg gen&&decide (p.length≤6)&&pH r.kind&&gg r.id&&gg r.dx&&gg r.base&&gg r.done&&p.all ep
def fA (gen:Int) (r:dn) (p:List ag):aV:=if pJ gen r p then⟨3,gen,le 1 r.kind++bo 4 [r.id,r.dx,r.base,r.done]++le 1 p.length++dg p⟩else hG
def mY:Nat→df→List ag→List ag×df
 |0,s,am=>(am,s)
 |n+1,s,am=>if s.2 then(am,s)else mY n (gF s).2 (am++[(gF s).1])
def jo (s:df):List ag×df:=mY (rdNum 1 s).1.toNat (rdNum 1 s).2 []
def gG (load:Bs):dn×List ag×df:=
 let a:=rdNum 1 (load,false)
 let b:=rdNum 4 a.2
 let c:=rdNum 4 b.2
 let d:=rdNum 4 c.2
 let e:=rdNum 4 d.2
 (⟨a.1,b.1,c.1,d.1,e.1⟩,jo e.2)
def eT (x:aV):Option (dn×List ag):=if x.kind=3∧(gG x.load).2.2.2=false∧fA x.gen (gG x.load).1 (gG x.load).2.1=x then some ((gG x.load).1,(gG x.load).2.1)else none
def pK (gen next id:Int) (p:List ag):Bool:=gg gen&&gg next&&gg id&&decide (p.length≤7)&&p.all ep
def gh (gen next id:Int) (p:List ag):aV:=if pK gen next id p then⟨4,gen,bo 4 [next,id]++le 1 p.length++dg p⟩else hG
def ek (load:Bs):Int×Int×List ag×df:=
 let a:=rdNum 4 (load,false)
 let b:=rdNum 4 a.2
 (a.1,b.1,jo b.2)
def dX (x:aV):Option (Int×Int×List ag):=if x.kind=4∧(ek x.load).2.2.2.2=false∧gh x.gen (ek x.load).1 (ek x.load).2.1 (ek x.load).2.2.1=x then some ((ek x.load).1,(ek x.load).2.1,(ek x.load).2.2.1)else none
def kJ (ino:Int):Nat→Int→Bs→List bH
 |0,_,_=>[]
 |f+1,idx,b=>if b=[]then[]else⟨ino,idx,b.take 40⟩::kJ ino f (idx+1) (b.drop 40)
def lS (ino:Int) (n:cM):List bH:=if n.kind=0 then[]else⟨ino,0,[bS n.kind,bS n.mode,bS n.body.length]⟩::kJ ino n.body.length 1 n.body
def hQ:Int→List cM→List bH
 |_,[]=>[]
 |i,n::r=>lS i n++hQ (i+1) r
def cn (t:an):List bH:=if bL t then hQ 1 t else[]
def fB (t:an) (r:bH):Option an:=
 if r.ino<1∨9<r.ino then none
 else if r.idx=0 then(if r.load.length=3 then some (fO t r.ino {nodeAt t r.ino with kind:=((r.load[0]?).getD 0).toNat,mode:=((r.load[1]?).getD 0).toNat})else none)
 else some (fO t r.ino {nodeAt t r.ino with body:=(nodeAt t r.ino).body++r.load})
def jV:an→List bH→Option an
 |t,[]=>some t
 |t,r::l=>match fB t r with|none=>none|some t'=>jV t' l
def fh (l:List bH):Option an:=match jV (List.replicate 9 ff) l with
 |none=>none
 |some t=>if bL t&&decide (cn t=l)then some t else none
def b7 (d:ay) (addr gen:Int):Option aV:=if(d.read addr).2 then(match hJ (d.read addr).1 with
 |none=>none
 |some x=>if 0≤gen∧x.gen≠gen then none else some x)else none
def rb (d:ay):List b2→List bH→Option (List bH)
 |[],am=>some am
 |i::l,am=>match(b7 d i.2.addr i.2.gen).bind fP with
  |none=>none
  |some r=>if r.ino≠i.1.ino∨r.idx≠i.1.idx then none else rb d l (am++[r])
def gH (d:ay):List ag→List b2→List bH→Option (List b2×List bH)
 |[],ao,dp=>some (ao,dp)
 |q::r,ao,dp=>match(b7 d q.addr q.gen).bind er with
  |none=>none
  |some l=>match rb d l dp with
   |none=>none
   |some ID=>gH d r (ao++l) ID
structure jW where
 root:dn
 ao:List b2
 tree:an
structure oa where
 next:Int
 id:Int
 trees:List jW
 all:List ag
def u4 (d:ay) (p:ag):Option (jW×List ag):=match(b7 d p.addr p.gen).bind eT with
 |none=>none
 |some (r,q)=>match gH d q [] []with
  |none=>none
  |some (ao,dp)=>match fh dp with
   |none=>none
   |some t=>some (⟨r,ao,t⟩,q++ao.map (·.2))
def mZ (d:ay):List ag→oa→Option oa
 |[],s=>some s
 |p::r,s=>match u4 d p with
  |none=>none
  |some (x,l)=>mZ d r {s with trees:=s.trees++[x],all:=s.all++l}
def look (d:ay) (sum:Int):Option oa:=match b7 d sum (-1)with
 |none=>none
 |some x=>match dX x with
  |none=>none
  |some (next,id,p)=>mZ d p ⟨next,id,[],⟨sum,x.gen⟩::p⟩
def dq (p:ag):List ag→List ag
 |[]=>[p]
 |a::l=>if a.addr=p.addr then a::l else if p.addr<a.addr then p::a::l else a::dq p l
def xB (l:List ag):List ag:=l.foldl (fun out p=>dq p out) []
def blocks (d:ay) (sum:Int):Option (List ag):=(look d sum).map (fun s=>xB s.all)
end Go.Ev
namespace Go.Ev
namespace S
variable{F:Nat→Option aN} {K:KX} {E:Env} {O:Fz} {R:List Ob} {Q:bB} {rs:List Op} {d:Nat} {g:Option (Pa×Bool)}
theorem T6 {n:Nat} {x:Od} {p:V} {u xs l:List V} (hn:SA F K rs E O R Q) (hd:lk d E=some (.agg u):=by rfl) (hx:ax E x p:=by exact .t rfl) (hp:EP O p xs:=by assumption) (hl:xs.take n=l:=by rfl) (h1:l.length=n:=by rfl) (hs:same (.agg u) (.agg l)=true:=by simp[aq,bw,br,dW,aH,same,cm,V.cells,fv,hB,mU]) (hw:az E g .yes:=by first|exact .none|exact .yes rfl):
 SR F K (.cf ⟨some (pa d),bY (some n) x,g⟩::Op.aI rs) E O R Q:=fun W h sh=>ad.F8 hw hd hx (hp.cl hl h1 sh) hs (S.r hn W h sh)
theorem gi {z l sd:List V} {n:Nat} {ps:List (Nat×Nat×Od)} {a:Pa} (i:Nat) (hn:SA F K rs E O R Q) (hd:lk d E=some (.sl a 0 n (.ex n)):=by rfl) (hi:R[i]? =some (some a,.cells l false):=by rfl) (hf:uR E ps z=some (l,sd):=by rfl) (d3:aY sd=true:=by first|rfl|simp[aY,V.cells,lH,pC,mR,uS,uT,pD,uU,uV, *]) (hs:aY l=true:=by first|rfl|simp[aY,V.cells,lH,pC,mR,uS,uT,pD,uU,uV, *]) (hm:cm l l=true:=by simp[cm,fv,hB,mU]) (hw:az E g .yes:=by first|exact .none|exact .yes rfl):
 SR F K (.cf ⟨some (pa d),aG z n ps,g⟩::Op.aI rs) E O R Q:=fun W h sh=>ad.To hw hd (zo hf d3) hs (sh.hC hi) hm (S.r hn W h sh)
theorem Mw {f:T V→Hp→Option V} {v:V} (hf:∀W h,SH O h (R++W)→∀e,ch e E→f e h=some v) (hn:SA F K rs E O R Q) (hd:lk d E=some v:=by rfl) (hs:same v v=true:=by first|rfl|exact Gp _ _|exact Gq _|exact mU _|exact FS.same (by assumption)) (hw:az E g .yes:=by first|exact .none|exact .yes rfl):
 SR F K (.cf ⟨some (pa d),.pu f,g⟩::Op.aI rs) E O R Q:=fun W h sh=>WR.cf (fun e he=>by
 simp only[lu,hw e he];rw[he d _ hd];simp only[hf W h sh e he,hs]) (S.r hn W h sh)
theorem jq {z:List V} {a:Pa} {l:List V} (i:Nat) (hn:SA F K rs E O R Q) (hd:lk d E=some (.ptr a 0):=by rfl) (hi:R[i]? =some (some a,.cells l false):=by rfl) (hm:cm z l=true:=by first|rfl|simp[cm,fv,hB,mU]) (hw:az E g .yes:=by first|exact .none|exact .yes rfl):
 SR F K (.cf ⟨some (pa d),ar z,g⟩::Op.aI rs) E O R Q:=fun W h sh=>WR.cf (fun e he=>by
 have ni:same (.ptr a 0) (.ptr a 0)=true:=by
  show(a.beq a&&Nat.beq 0 0)=true;rw[(Pa.beq_iff a a).2 rfl];(try rfl)
 simp only[lu,hw e he,ar];rw[he d _ hd];simp only[qG,sh.hC hi,ni,E7];exact hm) (S.r hn W h sh)
theorem T7 {x:Od} {b:UInt8} (hn:SA F K rs E O R Q) (hx:ax E x (c5 b):=by exact .t rfl) (hd:lk d E=some (.int .i64 (b.toNat:Int)):=by rfl) (hw:az E g .yes:=by first|exact .none|exact .yes rfl):SR F K (.cf ⟨some (pa d),cH .i64 x,g⟩::Op.aI rs) E O R Q:=
 Mw (fun _ _ _ e he=>by
  rw[show x.ev e=.int .u8 (b.toNat:Int)from hx e he];exact congrArg (fun z=>some (V.int .i64 z)) (Mg b)) hn hd (Gp _ _) hw
theorem Mx {s:Nat} {x:Od} {lo hi mx:Option Od} {a v:V} {kU b8 p5:Option V} (hv:ef s a kU b8 p5=some v) (hs:same v v=true) (hn:SA F K rs E O R Q) (hd:lk d E=some v:=by rfl) (hx:ax E x a:=by first|exact .t rfl|exact .c) (I:jl E lo kU:=by first|exact .none|exact .some (.t rfl)|exact .some .c) (J:jl E hi b8:=by first|exact .none|exact .some (.t rfl)|exact .some .c) (h3:jl E mx p5:=by first|exact .none|exact .some (.t rfl)|exact .some .c) (hw:az E g .yes:=by first|exact .none|exact .yes rfl):
 SR F K (.cf ⟨some (pa d),eE s x lo hi mx,g⟩::Op.aI rs) E O R Q:=
 Mw (fun _ _ _ e he=>by simp only[hx e he,I e he,J e he,h3 e he,hv];cases p5<;>rfl) hn hd hs hw
theorem na [gd K] {U:Type} {e:bI U} {w:V} {l:List U} {s:Option Pa} {n:Nat} {xs:List Od} {vs:List V} {Rt:V→List Ob→Prop} (i:Nat) (ho:ae e w l s) (hc:∀ψ,O.Le ψ→aa e ψ w l→ai F n vs ψ [] (fun r Ph O'=>Ph=ψ∧Rt r O') never) (hn:∀v O',Rt v O'→SA F K rs ((d,v)::E) O (O'++R.eraseIdx i) Q) (hi:R[i]? =some (e.ob s l):=by rfl) (hx:kD E xs=some vs:=by rfl) (hw:az E g .yes:=by first|exact .none|exact .yes rfl):
 SR F K (.op ⟨some (pa d),aC n xs,g⟩::Op.aI rs) E O R Q:=fun W h sh=>by
 obtain⟨ψ,O1,l1,s1,f1,rfl⟩:∃ψ O1,O.Le ψ∧SH ψ h (O1++W)∧aa e ψ w l∧O1=R.eraseIdx i:=by
  obtain⟨ψ,O1,l1,s1,I⟩:=Fin.bR (P:=fun ψ O1=>aa e ψ w l∧O1=R.eraseIdx i) i hi ho (fun ψ I J=>.done ⟨J,rfl⟩) W h sh;exact⟨ψ,O1,l1,s1,I⟩
 rcases hc ψ l1 f1 (R.eraseIdx i++W) h (by simpa using s1)with⟨v,h',I,Ph,O',J,h3,rfl,h4⟩|⟨_,_,_,_,_,_,_,h⟩
 ·exact ad.call hw (nV hx) I (S.r (hn v O' h4) W h' (by rw[KK];exact h3.less l1))
 ·exact h.elim
theorem L9 [gd K] {U:Type} {e:bI U} {w u:V} {l:List U} {s:Option Pa} {n:Nat} {xs:List Od} {vs:List V} (i:Nat) (ho:ae e w l s) (hc:∀ψ,O.Le ψ→aa e ψ w l→bk F n vs ψ u) (hn:SA F K rs ((d,u)::E) O R Q) (hi:R[i]? =some (e.ob s l):=by rfl) (hx:kD E xs=some vs:=by rfl) (hw:az E g .yes:=by first|exact .none|exact .yes rfl):
 SR F K (.op ⟨some (pa d),aC n xs,g⟩::Op.aI rs) E O R Q:=afd (bk.L9 i hi ho hc) (fun _ _ _ _ ⟨I,J,h3⟩=>by subst I;subst J;subst h3;exact hn) hx hw
theorem tb {j:IntKind} {x:Od} {n:Int} (hn:SA F K rs ((d,c5 (bS n))::E) O R Q) (hx:ax E x (.int j n):=by first|exact .t rfl|exact .c) (hw:az E g .yes:=by first|exact .none|exact .yes rfl):
 SR F K (.op ⟨some (pa d),cH .u8 x,g⟩::Op.aI rs) E O R Q:=qV (by rw[Gr];exact hn) hx hw
end S
namespace G
variable{F:Nat→Option aN} {K:KX} {E:Env} {O:Fz} {R:List Ob} {Q:bB} {rs:List Op} {d:Nat} {g:Option (Pa×Bool)} {b:Bool}
theorem dy {n:Nat} {x:Od} {a:Pa} {o:Nat} {u l:List V} {cs:List V} (i:Nat) (hn:SA F K rs E O R Q) (hd:lk d E=some (gv b (.agg u)):=by rfl) (hg:Gd E g b:=by first|exact .y rfl|exact .n rfl|exact .yg rfl|exact .ng rfl) (hx:dM E x b (.ptr a o):=by first|exact .g rfl|exact .gl rfl|exact .u (.t rfl)) (hi:R[i]? =some (some a,.cells cs false):=by rfl) (hl:(cs.drop o).take n=l:=by rfl) (h1:l.length=n:=by rfl) (hs:same (.agg u) (.agg l)=true:=by simp[aq,bw,br,dW,aH,same,cm,V.cells,fv,hB,mU]):
 SR F K (.cf ⟨some (pa d),bY (some n) x,g⟩::Op.aI rs) E O R Q:=by
 cases b with
 |true=>exact S.dy i hn hd (hx rfl) hi hl h1 hs hg
 |false=>exact S.F7 hg hd hn
theorem call [gd K] {n:Nat} {xs:List Od} {vs:List V} {Rt:V→Fz→List Ob→Prop} (hc:b=true→ai F n vs O [] (fun r ψ R=>R=[]∧Rt r ψ R) never) (hn:∀v ψ,O.Le ψ→(b=true→Rt v ψ [])→SA F K rs ((d,gv b v)::E) ψ R Q) (hg:Gd E g b:=by first|exact .y rfl|exact .n rfl|exact .yg rfl|exact .ng rfl) (hx:uY E b xs vs:=by repeat(first|exact .nil|refine .cons (.g rfl) ?_|refine .cons (.gl rfl) ?_|refine .cons (.u (.t rfl)) ?_|refine .cons (.u .c) ?_)):SR F K (.op ⟨some (pa d),aC n xs,g⟩::Op.aI rs) E O R Q:=by
 cases b with
 |false=>exact S.no hg (hn dm O (.refl O) (fun h=>by cases h))
 |true=>
  intro W h sh;rcases hc rfl (R++W) h (by simpa using sh)with⟨v,h',I,ψ,O',J,h3,rfl,h4⟩|⟨_,_,_,_,_,_,_,h⟩
  ·exact WR.up J (ad.call hg (hx.is rfl) I (S.r (hn v ψ J (fun _=>h4)) W h' (by simpa using h3)))
  ·exact h.elim
end G
theorem T8 (a b:aV):a=b↔a.kind=b.kind∧a.gen=b.gen∧a.load=b.load:=⟨fun h=>by subst h;exact⟨rfl,rfl,rfl⟩,fun⟨I,J,h3⟩=>by cases a;cases b;simp_all⟩
theorem u5 (a b:aV):cg .neq (.agg [(0,.i),(1,.i),(2,.s)]) (.agg (bw.f a)) (.agg (bw.f b))=some (.bool (!decide (a=b))):=by
 have h:=F9 a.kind a.gen b.kind b.gen a.load b.load;rw[show decide (a=b)=decide (a.kind=b.kind∧a.gen=b.gen∧a.load=b.load)from decide_eq_decide.2 (T8 a b)];exact h
theorem aje (a b:bH):a=b↔a.ino=b.ino∧a.idx=b.idx∧a.load=b.load:=⟨fun h=>by subst h;exact⟨rfl,rfl,rfl⟩,fun⟨I,J,h3⟩=>by cases a;cases b;simp_all⟩
theorem T9 (a b:bH):cg .neq (.agg [(0,.i),(1,.i),(2,.s)]) (.agg (br.f a)) (.agg (br.f b))=some (.bool (!decide (a=b))):=by
 have h:=F9 a.ino a.idx b.ino b.idx a.load b.load;rw[show decide (a=b)=decide (a.ino=b.ino∧a.idx=b.idx∧a.load=b.load)from decide_eq_decide.2 (aje a b)];exact h
theorem ajf (k g k' g':Int):cg .neq (.agg [(0,.i),(1,.i)]) (.agg [.int .i64 k,.int .i64 g]) (.agg [.int .i64 k',.int .i64 g'])=some (.bool (!decide (k=k'∧g=g'))):=by
 show(pj [V.int .i64 k,.int .i64 g] [.int .i64 k',.int .i64 g'] [(0,.i),(1,.i)]).map (fun b=>V.bool (!b))=_;have hk:cW .i64 .i64=true:=rfl;have n0:∀(a b:V),nth [a,b] 0=some a:=fun _ _=>rfl;have n1:∀(a b:V),nth [a,b] 1=some b:=fun _ _=>rfl;simp only[pj,n0,n1,fq,hk,E7,ki];by_cases I:k=k'
 ·have e1:(k==k')=true:=by simpa using I
  by_cases J:g=g'
  ·have e2:(g==g')=true:=by simpa using J
   rw[e1,e2];simp[I,J]
  ·have e2:(g==g')=false:=by simpa using J
   rw[e1,e2];simp[J]
 ·have e1:(k==k')=false:=by simpa using I
  rw[e1];simp[I]
theorem ajg (a b:ag):a=b↔a.addr=b.addr∧a.gen=b.gen:=⟨fun h=>by subst h;exact⟨rfl,rfl⟩,fun⟨I,J⟩=>by cases a;cases b;simp_all⟩
theorem My (a b:ag):cg .neq (.agg [(0,.i),(1,.i)]) (.agg (aq.f a)) (.agg (aq.f b))=some (.bool (!decide (a=b))):=by
 have h:=ajf a.addr a.gen b.addr b.gen;rw[show decide (a=b)=decide (a.addr=b.addr∧a.gen=b.gen)from decide_eq_decide.2 (ajg a b)];exact h
theorem CT {q:cV} {a m:Nat} (hm:0<m) (ha:a≤9223372036854775807):cg .quo q (.int .i64 (a:Int)) (.int .i64 (m:Int))=some (.int .i64 ((a/m:Nat):Int)):=by
 show(bif cW .i64 .i64 then(bif iw (m:Int) 0 then none else some (V.int .i64 (e6 .i64 ((a:Int).tdiv (m:Int)))))else none)=_;have J:iw (m:Int) 0=false:=by rw[ki];simp;omega
 rw[show cW .i64 .i64=true from rfl,J,E7,KL];have:(a:Int).tdiv (m:Int)=((a/m:Nat):Int):=rfl;rw[this,F4 .i64 (show a/m≤9223372036854775807 by have:=Nat.div_le_self a m;omega)]
theorem Ua (p:ag):(q5 p).length=6:=by simp[q5,hD]
theorem CU (l:List ag):(dg l).length=6*l.length:=by
 induction l with
 |nil=>rfl
 |cons a l ih=>simp only[dg,arN,amv,Ua,WW]at*;rw[ih];omega
theorem Mz {l:List ag} {j:Nat} (hj:j<l.length):dg (l.take (j+1))=dg (l.take j)++q5 l[j]:=by
 rw[aqd hj,dg,List.flatMap_append];simp[dg]
theorem MA (l:List b2):(hO l).length=8*l.length:=by
 induction l with
 |nil=>rfl
 |cons a l ih=>simp only[hO,zB,arN,amv,Ua,hD,WW]at*;rw[ih];omega
theorem ajh {l:List b2} {j:Nat} (hj:j<l.length):hO (l.take (j+1))=hO (l.take j)++zB l[j]:=by
 rw[aqd hj,hO,List.flatMap_append];simp[hO]
theorem dY (n:Nat) (s:df):(rdNum n s).2.1.length≤s.1.length:=by unfold rdNum;split<;>simp
end Go.Ev
