/- A part of the proof of glacislaw13.LiveAll (made short by a program). -/
import Derived.Test.YtmglhbclhfgmaaaGreatDoorVH
namespace Go.Ev
variable{F:Nat→Option aN} {O:Fz}
theorem aji (s:df):0≤(rdNum 1 s).1∧(rdNum 1 s).1≤255:=by
 unfold rdNum;split
 ·simp
 ·unfold cF;split
  ·simp
  ·rename_i J;have hl:(s.1.take 1).length=1:=by rw[ab7];omega
   obtain⟨b,hb⟩:=List.length_eq_one_iff.1 hl;rw[hb];have:=b.toNat_lt;simp[ej];omega
theorem Gz {n:Nat} {s:df} (h:(rdNum n s).2.2=false):s.2=false∧n≤s.1.length∧(rdNum n s).2.1=s.1.drop n:=by
 unfold rdNum at h⊢;split at h
 ·cases h
 ·rename_i I;rw[pg I];simp only[amt,not_or,Bool.not_eq_true,apR]at I;refine⟨I.1,?_,rfl⟩;have J:=I.2;unfold cF at J;split at J
  ·simp at J
  ·omega
theorem od [Fx F] {n:Int}:bk F 95 [.j n] O (.bool (gg n)):=by
 refine ai.ak (au ?_);refine S.bin ?_;refine G.mv ?_;refine G.bin ?_;refine G.and ?_;refine⟨_,.t rfl .nil,.done ?_⟩;rfl
theorem MB [Fx F] {p:ag}:bk F 98 [.agg [.j p.addr,.j p.gen]] O (.bool (ep p)):=by
 refine ai.ak (au ?_);refine S.box fun bs=>?_;refine S.ld 0 ?_;refine S.bin ?_;refine G.aE ?_;refine G.ld 0 ?_;refine G.bin ?_;refine G.and ?_;refine G.aE ?_;refine G.ld 0 ?_;refine G.ak (fun _=>od) ?_;refine G.and ?_;refine⟨_,.t rfl .nil,.done ?_⟩;rfl
theorem MC [Fx F] {bC:V} {b:Bs} {p:ag} (cj:aa aQ O bC b) (hb:b.length≤900000):
 ai F 99 [bC,.agg [.j p.addr,.j p.gen]] O [] (fun r ψ R=>ψ=O∧∃s,R=[aQ.ob s (b++q5 p)]∧ae aQ r (b++q5 p) s) never:=by
 refine ai.same (au ?_);refine S.box fun a3=>?_;refine S.ld 0 ?_;refine S.ld 0 ?_;refine S.call (q0 (n:=2) (x:=p.addr) cj (by omega) (by omega) (by omega)) fun v8 Zo Zp Zq h8=>?_;obtain⟨rfl,s8,rfl,o8⟩:=h8;refine S.bF 1 ?_;refine S.na 0 o8 (fun ψ _ hf=>q0 (n:=4) (x:=p.gen) hf (by omega) (by omega) (by simp[hD];omega)) fun p9 AB dB=>?_;obtain⟨AC,rfl,vL⟩:=dB;rw[KK]at vL⊢;exact⟨_,.t rfl .nil,.only 0 ⟨AC,rfl,vL⟩⟩
theorem Ub [Fx F] {r:bH} {gen:Int}:bk F 101 [.j gen,.agg [.j r.ino,.j r.idx,.str r.load]] O (.agg (bw.f (im gen r))):=by
 refine ai.ak (au ?_);refine S.box fun a3=>?_;refine S.alloc fun a4=>?_;refine S.ak (od) ?_;refine S.un ?_;refine G.aE ?_;refine G.ld 1 ?_;refine G.bin ?_;refine G.or ?_;refine G.aE ?_;refine G.ld 1 ?_;refine G.bin ?_;refine G.or ?_;refine G.aE ?_;refine G.ld 1 ?_;refine G.bin ?_;refine G.or ?_;refine G.aE ?_;refine G.ld 1 ?_;refine G.bin ?_;refine G.or ?_;refine G.aE ?_;refine G.ld 1 ?_;refine G.cD ?_;refine G.bin ?_;refine G.or ?_;refine C.B (fun mu=>?_) fun mu=>?_
 ·have e:im gen r=hG:=by
   unfold im;rw[pg];intro h;unfold CS pH at h;simp only[G7,G6]at h;rw[h.1.1.1]at mu;simp only[aqR,aqu,amt,G6]at mu;omega
  rw[e];refine S.build ?_;refine S.store 0 ?_;exact⟨_,.cN 0 rfl rfl rfl rfl .nil,.none rfl⟩
 ·simp only[W0,apR,NI]at mu;have e:im gen r=⟨1,gen,[bS r.ino,bS r.idx]++r.load⟩:=by
   unfold im;rw[B4];unfold CS pH;simp only[G7,G6];exact⟨⟨⟨mu.1.1.1.1.1,by omega⟩,by omega⟩,by omega⟩
  rw[e];refine S.ld 1 ?_;refine S.tb ?_;refine S.ld 1 ?_;refine S.tb ?_;refine S.zt (e:=aQ) [bS r.ino,bS r.idx] fun x5 A3 D6 oX=>?_;refine S.Gt oX ?_;refine S.ld 1 ?_;refine S.bin ?_ (hv:=sS (by simp;omega));refine S.build ?_;refine S.store 0 ?_;exact⟨_,.cN 0 rfl rfl rfl rfl .nil,.none rfl⟩
def MD:Option bH→bH×Bool
 |some r=>(r,true)
 |none=>(⟨0,0,[]⟩,false)
theorem ajj [Fx F] {x:aV} (hx:x.load.length≤1000000):bk F 60 [.agg [.j x.kind,.j x.gen,.str x.load]] O (.aM [.agg (br.f (MD (fP x)).1),.bool (MD (fP x)).2]):=by
 refine ai.ak (au ?_);refine S.box fun bs=>?_;refine S.alloc fun a2=>?_;refine S.ld 1 ?_;refine S.bin ?_;refine G.aE ?_;refine G.ld 1 ?_;refine G.cD ?_;refine G.bin ?_;refine G.or ?_;refine C.B (fun eM=>?_) fun eM=>?_
 ·have e:fP x=none:=by
   unfold fP;simp only[amt,apH,G6,NI]at eM;exact pg (by omega)
  rw[e];refine S.build ?_;refine S.store 0 ?_;exact⟨_,.cN 0 rfl rfl rfl rfl (.t rfl .nil),.none rfl⟩
 ·simp only[W0,apR,G6,NI]at eM;have h0:x.load[0]? =some x.load[0]:=KJ (by omega);have I:x.load[1]? =some x.load[1]:=KJ (by omega);have AH:ra x=⟨(x.load[0]).toNat,(x.load[1]).toNat,x.load.drop 2⟩:=by unfold ra;rw[h0,I];(try rfl)
  refine S.ld 1 ?_;refine S.iS h0 ?_;refine S.lK ?_;refine S.ld 1 ?_;refine S.iS I ?_;refine S.lK ?_;refine S.ld 1 ?_;refine S.je (ain (s:=x.load) (i:=2) (by omega)) ?_;refine S.build ?_;refine S.alloc fun a4=>?_;refine S.store 0 ?_;refine S.ld 2 ?_;refine S.af 0 ?_;refine S.af 2 ?_;refine S.ak (Ub (r:=ra x)) ?_ (hx:=by rw[AH];(try rfl));refine S.dy 2 ?_;refine S.bin ?_ (hv:=u5 (im x.gen (ra x)) x);refine C.B (fun eA=>?_) fun eA=>?_
  ·have e:fP x=none:=by
    unfold fP;rw[B4 ⟨by omega,by omega⟩,pg (by simpa using eA)]
   rw[e];refine S.build ?_;refine S.store 1 ?_;exact⟨_,.cN 1 rfl rfl rfl rfl (.t rfl .nil),.none rfl⟩
  ·have e:fP x=some (ra x):=by
    unfold fP;rw[B4 ⟨by omega,by omega⟩,B4 (by simpa using eA)]
   rw[e,AH];refine S.af 0 ?_;refine S.store 1 ?_;exact⟨_,.cN 1 rfl rfl rfl rfl (.t rfl .nil),.none rfl⟩
theorem GA {gen:Int} {f:Nat} {l:List b2} (h:l≠[]):iV gen (f+1) l=jn gen (l.take 6)::iV gen f (l.drop 6):=by
 cases l with
 |nil=>exact absurd rfl h
 |cons a l=>rfl
theorem GB {gen:Int} {f:Nat}:iV gen f []=[]:=by cases f<;>rfl
theorem Uc [Fx F] {gen:Int} {rv pv:V} {rl:List bH} {pl:List ag} (hr:aa br O rv rl) (hp:aa aq O pv pl) (hlen:rl.length≤1000000):
 ai F 100 [.j gen,rv,pv] O [] (fun r ψ R=>ψ=O∧∃s,R=[bw.ob s (iW gen (rl.zip pl))]∧ae bw r (iW gen (rl.zip pl)) s) never:=by
 obtain⟨ao,wh⟩:∃ao,ao=rl.zip pl:=⟨_,rfl⟩
 rw[←wh];have i1:ao.length≤rl.length∧ao.length≤pl.length:=by rw[wh,arP];omega
 have yo:ao.length=min rl.length pl.length:=by rw[wh,arP]
 have vp:∀i (h:i<ao.length),rl[i]? =some (ao[i]).1∧pl[i]? =some (ao[i]).2:=fun i h=>by subst wh;rw[List.getElem_zip];exact⟨KJ _,KJ _⟩
 refine ai.same (au ?_);refine SW.new bw ?_;refine SW.bG (fun m E ψ R=>∃(j:Nat) (out:List aV) (v:V) (s:Option Pa),out++iV gen m (ao.drop j)=iW gen ao∧(ao.drop j).length≤m∧j≤ao.length+6∧out.length+m≤ao.length∧O=ψ∧R=[bw.ob s out]∧ae bw v out s∧Sub [(0,.j gen),(1,rv),(2,pv),(7,v),(8,.j (j:Int))] E) (m:=ao.length) (.done ⟨0,[],.no .sl,none,rfl,by simp,by omega,by simp,rfl,rfl,ae.nil,.r rfl⟩) ?_;intro m0 E ψ R ac hI;obtain⟨j,out,v,s,ab,fW,IE,dC,rfl,rfl,ho,hE⟩:=hI;refine C.sub hE ?_;refine S.len ?_;refine S.bin ?_;refine G.mv ?_;refine G.mv ?_;refine G.len ?_;refine G.bin ?_;refine G.and ?_;refine C.B (fun d5=>?_) fun d5=>?_
 ·simp only[G7,G6]at d5;have hj:j<ao.length:=by omega
  obtain⟨m1,rfl⟩:∃m1,m0=m1+1:=⟨m0-1,by rw[Rn]at fW;omega⟩
  rw[GA (by intro h;rw[List.drop_eq_nil_iff]at h;omega),aq6]at ab;refine S.ak (od) ?_;refine SW.new aQ ?_;refine SW.bG (fun m E ψ R=>∃(q:Nat) (w:V) (sw:Option Pa),q+m=6∧j+q≤ao.length∧O=ψ∧R=[aQ.ob sw (hO ((ao.drop j).take q)),bw.ob s out]∧ae aQ w (hO ((ao.drop j).take q)) sw∧Sub [(0,.j gen),(1,rv),(2,pv),(7,v),(8,.j (j:Int)),(9,w),(10,.bool (gg gen&&((ao.drop j).take q).all pI)),(11,.j ((j+q:Nat):Int))] E) (m:=6) (.done ⟨0,.no .sl,none,rfl,by omega,rfl,rfl,ae.nil,.cons rfl (.cons rfl (.cons rfl (.cons rfl (.cons rfl (.cons rfl (.cons (by rw[aq5,arB,aqK];(try rfl)) (.r rfl)))))))⟩) ?_;intro m2 E ψ R ac hI;obtain⟨q,w,sw,hq,hjq,rfl,rfl,hw,hE⟩:=hI;refine C.sub hE ?_;refine S.len ?_;refine S.bin ?_;refine G.mv ?_;refine G.mv ?_;refine G.len ?_;refine G.bin ?_;refine G.and ?_;refine G.mv ?_;refine G.mv ?_;refine G.bin ?_;refine G.bin ?_;refine G.and ?_;refine C.B (fun fD=>?_) fun fD=>?_
  ·simp only[G7,G6]at fD;have Zr:j+q<ao.length:=by omega
   obtain⟨g1,g2⟩:=vp (j+q) Zr;obtain⟨it,dj⟩:∃it,it=ao[j+q]:=⟨_,rfl⟩
   rw[←dj]at g1 g2;obtain⟨l8,A4⟩:=ap1.1 g1;obtain⟨A5,IF⟩:=ap1.1 g2;have eX:(ao.drop j).take (q+1)=(ao.drop j).take q++[it]:=by
    rw[aqd (by rw[Rn];omega),dj];simp
   refine G.mv ?_;refine G.mv ?_;refine G.aF hr (z:=it.1) fun Pi D7=>?_;refine G.bl D7 fun Zs Zt=>?_;refine G.aX ?_;refine G.bin ?_;refine G.and ?_;refine G.mv ?_;refine G.mv ?_;refine G.aF hr (z:=it.1) fun Zu x1=>?_;refine G.bl x1 fun Zv Zw=>?_;refine G.aX ?_;refine G.bin ?_;refine G.and ?_;refine G.mv ?_;refine G.mv ?_;refine G.aF hr (z:=it.1) fun OM Ib=>?_;refine G.bl Ib fun p67 e67=>?_;refine G.aX ?_;refine G.bin ?_;refine G.and ?_;refine G.mv ?_;refine G.mv ?_;refine G.aF hr (z:=it.1) fun Zx Pj=>?_;refine G.bl Pj fun p75 e75=>?_;refine G.aX ?_;refine G.bin ?_;refine G.and ?_;refine G.mv ?_;refine G.mv ?_;refine G.aF hp (z:=it.2) fun p82 e82=>?_;refine G.bP ?_;refine G.ak (fun _=>MB (p:=it.2)) ?_;refine G.and ?_;refine S.aF hr l8 fun p89 Pk=>?_;rw[A4]at Pk;refine S.bl Pk fun p90 e90=>?_;refine S.aX ?_;refine S.aF hr l8 fun p95 Pl=>?_;rw[A4]at Pl;refine S.bl Pl fun p96 e96=>?_;refine S.aX ?_;refine S.aF hp A5 fun Zy IG=>?_;rw[IF]at IG;refine S.bP ?_;have IH:(hO ((ao.drop j).take q)).length≤48:=by rw[MA,ab7];omega
   refine S.na 0 hw (fun ψ _ hf=>q0 (n:=1) (x:=it.1.ino) hf (by omega) (by omega) (by omega)) fun Zh Zi A2=>?_;obtain⟨s92,rfl,Zz⟩:=A2;refine S.T6 ?_;refine S.CL ?_;refine S.na 0 Zz (fun ψ _ hf=>q0 (n:=1) (x:=it.1.idx) hf (by omega) (by omega) (by simp[hD];omega)) fun v98 O98 ZA=>?_;obtain⟨s98,rfl,ZB⟩:=ZA;refine S.T6 ?_;refine S.na 0 ZB (fun ψ _ hf=>MC (p:=it.2) hf (by simp[hD];omega)) fun A6 ZC II=>?_;obtain⟨D8,rfl,yp⟩:=II;have zY:hO ((ao.drop j).take q)++le 1 it.1.ino++le 1 it.1.idx++q5 it.2=hO ((ao.drop j).take (q+1)):=by rw[eX,hO,hO,List.flatMap_append];simp[zB]
   rw[zY]at yp⊢;refine S.bin ?_;refine⟨m2-1,by omega,.done ⟨q+1,A6,D8,by omega,by omega,rfl,rfl,yp,.cons rfl (.cons rfl (.cons rfl (.cons rfl (.cons rfl (.cons rfl (.cons ?_ (.r rfl)))))))⟩⟩;rw[eX,arQ];show some _=some _;simp[pI,pH,Bool.and_assoc]
  ·simp only[aqs,NI]at fD;have eX:(ao.drop j).take q=(ao.drop j).take 6:=by
    by_cases h6:q=6
    ·rw[h6]
    ·rw[aqz (by rw[Rn];omega),aqz (by rw[Rn];omega)]
   rw[eX]at hw hE⊢;refine S.jS 0 hw ?_;refine S.build ?_;refine S.alloc fun ez=>?_;refine S.store 0 ?_;refine S.un ?_;refine SW.then (fun E ψ R=>O=ψ∧R=[(some ez,.cells (bw.f (jn gen ((ao.drop j).take 6))) false),aQ.ob sw (hO ((ao.drop j).take 6)),bw.ob s out]∧Sub [(0,.j gen),(1,rv),(2,pv),(7,v),(8,.j (j:Int)),(12,.ptr ez 0)] E) ?_ ?_
   ·refine C.B (fun rZ=>?_) fun rZ=>?_
    ·refine S.build ?_;refine S.store 0 ?_;have e:jn gen ((ao.drop j).take 6)=hG:=by unfold jn;exact pg (by intro h;rw[h]at rZ;cases rZ)
     rw[e];exact⟨rfl,rfl,.r rfl⟩
    ·have e:jn gen ((ao.drop j).take 6)=⟨2,gen,hO ((ao.drop j).take 6)⟩:=by unfold jn;exact B4 (by simpa using rZ)
     rw[e];exact⟨rfl,rfl,.r rfl⟩
   intro E ψ R ac hM;obtain⟨rfl,rfl,hE⟩:=hM;refine C.sub hE ?_;refine S.af 0 ?_;refine S.a8 fun anw=>?_;refine S.bu (m:=[jn gen ((ao.drop j).take 6)]) 3 ho (.lit 0) (by simp;omega) fun ZD ZE ZF=>?_;refine S.drop 0 ?_;refine S.drop 0 ?_;refine S.drop 0 ?_;refine S.mv ?_;refine S.bin ?_;refine⟨m1,by omega,.done ⟨j+6,out++[jn gen ((ao.drop j).take 6)],ZD,ZE,by rw[←ab,KK];(try rfl),by rw[Rn]at fW⊢;omega,by omega,by simp;omega,rfl,rfl,ZF,.r rfl⟩⟩
 ·simp only[aqs,NI]at d5;rw[arl (by omega),GB,ap9]at ab;rw[ab]at ho⊢;exact⟨_,.t rfl .nil,.only 0 ⟨s,rfl,ho⟩⟩
theorem ajk {U β:Type} (l:List (U×β)):(l.map (·.1)).zip (l.map (·.2))=l:=by
 induction l with
 |nil=>rfl
 |cons a l ih=>show(a.1,a.2)::(l.map (·.1)).zip (l.map (·.2))=_;rw[ih]
theorem Ud {f:Nat} {s:df} {am:List b2} (h:(decide (0<s.1.length)&&!s.2)=false):n5 f s am=(am,s):=by
 cases f with
 |zero=>rfl
 |succ f=>unfold n5;rw[h];(try rfl)
theorem Ue {s:df} (h:(hP s).2.2=false):(hP s).2.1.length<s.1.length:=by
 unfold hP gF at h⊢;simp only at h⊢;obtain⟨I,J,h3⟩:=Gz h;obtain⟨h4,h5,h6⟩:=Gz I;obtain⟨h7,h8,h9⟩:=Gz h4;obtain⟨dA,dB,cd⟩:=Gz h7;rw[h3,h6,h9,cd]at*;simp only[Rn]at*;omega
theorem Uf (s:df):(hP s).2.1.length≤s.1.length:=by
 unfold hP gF;have I:=dY 1 s;have J:=dY 1 (rdNum 1 s).2;have h3:=dY 2 (rdNum 1 (rdNum 1 s).2).2;have h4:=dY 4 (rdNum 2 (rdNum 1 (rdNum 1 s).2).2).2;simp only;omega
theorem ajl [Fx F] {x:aV} (hx:x.load.length≤1000000):
 ai F 59 [.agg [.j x.kind,.j x.gen,.str x.load]] O [] (fun r ψ R=>R=[]∧∃rv pv,r=.aM [rv,pv,.bool (er x).isSome]∧aa br ψ rv (((er x).getD []).map (·.1))∧aa aq ψ pv (((er x).getD []).map (·.2))) never:=by
 refine au ?_;refine S.box fun bs=>?_;refine S.ld 0 ?_;refine S.bin ?_;refine G.aE ?_;refine G.ld 0 ?_;refine G.cD ?_;refine G.bin ?_;refine G.or ?_;refine C.B (fun cG=>?_) fun cG=>?_
 ·have e:er x=none:=by
   unfold er;rw[pg];intro h;have J:=arL.2 h.2;simp only[amt,apH,G6,NI]at cG;omega
  rw[e];exact⟨_,.t rfl (.t rfl (.t rfl .nil)),.none ⟨rfl,_,_,rfl,aa.nil _,aa.nil _⟩⟩
 ·simp only[W0,apR,G6,NI]at cG;have wi:x.kind=2∧x.load≠[]:=⟨cG.1,by intro h;rw[h]at cG;exact cG.2 rfl⟩
  refine S.ld 0 ?_;refine S.mV fun v22 wj A7 qj=>?_;have w22:=qj.av;refine S.build ?_;refine S.new aq ?_;refine S.new br ?_;refine S.box fun Pm=>?_;refine SW.bG (fun m E ψ R=>∃(s:df) (am:List b2) (w wk wm:V) (sr sp:Option Pa),n5 m s am=idxOf x.load∧(s.2=false→s.1.length≤m)∧s.1.length≤1000000∧am.length+m≤x.load.length∧wj=ψ∧aa aQ wj w s.1∧R=[(some Pm,.cells [w,.bool s.2] false),br.ob sr (am.map (·.1)),aq.ob sp (am.map (·.2)),(some bs,.cells [.j x.kind,.j x.gen,.str x.load] false)]∧ae br wk (am.map (·.1)) sr∧ae aq wm (am.map (·.2)) sp∧Sub [(1,.ptr bs 0),(5,.ptr Pm 0),(6,wk),(7,wm)] E) (m:=x.load.length) (.done ⟨(x.load,false),[],v22,.no .sl,.no .sl,none,none,rfl,fun _=>B5 _,hx,by simp,rfl,qj,rfl,ae.nil,ae.nil,.r rfl⟩) ?_;intro m0 E ψ R ac hI;obtain⟨s,am,w,wk,wm,sr,sp,ab,ni,gQ,oB,rfl,hw,rfl,mc,aS,hE⟩:=hI;refine C.sub hE ?_;refine S.ld 0 ?_;refine S.len ?_ (hl:=aa.len hw);refine S.bin ?_;refine G.mv ?_;refine G.nil? ?_;refine G.aE ?_;refine G.ld 0 ?_;refine G.un ?_;refine G.and ?_;refine C.B (fun kY=>?_) fun kY=>?_
  ·simp only[G7,apH,G6]at kY;have ZG:=ni kY.2;obtain⟨m1,rfl⟩:∃m1,m0=m1+1:=⟨m0-1,by omega⟩
   have aj:n5 (m1+1) s am=n5 m1 (hP s).2 (am++[(hP s).1]):=by
    show(if decide (0<s.1.length)&&!s.2 then _ else _)=_;rw[B4];rw[kY.2];simp;omega
   rw[aj]at ab;have wl:=Uf s;have g1:=dY 1 s;have g2:=dY 1 (rdNum 1 s).2;have l8:=dY 2 (rdNum 1 (rdNum 1 s).2).2;have ZH:=hw.av;refine S.bb 0 rfl (lR (s:=s) (n:=1) hw (by omega) (by omega)) fun v39 yj DX qh g6=>?_;obtain⟨rfl,rfl,w39,rfl,g6⟩:=g6;refine S.build ?_;refine S.alloc fun ew=>?_;refine S.store 0 ?_;refine S.bb 1 rfl (lR (s:=(rdNum 1 s).2) (n:=1) g6 (by omega) (by omega)) fun x5 A3 ZI D6 oX=>?_;obtain⟨rfl,rfl,w42,rfl,oX⟩:=oX;refine S.store 1 ?_;refine S.bb 0 rfl (lR (s:=(rdNum 1 (rdNum 1 s).2).2) (n:=2) oX (by omega) (by omega)) fun v45 anx O45 l45 IJ=>?_;obtain⟨rfl,rfl,w45,rfl,IJ⟩:=IJ;refine S.build ?_;refine S.alloc fun a9=>?_;refine S.store 0 ?_;refine S.bb 1 rfl (lR (s:=(rdNum 2 (rdNum 1 (rdNum 1 s).2).2).2) (n:=4) IJ (by omega) (by omega)) fun AL Pn ZJ Po lb=>?_;obtain⟨rfl,rfl,Pp,rfl,lb⟩:=lb;refine S.store 1 ?_;refine S.af 2 ?_;refine S.a8 fun a52=>?_;refine S.af 2 ?_;refine S.a8 fun Yn=>?_;refine S.bu (m:=[(hP s).1.1]) 5 mc (.lit 1) (by simp;omega) fun v53 ZK ZL=>?_;refine S.gi 0 ?_;refine S.dy 3 ?_;refine S.bu (m:=[(hP s).1.2]) 6 aS (.lit 0) (by simp;omega) fun Pq ZM ZN=>?_;refine S.drop 0 ?_;refine S.drop 0 ?_;refine S.drop 1 ?_;refine S.drop 1 ?_;refine S.mv ?_;refine⟨m1,by omega,.done ⟨(hP s).2,am++[(hP s).1],Pp,v53,Pq,ZK,ZM,ab,fun h=>by have:=Ue h;omega,by omega,by simp;omega,rfl,lb,?_,by rw[amw];exact ZL,by rw[amw];exact ZN,.r rfl⟩⟩;rw[amw,amw];(try rfl)
  ·have ZO:(decide (0<s.1.length)&&!s.2)=false:=by
    rw[show decide (0<s.1.length)=decide ((0:Int)<(s.1.length:Int))from decide_eq_decide.2 (by omega)];exact kY
   rw[Ud ZO]at ab;have rT:am=(idxOf x.load).1:=by rw[←ab]
   have j0:s.2=(idxOf x.load).2.2:=by rw[←ab]
   refine S.ld 3 ?_;refine S.ct 1 mc fun ZP yq hr=>?_;refine S.ct 1 aS fun A8 lp hp=>?_;have hr:=hr.mono lp;refine S.call (Uc (gen:=x.gen) hr hp (by simp;omega)) fun OC anz O62 l62 D9=>?_;obtain⟨rfl,OD,rfl,AI⟩:=D9;rw[ajk]at AI⊢;obtain⟨pi,IK⟩:∃pi,pi=iW x.gen am:=⟨_,rfl⟩
   rw[←IK]at AI⊢;refine S.ct 0 AI fun anA Pr D9=>?_;have hr:=hr.mono Pr;have hp:=hp.mono Pr;refine S.mv ?_;refine S.ld 0 ?_;refine G.mv ?_;refine G.len ?_ (hl:=aa.len D9);refine G.bin ?_;refine G.or ?_;refine G.mv ?_;refine G.aF (j:=0) D9 (z:=(pi[0]?).getD hG) (fun Zx Pj=>?_) (hj:=fun hb=>?_)
   rotate_left
   ·simp only[apH,W0,apR]at hb;rw[KJ (by simp at hb;omega)];(try rfl)
   refine G.bP ?_;refine G.af 1 ?_;refine G.bin ?_ (hv:=fun _=>u5 ((pi[0]?).getD hG) x);refine G.or ?_;refine C.B (fun nF=>?_) fun nF=>?_
   ·have e:er x=none:=by
     unfold er;rw[B4 wi,pg];rintro⟨I,J⟩;rw[←j0]at I;rw[←rT,←IK]at J;rw[I,J]at nF;simp at nF
    rw[e];exact⟨_,.t rfl (.t rfl (.t rfl .nil)),.none ⟨rfl,_,_,rfl,aa.nil _,aa.nil _⟩⟩
   ·have e:er x=some am:=by
     unfold er;rw[B4 wi,B4,←rT];rw[←j0,←rT,←IK];simp only[W0,apR,G6]at nF;obtain⟨⟨I,J⟩,h3⟩:=nF;obtain⟨y,hy⟩:=List.length_eq_one_iff.1 (show pi.length=1 by omega);rw[hy]at h3⊢;exact⟨I,by rw[←h3];(try rfl)⟩
    rw[e];exact⟨_,.t rfl (.t rfl (.t rfl .nil)),.none ⟨rfl,_,_,rfl,hr,hp⟩⟩
theorem Ug {m:Nat} {s:df} {am:List ag} (h:m=0∨s.2=true):mY m s am=(am,s):=by
 cases m with
 |zero=>rfl
 |succ m=>
         rcases h with h|h
         ·omega
         ·show(if s.2=true then _ else _)=_;rw[B4 h]
theorem Uh {m:Nat} {s:df} {am:List ag} (h:s.2=false):mY (m+1) s am=mY m (gF s).2 (am++[(gF s).1]):=by
 show(if s.2=true then _ else _)=_;rw[pg (by rw[h];simp)]
theorem Ui [Fx F] {a:Pa} {bC:V} {s:df} (cj:aa aQ O bC s.1) (hb:s.1.length≤1000000):
 ai F 56 [.ptr a 0] O [(some a,.cells [bC,.bool s.2] false)] (fun r ψ R=>ψ=O∧∃w sp,R=[(some a,.cells [w,.bool (jo s).2.2] false),aq.ob sp (jo s).1]∧aa aQ O w (jo s).2.1∧ae aq r (jo s).1 sp) never:=by
 refine ai.same (au ?_);refine S.new aq ?_;refine S.bb 1 rfl (lR (s:=s) (n:=1) cj (by omega) (by omega)) fun v7 wn O7 A9 h7=>?_;obtain⟨rfl,rfl,w7,rfl,h7⟩:=h7;have m5:=aji s;have d2:=dY 1 s;refine SW.bG (fun m E ψ R=>∃(s1:df) (am:List ag) (w v:V) (sp:Option Pa),mY m s1 am=jo s∧am.length+m≤255∧s1.1.length≤1000000∧aa aQ wn w s1.1∧wn=ψ∧R=[(some a,.cells [w,.bool s1.2] false),aq.ob sp am]∧ae aq v am sp∧Sub [(0,.ptr a 0),(3,v),(4,.j (m:Int))] E) (m:=(rdNum 1 s).1.toNat) (.done ⟨(rdNum 1 s).2,[],w7,.no .sl,none,rfl,by simp;omega,by omega,h7,rfl,rfl,ae.nil,.cons rfl (.cons rfl (.cons (by rw[Int.toNat_of_nonneg m5.1];(try rfl)) (.nil _)))⟩) ?_;intro m0 E ψ R ac hI;obtain⟨s1,am,w,v,sp,ab,oB,gQ,hw,rfl,rfl,ho,hE⟩:=hI;refine C.sub hE ?_;refine S.bin ?_;refine G.mv ?_;refine G.nil? ?_;refine G.aE ?_;refine G.ld 0 ?_;refine G.un ?_;refine G.and ?_;refine C.B (fun d9=>?_) fun d9=>?_
 ·simp only[G7,apH,G6]at d9;obtain⟨m1,rfl⟩:∃m1,m0=m1+1:=⟨m0-1,by omega⟩
  rw[Uh d9.2]at ab;have g1:=dY 2 s1;have g2:=dY 4 (rdNum 2 s1).2;refine S.bb 0 rfl (lR (s:=s1) (n:=2) hw (by omega) (by omega)) fun v20 sb yr se cU=>?_;obtain⟨rfl,rfl,Ba,rfl,cU⟩:=cU;refine S.build ?_;refine S.alloc fun a5=>?_;refine S.store 0 ?_;refine S.bb 1 rfl (lR (s:=(rdNum 2 s1).2) (n:=4) cU (by omega) (by omega)) fun Ea Bb Eb uc eB=>?_;obtain⟨rfl,rfl,IL,rfl,eB⟩:=eB;refine S.store 1 ?_;refine S.af 1 ?_;refine S.a8 fun Ec=>?_;refine S.bu (m:=[(gF s1).1]) 3 ho (.lit 0) (by simp;omega) fun nE IM IN=>?_;refine S.drop 0 ?_;refine S.drop 1 ?_;refine S.mv ?_;refine S.bin ?_ (hv:=Mf (j:=m1+1) (by omega) (by omega));refine⟨m1,by omega,.done ⟨(gF s1).2,am++[(gF s1).1],IL,nE,IM,ab,by simp;omega,(by show(rdNum 4 (rdNum 2 s1).2).2.1.length≤_;omega),eB,rfl,rfl,IN,.r rfl⟩⟩
 ·have aj:m0=0∨s1.2=true:=by
   cases h:s1.2 with
   |true=>exact .inr rfl
   |false=>rw[h]at d9;simp at d9;exact .inl (by omega)
  rw[Ug aj]at ab;rw[←ab];exact⟨_,.t rfl .nil,.done ⟨w,sp,rfl,hw,ho⟩⟩
theorem Uj [Fx F] {r:dn} {gen:Int} {pv:V} {p:List ag} (hp:aa aq O pv p):bk F 58 [.j gen,.agg [.j r.kind,.j r.id,.j r.dx,.j r.base,.j r.done],pv] O (.agg (bw.f (fA gen r p))):=by
 refine ai.ak (au ?_);refine S.box fun a4=>?_;refine S.alloc fun cb=>?_;refine S.ak (od) ?_;refine S.un ?_;refine G.mv ?_;refine G.len ?_ (hl:=aa.len hp);refine G.bin ?_;refine G.or ?_;refine G.aE ?_;refine G.ld 1 ?_;refine G.bin ?_;refine G.or ?_;refine G.aE ?_;refine G.ld 1 ?_;refine G.bin ?_;refine G.or ?_;refine G.aE ?_;refine G.ld 1 ?_;refine G.ak (fun _=>od) ?_;refine G.un ?_;refine G.or ?_;refine G.aE ?_;refine G.ld 1 ?_;refine G.ak (fun _=>od) ?_;refine G.un ?_;refine G.or ?_;refine G.aE ?_;refine G.ld 1 ?_;refine G.ak (fun _=>od) ?_;refine G.un ?_;refine G.or ?_;refine G.aE ?_;refine G.ld 1 ?_;refine G.ak (fun _=>od) ?_;refine G.un ?_;refine G.or ?_;refine C.B (fun k7=>?_) fun k7=>?_
 ·have e:fA gen r p=hG:=by
   unfold fA;rw[pg];intro h;unfold pJ pH at h;simp only[G7,G6]at h;obtain⟨⟨⟨⟨⟨⟨⟨I,J⟩,h3⟩,h4⟩,h5⟩,h6⟩,h7⟩,h8⟩:=h;rw[I,h4,h5,h6,h7]at k7;simp only[aqR,aqu,Bool.or_false,amt,G6]at k7;omega
  rw[e];refine S.build ?_;refine S.store 0 ?_;exact⟨_,.cN 0 rfl rfl rfl rfl .nil,.none rfl⟩
 ·simp only[W0,apR,NI]at k7;obtain⟨⟨⟨⟨⟨⟨⟨I,J⟩,h3⟩,h4⟩,h5⟩,h6⟩,h7⟩,h8⟩:=k7;have Bc:pJ gen r p=p.all ep:=by
   unfold pJ pH;rw[I,h5,h6,h7,h8,decide_eq_true (show p.length≤6 by omega),decide_eq_true (show 0≤r.kind by omega),decide_eq_true (show r.kind≤255 by omega)];simp
  refine S.ld 1 ?_;refine S.ld 1 ?_;refine S.ld 1 ?_;refine S.ld 1 ?_;refine S.ld 1 ?_;refine S.a8 fun Ps=>?_;refine S.call (q0 (n:=1) (x:=r.kind) (aa.nil _) (by omega) (by omega) (by simp)) fun OH Pt ZQ Ed sf=>?_;obtain⟨rfl,Yr,rfl,AN⟩:=sf;refine S.gi 1 ?_;refine S.bF 3 ?_;refine S.bF 3 ?_;refine S.bF 3 ?_;refine S.bF 3 ?_;have ZR:ae bp (.sl Ps 0 4 (.ex 4)) [r.id,r.dx,r.base,r.done] (some Ps):=ae.new rfl;refine S.ct 1 ZR fun OX OY wd=>?_;have hp:=hp.mono OY;refine S.na 0 AN (fun ψ l hf=>Gw (n:=4) hf (wd.mono l) (by omega) (by omega) (by simp[hD]) (by simp)) fun v64 O64 h64=>?_;obtain⟨s64,rfl,ZS⟩:=h64;refine S.len ?_ (hl:=aa.len hp);refine S.na 0 ZS (fun ψ l hf=>q0 (n:=1) (x:=(p.length:Int)) hf (by omega) (by omega) (by simp[hD,ij])) fun Pu ZT AQ=>?_;obtain⟨ZU,rfl,IP⟩:=AQ;rw[aqa]at IP⊢;obtain⟨B0,wo⟩:∃B0,B0=le 1 r.kind++bo 4 [r.id,r.dx,r.base,r.done]++le 1 (p.length:Int):=⟨_,rfl⟩
  rw[←wo]at IP⊢;have ZV:B0.length≤20:=by rw[wo];simp[hD,ij]
  refine SW.loop (fun m E ψ R=>∃(j:Nat) (v:V) (wp:Option Pa),j+m=p.length∧(p.take j).all ep=true∧OX=ψ∧R=[aQ.ob wp (B0++dg (p.take j)),(some cb,.cells [.j 0,.j 0,.str []] false),(some a4,.cells [.j r.kind,.j r.id,.j r.dx,.j r.base,.j r.done] false)]∧ae aQ v (B0++dg (p.take j)) wp∧Sub [(0,.j gen),(2,pv),(6,.ptr cb 0),(7,v),(8,.j (j:Int))] E) (m:=p.length) ⟨0,Pu,ZU,by omega,rfl,rfl,by rw[show dg (p.take 0)=[]from rfl,ap9];(try rfl),by rw[show dg (p.take 0)=[]from rfl,ap9];exact IP,.r rfl⟩ ?_;intro m0 E ψ R ac hI;obtain⟨j,v,wp,e5,eK,rfl,rfl,ho,hE⟩:=hI;refine C.sub hE ?_;refine S.len ?_ (hl:=aa.len hp);refine S.bin ?_;refine C.D (fun mt=>?_) fun mt=>?_
  ·have hj:j<p.length:=by omega
   have ZW:(dg (p.take j)).length≤36:=by rw[CU,ab7];omega
   refine S.aF hp hj fun p77 e77=>?_;refine S.bP ?_;refine S.ak (MB (p:=p[j])) ?_;refine S.un ?_;refine C.B (fun Ee=>?_) fun Ee=>?_
   ·have e:fA gen r p=hG:=by
     unfold fA;rw[pg];rw[Bc];intro h;rw[ap6]at h;rw[h _ (W1 hj)]at Ee;cases Ee
    rw[e];refine S.build ?_;refine S.store 1 ?_;exact⟨_,.cN 1 rfl rfl rfl rfl .nil,.none rfl⟩
   ·refine S.aF hp hj fun ZX Ef=>?_;refine S.bP ?_;refine S.na 0 ho (fun ψ l hf=>MC (p:=p[j]) hf (by simp;omega)) fun IQ Pv Bd=>?_;obtain⟨ZY,rfl,Pw⟩:=Bd;rw[KK,←Mz hj]at Pw⊢;refine S.bin ?_;refine⟨m0-1,by omega,j+1,IQ,ZY,by omega,by rw[Gx _ hj,eK];simpa using Ee,rfl,rfl,Pw,.r rfl⟩
  ·obtain rfl:j=p.length:=by omega
   rw[ap2]at eK ho⊢;have e:fA gen r p=⟨3,gen,B0++dg p⟩:=by unfold fA;rw[B4 (by rw[Bc,eK]),wo]
   rw[e];refine S.jS 0 ho ?_;refine S.build ?_;refine S.store 1 ?_;exact⟨_,.cN 1 rfl rfl rfl rfl .nil,.none rfl⟩
theorem ajm [Fx F] {x:aV} (hx:x.load.length≤1000000):
 ai F 34 [.agg [.j x.kind,.j x.gen,.str x.load]] O [] (fun r ψ R=>R=[]∧∃pv,r=.aM [.agg (dW.f ((eT x).getD (⟨0,0,0,0,0⟩,[])).1),pv,.bool (eT x).isSome]∧aa aq ψ pv ((eT x).getD (⟨0,0,0,0,0⟩,[])).2) never:=by
 have g1:=dY 1 (x.load,false);simp only at g1;have g2:=dY 4 (rdNum 1 (x.load,false)).2;have l8:=dY 4 (rdNum 4 (rdNum 1 (x.load,false)).2).2;have A4:=dY 4 (rdNum 4 (rdNum 4 (rdNum 1 (x.load,false)).2).2).2;have A5:=dY 4 (rdNum 4 (rdNum 4 (rdNum 4 (rdNum 1 (x.load,false)).2).2).2).2;refine au ?_;refine S.box fun bs=>?_;refine S.alloc fun a2=>?_;refine S.ld 1 ?_;refine S.mV fun eL rK nu dA=>?_;have qk:=dA.av;refine S.build ?_;refine S.box fun ez=>?_;refine S.bb 0 rfl (lR (s:=(x.load,false)) (n:=1) dA (by omega) (by exact hx)) fun nw tQ tR qc b4=>?_;obtain⟨rfl,rfl,IR,rfl,b4⟩:=b4;refine S.build ?_;refine S.alloc fun cb=>?_;refine S.store 0 ?_;refine S.bb 1 rfl (lR (s:=(rdNum 1 (x.load,false)).2) (n:=4) b4 (by omega) (by omega)) fun k0 rO rP rQ bX=>?_;obtain⟨rfl,rfl,IS,rfl,bX⟩:=bX;refine S.store 1 ?_;refine S.bb 0 rfl (lR (s:=(rdNum 4 (rdNum 1 (x.load,false)).2).2) (n:=4) bX (by omega) (by omega)) fun v20 sb yr se cU=>?_;obtain⟨rfl,rfl,Ba,rfl,cU⟩:=cU;refine S.store 1 ?_;refine S.bb 0 rfl (lR (s:=(rdNum 4 (rdNum 4 (rdNum 1 (x.load,false)).2).2).2) (n:=4) cU (by omega) (by omega)) fun Ea Bb Eb uc eB=>?_;obtain⟨rfl,rfl,IL,rfl,eB⟩:=eB;refine S.store 1 ?_;refine S.bb 0 rfl (lR (s:=(rdNum 4 (rdNum 4 (rdNum 4 (rdNum 1 (x.load,false)).2).2).2).2) (n:=4) eB (by omega) (by omega)) fun DI Ax Ik vI fo=>?_;obtain⟨rfl,rfl,w26,rfl,fo⟩:=fo;refine S.store 1 ?_;refine S.bb 0 rfl (Ui (s:=(rdNum 4 (rdNum 4 (rdNum 4 (rdNum 4 (rdNum 1 (x.load,false)).2).2).2).2).2) fo (by omega)) fun yb yc yd oT d6=>?_;obtain⟨rfl,ZZ,s29,rfl,d6,IT⟩:=d6;refine S.ct 1 IT fun A8 lp hp=>?_;obtain⟨Px,hrr⟩:∃Px,Px=gG x.load:=⟨_,rfl⟩
 refine S.mv ?_;refine S.ld 3 ?_;refine S.bin ?_;refine G.mv ?_;refine G.nil? ?_;refine G.aE ?_;refine G.ld 0 ?_;refine G.or ?_;refine G.aE ?_;refine G.ld 3 ?_;refine G.af 1 ?_;refine G.mv ?_;refine G.af 3 ?_;refine G.ak (fun _=>Uj (gen:=x.gen) (r:=(gG x.load).1) hp) ?_;refine G.dy 3 ?_;refine G.bin ?_ (hv:=fun _=>u5 (fA x.gen (gG x.load).1 (gG x.load).2.1) x);refine G.or ?_;refine C.B (fun lf=>?_) fun lf=>?_
 ·have e:eT x=none:=by
   unfold eT;rw[pg];rintro⟨I,J,h3⟩;rw[I,h3]at lf;change (!decide ((3:Int)=3)||(gG x.load).2.2.2||!decide (x=x))=true at lf;rw[J]at lf;simp at lf
  rw[e];refine S.build ?_;refine S.store 2 ?_;exact⟨_,.cN 2 rfl rfl rfl rfl (.t rfl (.t rfl .nil)),.none ⟨rfl,_,rfl,aa.nil _⟩⟩
 ·have e:eT x=some ((gG x.load).1,(gG x.load).2.1):=by
   change (!decide (x.kind=3)||(gG x.load).2.2.2||!decide (fA x.gen (gG x.load).1 (gG x.load).2.1=x))=false at lf;simp only[W0,apR,G6]at lf;unfold eT;rw[B4 ⟨lf.1.1,lf.1.2,lf.2⟩]
  rw[e];refine S.af 1 ?_;refine S.store 2 ?_;exact⟨_,.cN 2 rfl rfl rfl rfl (.t rfl (.t rfl .nil)),.none ⟨rfl,_,rfl,hp⟩⟩
theorem Uk [Fx F] {gen next id:Int} {pv:V} {p:List ag} (hp:aa aq O pv p):bk F 57 [.j gen,.j next,.j id,pv] O (.agg (bw.f (gh gen next id p))):=by
 refine ai.ak (au ?_);refine S.alloc fun ew=>?_;refine S.ak (od) ?_;refine S.un ?_;refine G.mv ?_;refine G.ak (fun _=>od) ?_;refine G.un ?_;refine G.or ?_;refine G.mv ?_;refine G.ak (fun _=>od) ?_;refine G.un ?_;refine G.or ?_;refine G.mv ?_;refine G.len ?_ (hl:=aa.len hp);refine G.bin ?_;refine G.or ?_;refine C.B (fun bq=>?_) fun bq=>?_
 ·have e:gh gen next id p=hG:=by
   unfold gh;rw[pg];intro h;unfold pK at h;simp only[G7,G6]at h;obtain⟨⟨⟨⟨I,J⟩,h3⟩,h4⟩,h5⟩:=h;rw[I,J,h3]at bq;simp only[aqR,aqu,G6]at bq;omega
  rw[e];refine S.build ?_;refine S.store 0 ?_;exact⟨_,.cN 0 rfl rfl rfl rfl .nil,.none rfl⟩
 ·simp only[W0,apR,NI]at bq;obtain⟨⟨⟨I,J⟩,h3⟩,h4⟩:=bq;have Bc:pK gen next id p=p.all ep:=by
   unfold pK;rw[I,J,h3,decide_eq_true (show p.length≤7 by omega)];simp
  refine S.zt (e:=bp) [next,id] fun Py Eg yu oY=>?_;have hp:=hp.mono yu;refine S.call (Gw (n:=4) (aa.nil _) oY (by omega) (by omega) (by simp) (by simp)) fun Be wq Eh ud io=>?_;obtain⟨rfl,Z0,rfl,ws⟩:=io;refine S.len ?_ (hl:=aa.len hp);refine S.na 0 ws (fun ψ l hf=>q0 (n:=1) (x:=(p.length:Int)) hf (by omega) (by omega) (by simp[ij])) fun ue Pz lh=>?_;obtain⟨yv,rfl,j7⟩:=lh;rw[aqa]at j7⊢;obtain⟨B0,wo⟩:∃B0,B0=bo 4 [next,id]++le 1 (p.length:Int):=⟨_,rfl⟩
  rw[←wo]at j7⊢;have ZV:B0.length≤20:=by rw[wo];simp[hD,ij]
  refine SW.loop (fun m E ψ R=>∃(j:Nat) (v:V) (wp:Option Pa),j+m=p.length∧(p.take j).all ep=true∧wq=ψ∧R=[aQ.ob wp (B0++dg (p.take j)),(some ew,.cells [.j 0,.j 0,.str []] false)]∧ae aQ v (B0++dg (p.take j)) wp∧Sub [(0,.j gen),(3,pv),(8,.ptr ew 0),(9,v),(10,.j (j:Int))] E) (m:=p.length) ⟨0,ue,yv,by omega,rfl,rfl,by rw[show dg (p.take 0)=[]from rfl,ap9];(try rfl),by rw[show dg (p.take 0)=[]from rfl,ap9];exact j7,.r rfl⟩ ?_;intro m0 E ψ R ac hI;obtain⟨j,v,wp,e5,eK,rfl,rfl,ho,hE⟩:=hI;refine C.sub hE ?_;refine S.len ?_ (hl:=aa.len hp);refine S.bin ?_;refine C.D (fun nG=>?_) fun nG=>?_
  ·have hj:j<p.length:=by omega
   have ZW:(dg (p.take j)).length≤42:=by rw[CU,ab7];omega
   refine S.aF hp hj fun HU HV=>?_;refine S.bP ?_;refine S.ak (MB (p:=p[j])) ?_;refine S.un ?_;refine C.B (fun Ei=>?_) fun Ei=>?_
   ·have e:gh gen next id p=hG:=by
     unfold gh;rw[pg];rw[Bc];intro h;rw[ap6]at h;rw[h _ (W1 hj)]at Ei;cases Ei
    rw[e];refine S.build ?_;refine S.store 1 ?_;exact⟨_,.cN 1 rfl rfl rfl rfl .nil,.none rfl⟩
   ·refine S.aF hp hj fun p53 e53=>?_;refine S.bP ?_;refine S.na 0 ho (fun ψ l hf=>MC (p:=p[j]) hf (by simp;omega)) fun v55 PA oZ=>?_;obtain⟨Z1,rfl,PB⟩:=oZ;rw[KK,←Mz hj]at PB⊢;refine S.bin ?_;refine⟨m0-1,by omega,j+1,v55,Z1,by omega,by rw[Gx _ hj,eK];simpa using Ei,rfl,rfl,PB,.r rfl⟩
  ·obtain rfl:j=p.length:=by omega
   rw[ap2]at eK ho⊢;have e:gh gen next id p=⟨4,gen,B0++dg p⟩:=by unfold gh;rw[B4 (by rw[Bc,eK]),wo]
   rw[e];refine S.jS 0 ho ?_;refine S.build ?_;refine S.store 1 ?_;exact⟨_,.cN 1 rfl rfl rfl rfl .nil,.none rfl⟩
theorem Ul [Fx F] {x:aV} (hx:x.load.length≤1000000):
 ai F 33 [.agg [.j x.kind,.j x.gen,.str x.load]] O [] (fun r ψ R=>R=[]∧∃pv,r=.aM [.j ((dX x).getD (0,0,[])).1,.j ((dX x).getD (0,0,[])).2.1,pv,.bool (dX x).isSome]∧aa aq ψ pv ((dX x).getD (0,0,[])).2.2) never:=by
 have g1:=dY 4 (x.load,false);simp only at g1;have g2:=dY 4 (rdNum 4 (x.load,false)).2;refine au ?_;refine S.box fun bs=>?_;refine S.ld 0 ?_;refine S.mV fun g4 kX mj cd=>?_;have PC:=cd.av;refine S.build ?_;refine S.box fun nD=>?_;refine S.bb 0 rfl (lR (s:=(x.load,false)) (n:=4) cd (by omega) (by exact hx)) fun oP qe vZ kZ c2=>?_;obtain⟨rfl,rfl,Z2,rfl,c2⟩:=c2;refine S.bb 0 rfl (lR (s:=(rdNum 4 (x.load,false)).2) (n:=4) c2 (by omega) (by omega)) fun r7 j5 AT mq cK=>?_;obtain⟨rfl,rfl,Ih,rfl,cK⟩:=cK;refine S.bb 0 rfl (Ui (s:=(rdNum 4 (rdNum 4 (x.load,false)).2).2) cK (by omega)) fun v20 sb yr se cU=>?_;obtain⟨rfl,Ba,Yj,rfl,cU,AE⟩:=cU;refine S.ct 1 AE fun A8 lp hp=>?_;refine S.mv ?_;refine S.ld 1 ?_;refine S.bin ?_;refine G.mv ?_;refine G.nil? ?_;refine G.aE ?_;refine G.ld 0 ?_;refine G.or ?_;refine G.aE ?_;refine G.ld 1 ?_;refine G.mv ?_;refine G.mv ?_;refine G.mv ?_;refine G.af 1 ?_;refine G.ak (fun _=>Uk (gen:=x.gen) (next:=(ek x.load).1) (id:=(ek x.load).2.1) hp) ?_;refine G.dy 1 ?_;refine G.bin ?_ (hv:=fun _=>u5 (gh x.gen (ek x.load).1 (ek x.load).2.1 (ek x.load).2.2.1) x);refine G.or ?_;refine C.B (fun co=>?_) fun co=>?_
 ·have e:dX x=none:=by
   unfold dX;rw[pg];rintro⟨I,J,h3⟩;rw[I,h3]at co;change (!decide ((4:Int)=4)||(ek x.load).2.2.2.2||!decide (x=x))=true at co;rw[J]at co;simp at co
  rw[e];exact⟨_,.t rfl (.t rfl (.t rfl (.t rfl .nil))),.none ⟨rfl,_,rfl,aa.nil _⟩⟩
 ·have e:dX x=some ((ek x.load).1,(ek x.load).2.1,(ek x.load).2.2.1):=by
   change (!decide (x.kind=4)||(ek x.load).2.2.2.2||!decide (gh x.gen (ek x.load).1 (ek x.load).2.1 (ek x.load).2.2.1=x))=false at co;simp only[W0,apR,G6]at co;unfold dX;rw[B4 ⟨co.1.1,co.1.2,co.2⟩]
  rw[e];exact⟨_,.t rfl (.t rfl (.t rfl (.t rfl .nil))),.none ⟨rfl,_,rfl,hp⟩⟩
end Go.Ev
namespace Go.Ev
theorem ajn {s:Bs} {x:aV} (h:hJ s=some x):x.load.length≤55:=by
 unfold hJ at h;split at h
 ·split at h
  ·rename_i I J;cases h;unfold sX;simp only[ab7];omega
  ·cases h
 ·cases h
theorem oe {d:ay} {a g:Int} {x:aV} (h:b7 d a g=some x):x.load.length≤55:=by
 unfold b7 at h;split at h
 ·split at h
  ·cases h
  ·rename_i I y J;split at h
   ·cases h
   ·cases h;exact ajn J
 ·cases h
theorem Um:∀(f:Nat) (s:df) (am:List b2),(n5 f s am).1.length≤am.length+f
 |0,_,_=>B5 _
 |f+1,s,am=>by
  simp only[n5];split
  ·have:=Um f (hP s).2 (am++[(hP s).1]);simp at this;omega
  ·show am.length≤_;omega
theorem Un {x:aV} {l:List b2} (h:er x=some l):l.length≤x.load.length:=by
 unfold er at h;split at h
 ·split at h
  ·cases h;have:=Um x.load.length (x.load,false) [];simpa[idxOf]using this
  ·cases h
 ·cases h
theorem Uo {x:aV} {r:bH} (h:fP x=some r):r.load.length≤x.load.length:=by
 unfold fP at h;split at h
 ·split at h
  ·cases h;show(x.load.drop 2).length≤_;rw[Rn];omega
  ·cases h
 ·cases h
theorem ME {x:aV} {r:dn} {p:List ag} (h:eT x=some (r,p)):p.length≤6:=by
 unfold eT at h;split at h
 ·rename_i I;cases h;by_cases hr:pJ x.gen (gG x.load).1 (gG x.load).2.1=true
  ·unfold pJ at hr;simp only[G7,G6]at hr;exact hr.1.1.1.1.1.1.2
  ·have h3:=I.2.2;unfold fA at h3;rw[pg hr]at h3;have:=I.1;rw[←h3]at this;cases this
 ·cases h
theorem CV {x:aV} {n i:Int} {p:List ag} (h:dX x=some (n,i,p)):p.length≤7:=by
 unfold dX at h;split at h
 ·rename_i I;cases h;by_cases hr:pK x.gen (ek x.load).1 (ek x.load).2.1 (ek x.load).2.2.1=true
  ·unfold pK at hr;simp only[G7,G6]at hr;exact hr.1.2
  ·have h3:=I.2.2;unfold gh at h3;rw[pg hr]at h3;have:=I.1;rw[←h3]at this;cases this
 ·cases h
theorem Uq {d:ay}:∀{l:List b2} {am r:List bH},rb d l am=some r→r.length=am.length+l.length∧((∀x∈am,x.load.length≤55)→∀x∈r,x.load.length≤55)
 |[],am,r,h=>by cases h;exact⟨rfl,id⟩
 |i::l,am,r,h=>by
  simp only[rb]at h;split at h
  ·cases h
  ·rename_i x hx;split at h
   ·cases h
   ·obtain⟨I,J⟩:=Uq h;refine⟨by rw[I];simp;omega,fun ha=>J fun y hy=>?_⟩;rw[aqh]at hy;rcases hy with hy|hy
    ·exact ha y hy
    ·obtain rfl:=aqj.1 hy;obtain⟨b,b0,dl⟩:=aqg.1 hx;have:=Uo dl;have:=oe b0;omega
theorem MF {d:ay}:∀{q:List ag} {ao iN:List b2} {rs hH:List bH},gH d q ao rs=some (iN,hH)→iN.length≤ao.length+55*q.length∧hH.length≤rs.length+55*q.length∧((∀x∈rs,x.load.length≤55)→∀x∈hH,x.load.length≤55)
 |[],ao,iN,rs,hH,h=>by cases h;exact⟨B5 _,B5 _,id⟩
 |p::q,ao,iN,rs,hH,h=>by
  simp only[gH]at h;split at h
  ·cases h
  ·rename_i l hl;split at h
   ·cases h
   ·rename_i r2 mf;obtain⟨I,J,h3⟩:=MF h;obtain⟨k1,k2⟩:=Uq mf;obtain⟨b,b0,dl⟩:=aqg.1 hl;have:=Un dl;have:=oe b0;rw[amv]at I;rw[WW];exact⟨by omega,by omega,fun ha=>h3 (k2 ha)⟩
end Go.Ev
namespace Go.Ev
theorem Ur {d:ay} {p:ag} {x:jW} {l:List ag} (h:u4 d p=some (x,l)):l.length≤336:=by
 unfold u4 at h;split at h
 ·cases h
 ·rename_i r q hq;split at h
  ·cases h
  ·rename_i ao dp hr;split at h
   ·cases h
   ·cases h;obtain⟨b,b0,dl⟩:=aqg.1 hq;have I:=ME dl;have J:=(MF hr).1;simp only[amv,apZ,aqW]at*;omega
theorem Us {d:ay}:∀{l:List ag} {s s':oa},mZ d l s=some s'→s'.all.length≤s.all.length+336*l.length∧s'.trees.length=s.trees.length+l.length
 |[],s,s',h=>by cases h;exact⟨B5 _,rfl⟩
 |p::r,s,s',h=>by
  simp only[mZ]at h;split at h
  ·cases h
  ·rename_i x l hx;obtain⟨I,J⟩:=Us h;have h3:=Ur hx;simp only[amv,WW,aqW]at*;exact⟨by omega,by omega⟩
theorem Ut {d:ay} {sum:Int} {s:oa} (h:look d sum=some s):s.all.length≤2360∧s.trees.length≤7:=by
 unfold look at h;split at h
 ·cases h
 ·split at h
  ·cases h
  ·rename_i x hx n i p hp;have I:=CV hp;obtain⟨J,h3⟩:=Us h;simp only[WW,aqW]at J h3;omega
theorem Uu (p:ag) (l:List ag):(dq p l).length≤l.length+1:=by
 induction l with
 |nil=>simp[dq]
 |cons a l ih=>
              simp only[dq];split
              ·simp
              ·split<;>simp;omega
def Uv:oa:=⟨0,0,[],[]⟩
end Go.Ev
namespace Go.Ev
abbrev SV:={v:V//isScalar v=true}
def bT:bI SV:=⟨1,fun v=>[v.1],fun _=>rfl,fun v=>by simp[aY,v.2]⟩
def NR {U:Type} (e:bI U) (O:Fz) (vs:List SV) (ls:List (List U)):Prop:=vs.length=ls.length∧∀(i:Nat) (v:SV) (l:List U),vs[i]? =some v→ls[i]? =some l→aa e O v.1 l
section
variable{U:Type} {e:bI U} {O ψ:Fz} {vs:List SV} {ls:List (List U)}
theorem NR.mono (h:NR e O vs ls) (ac:O.Le ψ):NR e ψ vs ls:=⟨h.1,fun i v l I J=>(h.2 i v l I J).mono ac⟩
theorem NR.nil (O:Fz):NR e O [] ([]:List (List U)):=⟨rfl,fun i v l I _=>by simp at I⟩
theorem NR.snoc (h:NR e O vs ls) {v:V} {l:List U} (hv:aa e O v l):NR e O (vs++[⟨v,hv.av⟩]) (ls++[l]):=by
 refine⟨by simp[h.1],fun i w m I J=>?_⟩;by_cases hi:i<vs.length
 ·rw[apQ hi]at I;rw[apQ (by rw[←h.1];exact hi)]at J;exact h.2 i w m I J
 ·rw[apG (by omega)]at I;rw[apG (by rw[←h.1];omega)]at J;have hz:i-vs.length=0:=by
   cases hk:i-vs.length with
   |zero=>rfl
   |succ k=>rw[hk]at I;simp at I
  rw[hz]at I;rw[←h.1,hz]at J;simp at I J;subst I;subst J;exact hv
theorem NR.at (h:NR e O vs ls) {i:Nat} (hi:i<vs.length) (hj:i<ls.length):aa e O (vs[i]).1 ls[i]:=h.2 i _ _ (KJ hi) (KJ hj)
end
theorem OV.same {v:V} {k n:Nat} {cs:List V} {s:Option Pa} (h:OV v k n cs s):Go.Ev.same v v=true:=by
 rcases h.2.2 with⟨rfl,_⟩|⟨a,rfl,_⟩|⟨a,rfl,_⟩
 ·rfl
 ·show((a.beq a&&Nat.beq 0 0)&&(Nat.beq n n&&Nat.beq k k))=true;rw[eQ n,eQ k,(Pa.beq_iff a a).2 rfl];(try rfl)
 ·show((a.beq a&&Nat.beq 0 0)&&(Nat.beq n n&&Nat.beq n n))=true;rw[eQ n,(Pa.beq_iff a a).2 rfl];(try rfl)
theorem ae.same {U:Type} {e:bI U} {v:V} {l:List U} {s:Option Pa} (h:ae e v l s):Go.Ev.same v v=true:=OV.same h
theorem aa.same {U:Type} {e:bI U} {O:Fz} {v:V} {l:List U} (h:aa e O v l):Go.Ev.same v v=true:=FS.same h
theorem aa.cm {U:Type} {e:bI U} {O:Fz} {v:V} {l:List U} (h:aa e O v l):Go.Ev.cm [v] [v]=true:=by
 have I:dd v v=true:=by
  have:=FS.same h;have hs:=h.av;cases v<;>first|exact this|(simp[isScalar]at hs)
 show(bif dd v v then true else false)=true;rw[I];(try rfl)
def tc (O:Fz) (cs:List V) (s:oa):Prop:=∃v2 v3 v4 v5 v6 n3 ql qm,cs=[.int .i64 s.next,.int .i64 s.id,v2,v3,v4,v5,v6]∧aa dW O v2 (s.trees.map (·.root))∧aa bT O v3 n3∧NR br O n3 (s.trees.map (fun t=>t.ao.map (·.1)))∧aa bT O v4 ql∧NR aq O ql (s.trees.map (fun t=>t.ao.map (·.2)))∧aa bT O v5 qm∧NR aH O qm (s.trees.map (·.tree))∧aa aq O v6 s.all
theorem tc.mono {O ψ:Fz} {cs:List V} {s:oa} (h:tc O cs s) (ac:O.Le ψ):tc ψ cs s:=
 let⟨v2,v3,v4,v5,v6,n3,ql,qm,I,J,h3,h4,h5,h6,h7,h8,h9⟩:=h
 ⟨v2,v3,v4,v5,v6,n3,ql,qm,I,J.mono ac,h3.mono ac,h4.mono ac,h5.mono ac,h6.mono ac,h7.mono ac,h8.mono ac,h9.mono ac⟩
theorem tc.no (O:Fz):tc O [.int .i64 0,.int .i64 0,.no .sl,.no .sl,.no .sl,.no .sl,.no .sl] Uv:=⟨_,_,_,_,_,[],[],[],rfl,aa.nil _,aa.nil _,NR.nil _,aa.nil _,NR.nil _,aa.nil _,NR.nil _,aa.nil _⟩
end Go.Ev
namespace Go.Ev
variable{F:Nat→Option aN} {O:Fz}
theorem ajo [Fx F] {v1 v2:V} {a b:List bH} (I:aa br O v1 a) (J:aa br O v2 b) (hlen:a.length≤1000000000):bk F 62 [v1,v2] O (.bool (decide (a=b))):=by
 refine ai.ak (au ?_);refine S.len ?_ (hl:=aa.len I);refine S.len ?_ (hl:=aa.len J);refine S.bin ?_;refine C.B (fun bU=>?_) fun bU=>?_
 ·have bx:decide (a=b)=false:=by
   rw[NI];intro e;subst e;simp at bU
  rw[bx];refine⟨_,.t rfl .nil,.done ?_⟩;rfl
 ·have hl:a.length=b.length:=by simp at bU;omega
  refine SW.loop (fun m E ψ R=>∃j:Nat,j+m=a.length∧((a=b)↔(a.drop j=b.drop j))∧O=ψ∧R=[]∧Sub [(0,v1),(1,v2),(5,.j (j:Int))] E) (m:=a.length) ⟨0,by omega,Iff.rfl,rfl,rfl,.r rfl⟩ ?_;intro m0 E ψ R ac hI;obtain⟨j,hm,sg,rfl,rfl,hE⟩:=hI;refine C.sub hE ?_;refine S.len ?_ (hl:=aa.len I);refine S.bin ?_;refine C.D (fun dG=>?_) fun dG=>?_
  ·have hj:j<a.length:=by omega
   have o3:j<b.length:=by omega
   rw[zy hj o3]at sg;refine S.aF I hj fun vS nA=>?_;refine S.bP ?_;refine S.aF J o3 fun oN j4=>?_;refine S.bP ?_;refine S.bin ?_ (hv:=T9 a[j] b[j]);refine C.B (fun bV=>?_) fun bV=>?_
   ·have bx:decide (a=b)=false:=by
     rw[NI,sg];simp at bV;exact fun h=>bV h.1
    rw[bx];refine⟨_,.t rfl .nil,.done ?_⟩;rfl
   ·have he:a[j]=b[j]:=by simpa using bV
    refine S.bin ?_;exact⟨m0-1,by omega,j+1,by omega,by rw[sg];exact and_iff_right he,rfl,rfl,.r rfl⟩
  ·obtain rfl:j=a.length:=by omega
   have he:decide (a=b)=true:=by
    rw[G6,sg,WV,hl,WV]
   rw[he];refine⟨_,.t rfl .nil,.done ?_⟩;rfl
theorem ajp [Fx F] {v1 v2:V} {a b:List ag} (I:aa aq O v1 a) (J:aa aq O v2 b) (hlen:a.length≤1000000000):bk F 13 [v1,v2] O (.bool (decide (a=b))):=by
 refine ai.ak (au ?_);refine S.len ?_ (hl:=aa.len I);refine S.len ?_ (hl:=aa.len J);refine S.bin ?_;refine C.B (fun bU=>?_) fun bU=>?_
 ·have bx:decide (a=b)=false:=by
   rw[NI];intro e;subst e;simp at bU
  rw[bx];refine⟨_,.t rfl .nil,.done ?_⟩;rfl
 ·have hl:a.length=b.length:=by simp at bU;omega
  refine SW.loop (fun m E ψ R=>∃j:Nat,j+m=a.length∧((a=b)↔(a.drop j=b.drop j))∧O=ψ∧R=[]∧Sub [(0,v1),(1,v2),(5,.j (j:Int))] E) (m:=a.length) ⟨0,by omega,Iff.rfl,rfl,rfl,.r rfl⟩ ?_;intro m0 E ψ R ac hI;obtain⟨j,hm,sg,rfl,rfl,hE⟩:=hI;refine C.sub hE ?_;refine S.len ?_ (hl:=aa.len I);refine S.bin ?_;refine C.D (fun dG=>?_) fun dG=>?_
  ·have hj:j<a.length:=by omega
   have o3:j<b.length:=by omega
   rw[zy hj o3]at sg;refine S.aF I hj fun vS nA=>?_;refine S.bP ?_;refine S.aF J o3 fun oN j4=>?_;refine S.bP ?_;refine S.bin ?_ (hv:=My a[j] b[j]);refine C.B (fun bV=>?_) fun bV=>?_
   ·have bx:decide (a=b)=false:=by
     rw[NI,sg];simp at bV;exact fun h=>bV h.1
    rw[bx];refine⟨_,.t rfl .nil,.done ?_⟩;rfl
   ·have he:a[j]=b[j]:=by simpa using bV
    refine S.bin ?_;exact⟨m0-1,by omega,j+1,by omega,by rw[sg];exact and_iff_right he,rfl,rfl,.r rfl⟩
  ·obtain rfl:j=a.length:=by omega
   have he:decide (a=b)=true:=by
    rw[G6,sg,WV,hl,WV]
   rw[he];refine⟨_,.t rfl .nil,.done ?_⟩;rfl
theorem Uw {ino:Int} {f:Nat} {idx:Int} {b:Bs} (h:b≠[]):kJ ino (f+1) idx b=⟨ino,idx,b.take 40⟩::kJ ino f (idx+1) (b.drop 40):=by
 show(if b=[]then _ else _)=_;rw[pg h]
theorem Ux {ino:Int} {f:Nat} {idx:Int}:kJ ino f idx []=[]:=by cases f<;>rfl
theorem Uy [Fx F] {tv:V} {t:an} (ht:aa aH O tv t) (hb:bN t):
 ai F 63 [tv] O [] (fun r ψ R=>R=[]∧aa br ψ r (cn t)) never:=by
 have b0:=hb.1;refine au ?_;refine S.ak (Gy ht hb) ?_;refine S.un ?_;refine C.B (fun eN=>?_) fun eN=>?_
 ·have e:cn t=[]:=by unfold cn;rw[pg];intro h;rw[h]at eN;cases eN
  rw[e];exact⟨_,.t rfl .nil,.none ⟨rfl,aa.nil _⟩⟩
 ·have e:cn t=hQ 1 t:=by unfold cn;rw[B4];simpa using eN
  rw[e];refine SW.new br ?_;refine SW.bG (fun m E ψ R=>∃(j:Nat) (out:List bH) (v:V) (s:Option Pa),j+m=t.length∧out++hQ ((j:Int)+1) (t.drop j)=hQ 1 t∧out.length≤200000*j∧O=ψ∧R=[br.ob s out]∧ae br v out s∧Sub [(0,tv),(3,v),(4,.j (j:Int))] E) (m:=t.length) (.done ⟨0,[],.no .sl,none,by omega,rfl,by simp,rfl,rfl,ae.nil,.r rfl⟩) ?_;intro m0 E ψ R ac hI;obtain⟨j,out,v,s,e5,ab,dC,rfl,rfl,ho,hE⟩:=hI;refine C.sub hE ?_;refine S.len ?_ (hl:=aa.len ht);refine S.bin ?_;refine C.D (fun eM=>?_) fun eM=>?_
  ·have hj:j<t.length:=by omega
   obtain⟨n,hn⟩:∃n,n=t[j]:=⟨_,rfl⟩
   have oG:n.body.length≤100000:=by rw[hn];exact hb.2 _ (W1 hj)
   rw[Rm hj,←hn]at ab;simp only[hQ]at ab;refine S.aF ht hj fun IU Ej=>?_;rw[←hn]at Ej;refine S.bP ?_;refine S.alloc fun a5=>?_;refine S.store 0 ?_;refine S.ld 0 ?_;refine S.bin ?_;refine C.D (fun d5=>?_) fun d5=>?_
   ·refine S.bin ?_;have e2:lS ((j:Int)+1) n=[]:=by unfold lS;exact B4 d5
    rw[e2,aqa]at ab;exact⟨m0-1,by omega,.drop 0 (.done ⟨j+1,out,v,s,by omega,ab,by omega,rfl,rfl,ho,.r rfl⟩)⟩
   ·have e2:lS ((j:Int)+1) n=⟨(j:Int)+1,0,[bS n.kind,bS n.mode,bS n.body.length]⟩::kJ ((j:Int)+1) n.body.length 1 n.body:=by unfold lS;exact pg d5
    rw[e2]at ab;refine S.bin ?_;refine S.ld 0 ?_;refine S.tb ?_;refine S.ld 0 ?_;refine S.tb ?_;refine S.ld 0 ?_;refine S.cD ?_;refine S.tb ?_;refine S.a8 fun PD=>?_;have j7:ae aQ (.sl PD 0 3 (.ex 3)) [bS n.kind,bS n.mode,bS n.body.length] (some PD):=ae.new rfl;refine S.jS 0 j7 ?_;refine S.drop 0 ?_;refine S.build ?_;refine S.a8 fun a39=>?_;refine S.bu (m:=[⟨(j:Int)+1,0,[bS n.kind,bS n.mode,bS n.body.length]⟩]) 2 ho (.lit 0) (by simp;omega) fun wt Ek uf=>?_;refine S.drop 0 ?_;refine S.mv ?_;refine SW.bG (fun m E ψ R=>∃(q:Nat) (o2:List bH) (v:V) (s:Option Pa),o2++(kJ ((j:Int)+1) m ((q:Int)+1) (n.body.drop (40*q))++hQ ((j:Int)+1+1) (t.drop (j+1)))=hQ 1 t∧(n.body.drop (40*q)).length≤m∧40*q≤n.body.length+40∧o2.length+m≤200000*j+1+n.body.length∧O=ψ∧R=[(some a5,.cells [.j n.kind,.j n.mode,.str n.body] false),br.ob s o2]∧ae br v o2 s∧Sub [(0,tv),(3,v),(4,.j (j:Int)),(5,.ptr a5 0),(6,.j ((40*q:Nat):Int))] E) (m:=n.body.length) (.done ⟨0,_,wt,Ek,by rw[←ab,KK];(try rfl),by simp,by omega,by simp;omega,rfl,rfl,uf,.r rfl⟩) ?_;intro m2 E ψ R ac hI;obtain⟨q,o2,v2,s2,cz,fW,PE,anB,rfl,rfl,nH,hE⟩:=hI;refine C.sub hE ?_;refine S.ld 0 ?_;refine S.cD ?_;refine S.bin ?_;refine C.D (fun wc=>?_) fun wc=>?_
    ·have hq:40*q<n.body.length:=by omega
     obtain⟨m1,rfl⟩:∃m1,m2=m1+1:=⟨m2-1,by rw[Rn]at fW;omega⟩
     rw[Uw (by intro h;rw[List.drop_eq_nil_iff]at h;omega),aq6]at cz;refine S.bin ?_;refine S.bin ?_ (hv:=CT (a:=40*q) (m:=40) (by omega) (by omega));rw[Nat.mul_div_cancel_left q (by omega)];refine S.bin ?_;refine S.ld 0 ?_;refine S.bin ?_ (v:=.j ((40*q+40:Nat):Int)) (hv:=by rw[ei (by omega) (by omega)];(try rfl));refine S.ld 0 ?_;refine S.cD ?_;refine S.pB (CE (40*q+40) n.body.length) ?_;refine S.je (Gs (s:=n.body) (i:=40*q) (j:=min (40*q+40) n.body.length) (by omega) (by omega)) ?_;have eX:(n.body.drop (40*q)).take (min (40*q+40) n.body.length-40*q)=(n.body.drop (40*q)).take 40:=by
      rw[List.take_eq_take_iff,Rn];omega
     rw[eX];refine S.build ?_;refine S.a8 fun Yo=>?_;refine S.bu (m:=[⟨(j:Int)+1,(q:Int)+1,(n.body.drop (40*q)).take 40⟩]) 2 nH (.lit 0) (by simp;omega) fun v66 Z3 Z4=>?_;refine S.drop 0 ?_;refine S.mv ?_;refine S.bin ?_ (v:=.j ((40*(q+1):Nat):Int)) (hv:=by rw[ei (by omega) (by omega)];(try rfl));refine⟨m1,by omega,.done ⟨q+1,_,v66,Z3,by rw[←cz,KK];(try rfl),by rw[Rn]at fW⊢;omega,by omega,by simp;omega,rfl,rfl,Z4,.r rfl⟩⟩
    ·rw[arl (by omega),Ux,aqa]at cz;refine S.bin ?_;exact⟨m0-1,by omega,.drop 0 (.done ⟨j+1,o2,v2,s2,by omega,cz,by omega,rfl,rfl,nH,.r rfl⟩)⟩
  ·obtain rfl:j=t.length:=by omega
   rw[WV]at ab;simp only[hQ,ap9]at ab;rw[ab]at ho⊢;exact⟨_,.t rfl .nil,.bR 0 rfl ho fun ψ l hf=>.done ⟨rfl,hf⟩⟩
theorem zC {t:an} {x:Int} {i:Nat} (h:x-1=(i:Int)) (n:cM):fO t x n=t.set i n:=by
 unfold fO;rw[h];(try rfl)
theorem CW {t:an} {x:Int} {i:Nat} (h:x-1=(i:Int)) (hi:i<t.length):nodeAt t x=t[i]:=by
 obtain⟨j,I,J,h3⟩:=CM (t:=t) (x:=x) (by omega) (by omega);obtain rfl:j=i:=by omega
 exact h3
theorem Uz {t:an} {i:Nat} {n:cM} {k:Nat} (hb:∀x∈t,x.body.length≤k) (hn:n.body.length≤k):∀x∈t.set i n,x.body.length≤k:=fun x hx=>by
 rcases ara hx with h|h
 ·exact hb x h
 ·rw[h];exact hn
theorem UA (ino:Int):∀(f:Nat) (idx:Int) (b:Bs),(kJ ino f idx b).length≤f
 |0,_,_=>B5 _
 |f+1,idx,b=>by
  simp only[kJ];split
  ·simp
  ·have:=UA ino f (idx+1) (b.drop 40);simp;omega
theorem UB:∀(i:Int) (l:List cM),(∀n∈l,n.body.length≤100000)→(hQ i l).length≤100001*l.length
 |_,[],_=>B5 _
 |i,n::r,h=>by
  have I:=UB (i+1) r (fun x hx=>h x (amI _ hx));have J:=h n (apV);have h3:(lS i n).length≤1+n.body.length:=by
   unfold lS;split
   ·simp
   ·have:=UA i n.body.length 1 n.body;simp;omega
  simp only[hQ,amv,WW];omega
theorem ajq {t:an} (hb:bN t):(cn t).length≤1000000000:=by
 unfold cn;split
 ·have:=UB 1 t hb.2;have:=hb.1;omega
 ·simp
theorem ajr [Fx F] {lv:V} {l:List bH} (hl:aa br O lv l) (hlen:l.length≤1000) (hb:∀r∈l,r.load.length≤60):
 ai F 36 [lv] O [] (fun r ψ R=>R=[]∧∃tv,r=.aM [tv,.bool (fh l).isSome]∧aa aH ψ tv ((fh l).getD [])) never:=by
 refine au ?_;refine S.u0 (e:=aH) ff (n:=9) (by omega) (by omega) fun c1 o7=>?_;refine SW.bG (fun m E ψ R=>∃(j:Nat) (t:an),j+m=l.length∧jV (List.replicate 9 ff) l=jV t (l.drop j)∧t.length=9∧(∀x∈t,x.body.length≤60*j)∧O=ψ∧R=[aH.ob (some c1) t]∧Sub [(0,lv),(4,.sl c1 0 9 (.ex 9)),(5,.j (j:Int))] E) (m:=l.length) (.done ⟨0,List.replicate 9 ff,by omega,rfl,by simp,fun x hx=>by rw[aq8 hx];simp[ff],rfl,rfl,.r rfl⟩) ?_;intro m0 E ψ R ac hI;obtain⟨j,t,e5,ab,di,mw,rfl,rfl,hE⟩:=hI;refine C.sub hE ?_;refine S.len ?_ (hl:=aa.len hl);refine S.bin ?_;refine C.D (fun jE=>?_) fun jE=>?_
 ·have hj:j<l.length:=by omega
  obtain⟨r,hr⟩:∃r,r=l[j]:=⟨_,rfl⟩
  have yw:r.load.length≤60:=by rw[hr];exact hb _ (W1 hj)
  rw[Rm hj,←hr]at ab;have ot:ae aH (.sl c1 0 9 (.ex 9)) t (some c1):=ae.new di;refine S.aF hl hj fun DQ vP=>?_;rw[←hr]at vP;refine S.bP ?_;refine S.alloc fun cb=>?_;refine S.store 0 ?_;refine S.ld 0 ?_;refine S.bin ?_;refine G.aE ?_;refine G.ld 0 ?_;refine G.bin ?_;refine G.or ?_;refine C.B (fun bV=>?_) fun bV=>?_
  ·simp only[amt,G6]at bV;have aj:fB t r=none:=by unfold fB;rw[B4 (by omega)]
   have e:fh l=none:=by
    unfold fh;rw[ab];simp only[jV];rw[aj]
   rw[e];exact⟨_,.t rfl (.t rfl .nil),.none ⟨rfl,_,rfl,aa.nil _⟩⟩
  ·simp only[W0,NI]at bV;obtain⟨i,hi⟩:∃i:Nat,r.ino-1=(i:Int):=⟨(r.ino-1).toNat,by omega⟩
   have dj:i<t.length:=by omega
   refine S.ld 0 ?_;refine S.bin ?_;refine C.D (fun bq=>?_) fun bq=>?_
   ·refine S.ld 0 ?_;refine S.cD ?_;refine S.bin ?_;refine C.B (fun eA=>?_) fun eA=>?_
    ·have aj:fB t r=none:=by unfold fB;rw[pg (by omega),B4 bq,pg (by simp at eA;omega)]
     have e:fh l=none:=by
      unfold fh;rw[ab];simp only[jV];rw[aj]
     rw[e];exact⟨_,.t rfl (.t rfl .nil),.none ⟨rfl,_,rfl,aa.nil _⟩⟩
    ·have wu:r.load.length=3:=by simp at eA;omega
     have h0:r.load[0]? =some r.load[0]:=KJ (by omega);have I:r.load[1]? =some r.load[1]:=KJ (by omega);have aj:fB t r=some (t.set i {t[i]with kind:=(r.load[0]).toNat,mode:=(r.load[1]).toNat}):=by
      unfold fB;rw[pg (by omega),B4 bq,B4 wu,zC hi,CW hi dj,h0,I];(try rfl)
     simp only[jV]at ab;rw[aj]at ab;simp only at ab;refine S.ld 0 ?_;refine S.bin ?_ (v:=.j (i:Int)) (hv:=by rw[ig (by omega) (by omega),hi]);refine S.ld 0 ?_;refine S.bin ?_ (v:=.j (i:Int)) (hv:=by rw[ig (by omega) (by omega),hi]);refine S.ld 0 ?_;refine S.iS h0 ?_;refine S.lK ?_;refine S.ld 0 ?_;refine S.iS I ?_;refine S.lK ?_;refine S.cX ot dj fun Bf Bg=>?_;cases Bg;refine S.aE ?_;refine S.zr (e:=aH) (l:=t) (j:=i) {t[i]with kind:=(r.load[0]).toNat} 0 1 ?_;refine S.T7 (b:=r.load[1]) ?_;refine S.bF 0 ?_;refine S.bF 0 ?_;refine S.cX (ot.set i {t[i]with kind:=(r.load[0]).toNat}) (by simpa using dj) fun a51 vV=>?_;cases vV;refine S.aE ?_;refine S.zr (e:=aH) (l:=t.set i {t[i]with kind:=(r.load[0]).toNat}) (j:=i) {t[i]with kind:=(r.load[0]).toNat,mode:=(r.load[1]).toNat} 1 1 ?_ (hj:=by simpa using dj) (hu:=by rw[arX];(try rfl));refine S.bin ?_;exact⟨m0-1,by omega,.drop 0 (.done ⟨j+1,_,by omega,ab,by simpa using di,Uz (fun x hx=>by have:=mw x hx;omega) (by have:=mw t[i] (W1 dj);show t[i].body.length≤_;omega),rfl,congrArg (fun x=>[aH.ob (some c1) x]) (List.set_set _),.r rfl⟩)⟩
   ·have aj:fB t r=some (t.set i {t[i]with body:=t[i].body++r.load}):=by
     unfold fB;rw[pg (by omega),pg bq,zC hi,CW hi dj]
    simp only[jV]at ab;rw[aj]at ab;simp only at ab;have hti:=mw t[i] (W1 dj);refine S.ld 0 ?_;refine S.bin ?_ (v:=.j (i:Int)) (hv:=by rw[ig (by omega) (by omega),hi]);refine S.ld 0 ?_;refine S.bin ?_ (v:=.j (i:Int)) (hv:=by rw[ig (by omega) (by omega),hi]);refine S.cX ot dj fun Yl IV=>?_;cases IV;refine S.aE ?_;refine S.fM (e:=aH) (l:=t) (j:=i) 2 1 ?_;refine S.ld 0 ?_;refine S.bin ?_;refine S.cX ot dj fun a67 Z5=>?_;cases Z5;refine S.aE ?_;refine S.zr (e:=aH) (l:=t) (j:=i) {t[i]with body:=t[i].body++r.load} 2 1 ?_;refine S.bin ?_;exact⟨m0-1,by omega,.drop 0 (.done ⟨j+1,_,by omega,ab,by simpa using di,Uz (fun x hx=>by have:=mw x hx;omega) (by show(t[i].body++r.load).length≤_;simp;omega),rfl,rfl,.r rfl⟩)⟩
 ·obtain rfl:j=l.length:=by omega
  rw[WV]at ab;simp only[jV]at ab;have ot:ae aH (.sl c1 0 9 (.ex 9)) t (some c1):=ae.new di;have ug:bN t:=⟨by omega,fun x hx=>by have:=mw x hx;omega⟩
  refine S.ct 0 ot fun PF lt qn=>?_;have hl:=hl.mono lt;refine S.ak (Gy qn ug) ?_;refine S.un ?_;refine G.mv ?_;refine G.call (fun _=>Uy qn ug) fun Y2 Y3 DZ AV=>?_;have hl:=hl.mono DZ;have qn:=qn.mono DZ;refine G.mv ?_;refine G.ak (fun hb=>ajo (AV hb) hl (ajq ug)) ?_;refine G.un ?_;refine G.or ?_;refine C.B (fun nF=>?_) fun nF=>?_
  ·have e:fh l=none:=by
    unfold fh;rw[ab];simp only;rw[pg];intro h;simp only[G7,G6]at h;rw[h.1,h.2]at nF;simp at nF
   rw[e];exact⟨_,.t rfl (.t rfl .nil),.none ⟨rfl,_,rfl,aa.nil _⟩⟩
  ·have e:fh l=some t:=by
    unfold fh;rw[ab];simp only;rw[B4];simp only[W0,apR,G6]at nF;rw[nF.1,nF.2];simp
   rw[e];exact⟨_,.t rfl (.t rfl .nil),.none ⟨rfl,_,rfl,qn⟩⟩
theorem zD [Fx F] {cs:List V} {d:ay} {addr gen:Int} (hd:cP O cs d) (hb:d.wait.length≤1000000):bk F 32 [.agg cs,.j addr,.j gen] O (.aM [.agg (bw.f ((b7 d addr gen).getD hG)),.bool (b7 d addr gen).isSome]):=by
 obtain⟨lv,wv,rfl,hl,hw,sl,sw⟩:=hd.open;refine ai.ak (au ?_);refine S.box fun a3=>?_;refine S.alloc fun cb=>?_;refine S.af 1 ?_;refine S.ak (aiu hd hb) ?_;refine S.un ?_;refine C.B (fun cy=>?_) fun cy=>?_
 ·have e:b7 d addr gen=none:=by unfold b7;rw[pg (by intro h;rw[h]at cy;cases cy)]
  rw[e];refine S.build ?_;refine S.store 0 ?_;exact⟨_,.cN 0 rfl rfl rfl rfl (.t rfl .nil),.none rfl⟩
 ·have i9:(d.read addr).2=true:=by simpa using cy
  obtain⟨X,hX⟩:∃X,X=hJ (d.read addr).1:=⟨_,rfl⟩
  refine S.ak (aiA) ?_;rw[←hX];refine S.alloc fun mh=>?_;refine S.store 0 ?_;refine S.un ?_;refine G.mv ?_;refine G.bin ?_;refine G.mv ?_;refine G.aE ?_;refine G.ld 0 ?_;refine G.mv ?_;refine G.bin ?_;refine G.jR ?_;refine G.or ?_;refine C.B (fun ck=>?_) fun ck=>?_
  ·have e:b7 d addr gen=none:=by
    unfold b7;rw[B4 i9,←hX];cases X with
    |none=>rfl
    |some x=>
     simp only;rw[B4];change (!true||(decide (0≤gen)&&!decide (x.gen=gen)))=true at ck;simpa using ck
   rw[e];refine S.build ?_;refine S.store 1 ?_;exact⟨_,.cN 1 rfl rfl rfl rfl (.t rfl .nil),.none rfl⟩
  ·obtain⟨x,rfl⟩:∃x,X=some x:=by
    cases X with
    |none=>exact absurd ck (by simp[Mn])
    |some x=>exact⟨x,rfl⟩
   have e:b7 d addr gen=some x:=by
    unfold b7;rw[B4 i9,←hX];simp only;rw[pg];change (!true||(decide (0≤gen)&&!decide (x.gen=gen)))=false at ck;intro h;simp[h]at ck
   rw[e];refine S.af 0 ?_;refine S.store 1 ?_;exact⟨_,.cN 1 rfl rfl rfl rfl (.t rfl .nil),.none rfl⟩
theorem ajs [Fx F] {v:V} {l:List ag} {s:Option Pa} {p:ag} (ho:ae aq v l s) (hlen:l.length≤1000000):
 ai F 30 [v,.agg [.j p.addr,.j p.gen]] O [aq.ob s l] (fun r _ R=>∃s',R=[aq.ob s' (dq p l)]∧ae aq r (dq p l) s') never:=by
 refine au ?_;refine S.box fun a3=>?_;refine SW.loop (fun m E ψ R=>∃j:Nat,j+m=l.length∧dq p l=l.take j++dq p (l.drop j)∧O=ψ∧R=[(some a3,.cells [.j p.addr,.j p.gen] false),aq.ob s l]∧Sub [(0,v),(3,.ptr a3 0),(5,.j (j:Int))] E) (m:=l.length) ⟨0,by omega,rfl,rfl,rfl,.r rfl⟩ ?_;intro m0 E ψ R ac hI;obtain⟨j,e5,ab,rfl,rfl,hE⟩:=hI;refine C.sub hE ?_;refine S.len ?_ (hl:=ae.len ho);refine S.bin ?_;refine C.D (fun eN=>?_) fun eN=>?_
 ·have hj:j<l.length:=by omega
  rw[Rm hj]at ab;simp only[dq]at ab;refine S.cX ho hj fun nD b4=>?_;subst b4;refine S.aE ?_;refine S.fM (e:=aq) (l:=l) (j:=j) 0 1 ?_;refine S.ld 0 ?_;refine S.bin ?_;refine C.D (fun cG=>?_) fun cG=>?_
  ·rw[B4 cG,←Rm hj,aqA]at ab;rw[ab];exact⟨_,.t rfl .nil,.drop 0 (.done ⟨_,rfl,ho⟩)⟩
  ·rw[pg cG]at ab;refine S.cX ho hj fun Bh eB=>?_;cases eB;refine S.aE ?_;refine S.fM (e:=aq) (l:=l) (j:=j) 0 1 ?_;refine S.ld 0 ?_;refine S.bin ?_;refine C.D (fun bq=>?_) fun bq=>?_
   ·rw[B4 (by omega),←Rm hj]at ab;rw[ab];refine S.ct 1 ho fun ψl anC hf=>?_;refine S.a8 fun El=>?_;have IT:ae aq (.sl El 0 0 (.ex 0)) [] (some El):=ae.new rfl;obtain⟨w1,dP,Bi⟩:=aa.hi hf (j:=j) (by omega);obtain⟨w2,cw,si⟩:=aa.lo hf (j:=j) (by omega);refine S.slice dP ?_;refine S.af 1 ?_;refine S.a8 fun Bj=>?_;refine S.slice cw ?_;refine S.bu (m:=l.take j) 1 IT (.f Bi) (by simp;omega) fun Be Z0 ws=>?_;refine S.Mx cw si.same ?_;refine S.gi 0 ?_;refine S.dy 2 ?_;refine S.bu (m:=[p]) 1 ws (.lit 0) (by simp;omega) fun ue yv j7=>?_;refine S.Mx cw si.same ?_;refine S.bu (m:=l.drop j) 1 j7 (.f si) (by simp;omega) fun wt Ek uf=>?_;rw[aqa,KK]at uf⊢;exact⟨_,.t rfl .nil,.only 1 ⟨_,rfl,uf⟩⟩
   ·rw[pg (by omega)]at ab;refine S.bin ?_;exact⟨m0-1,by omega,j+1,by omega,by rw[ab,aqd hj,KK];(try rfl),rfl,rfl,.r rfl⟩
 ·obtain rfl:j=l.length:=by omega
  rw[WV,ap2]at ab;rw[show dq p []=[p]from rfl]at ab;rw[ab];refine S.af 0 ?_;refine S.a8 fun Z6=>?_;refine S.bu (m:=[p]) 2 ho (.lit 0) (by simp;omega) fun PG PH IW=>?_;exact⟨_,.t rfl .nil,.only 2 ⟨_,rfl,IW⟩⟩
end Go.Ev
set_option maxHeartbeats 4000000
namespace Go.Ev
variable{F:Nat→Option aN} {O:Fz}
theorem ajt [Fx F] {cs:List V} {d:ay} {pv:V} {q:List ag} (hd:cP O cs d) (cL:d.wait.length≤1000000) (hq:aa aq O pv q) (eo:q.length≤1000):
 ai F 35 [.agg cs,pv] O [] (fun r ψ R=>R=[]∧∃v1 v2 v3,r=.aM [v1,v2,v3,.bool (gH d q [] []).isSome]∧aa br ψ v1 (((gH d q [] []).getD ([],[])).1.map (·.1))∧aa aq ψ v2 (((gH d q [] []).getD ([],[])).1.map (·.2))∧aa br ψ v3 ((gH d q [] []).getD ([],[])).2) never:=by
 obtain⟨lv,wv,rfl,hl,hw,sl,sw⟩:=hd.open;refine au ?_;refine S.box fun a2=>?_;refine SW.new br ?_;refine SW.new aq ?_;refine SW.new br ?_;refine SW.bG (fun m E ψ R=>∃(j:Nat) (ao:List b2) (rs:List bH) (v4 v5 v6:V) (uh ui s6:Option Pa),j+m=q.length∧gH d (q.drop j) ao rs=gH d q [] []∧ao.length≤55*j∧rs.length≤55*j∧R=[br.ob uh (ao.map (·.1)),aq.ob ui (ao.map (·.2)),br.ob s6 rs,(some a2,.cells [lv,wv,.j d.arm,.bool d.down] false)]∧ae br v4 (ao.map (·.1)) uh∧ae aq v5 (ao.map (·.2)) ui∧ae br v6 rs s6∧Sub [(1,pv),(2,.ptr a2 0),(4,v4),(5,v5),(6,v6),(8,.j (j:Int))] E) (m:=q.length) (.done ⟨0,[],[],.no .sl,.no .sl,.no .sl,none,none,none,by omega,rfl,by simp,by simp,rfl,ae.nil,ae.nil,ae.nil,.r rfl⟩) ?_;intro m0 E ψ R ac hI;obtain⟨j,ao,rs,v4,v5,v6,uh,ui,s6,e5,ab,IH,DG,rfl,p4,o5,o6,hE⟩:=hI;refine C.sub hE ?_;refine S.len ?_ (hl:=aa.len hq);refine S.bin ?_;refine C.D (fun gs=>?_) fun gs=>?_
 ·have hj:j<q.length:=by omega
  have hq:=hq.mono ac;have hd:=hd.mono ac;obtain⟨p,hp⟩:∃p,p=q[j]:=⟨_,rfl⟩
  rw[Rm hj,←hp]at ab;simp only[gH]at ab;obtain⟨X,hX⟩:∃X,X=b7 d p.addr p.gen:=⟨_,rfl⟩
  rw[←hX]at ab;refine S.af 3 ?_;refine S.aF hq hj fun H4 vN=>?_;rw[←hp]at vN;refine S.bl vN fun AO vR=>?_;refine S.aX ?_;refine S.aF hq hj fun vQ jD=>?_;rw[←hp]at jD;refine S.bl jD fun AU r9=>?_;refine S.aX ?_;refine S.alloc fun a9=>?_;refine S.ak (zD hd cL) ?_;rw[←hX];refine S.jq 0 ?_;refine S.store 0 ?_;refine S.un ?_;refine C.B (fun co=>?_) fun co=>?_
  ·have e:gH d q [] []=none:=by
    rw[←ab];cases X with
    |none=>rfl
    |some x=>simp at co
   rw[e];exact⟨_,.t rfl (.t rfl (.t rfl (.t rfl .nil))),.none ⟨rfl,_,_,_,rfl,aa.nil _,aa.nil _,aa.nil _⟩⟩
  ·obtain⟨x,rfl⟩:∃x,X=some x:=ap4.1 (by simpa using co);have kT:=oe hX.symm;simp only[aqP]at ab;obtain⟨Y,hY⟩:∃Y,Y=er x:=⟨_,rfl⟩
   rw[←hY]at ab;refine S.af 0 ?_;refine S.drop 0 ?_;refine S.call (ajl (x:=x) (by omega)) fun x5 A3 ZI D6 oX=>?_;obtain⟨rfl,p9,g4,rfl,dB,cd⟩:=oX;rw[←hY]at dB cd⊢;have hq:=hq.mono D6;have hd:=hd.mono D6;refine S.un ?_;refine C.B (fun lf=>?_) fun lf=>?_
   ·have e:gH d q [] []=none:=by
     rw[←ab];cases Y with
     |none=>rfl
     |some x=>simp at lf
    rw[e];exact⟨_,.t rfl (.t rfl (.t rfl (.t rfl .nil))),.none ⟨rfl,_,_,_,rfl,aa.nil _,aa.nil _,aa.nil _⟩⟩
   ·obtain⟨l,rfl⟩:∃l,Y=some l:=ap4.1 (by simpa using lf);have sj:=Un hY.symm;change aa br A3 p9 (l.map (·.1))at dB;change aa aq A3 g4 (l.map (·.2))at cd;simp only at ab;obtain⟨Z,nI⟩:∃Z,Z=rb d l rs:=⟨_,rfl⟩
    rw[←nI]at ab;refine SW.bG (fun m E ψ R=>∃(i:Nat) (ww:List bH) (v6:V) (s6:Option Pa),i+m=l.length∧rb d (l.drop i) ww=Z∧ww.length≤55*j+i∧A3=ψ∧R=[br.ob uh (ao.map (·.1)),aq.ob ui (ao.map (·.2)),br.ob s6 ww,(some a2,.cells [lv,wv,.j d.arm,.bool d.down] false)]∧ae br v6 ww s6∧Sub [(1,pv),(2,.ptr a2 0),(4,v4),(5,v5),(6,v6),(8,.j (j:Int)),(11,p9),(12,g4),(13,.j (i:Int))] E) (m:=l.length) (.done ⟨0,rs,v6,s6,by omega,nI.symm,by omega,rfl,rfl,o6,.r rfl⟩) ?_;intro m2 E ψ R ac hI;obtain⟨i,ww,v6,s6,Bk,cz,anD,rfl,rfl,o6,hE⟩:=hI;refine C.sub hE ?_;refine S.len ?_ (hl:=aa.len dB);refine S.bin ?_;refine C.D (fun fE=>?_) fun fE=>?_
    ·rw[apZ]at fE;have hi:i<l.length:=by omega
     obtain⟨it,dj⟩:∃it,it=l[i]:=⟨_,rfl⟩
     rw[Rm hi,←dj]at cz;simp only[rb]at cz;obtain⟨W,yx⟩:∃W,W=b7 d it.2.addr it.2.gen:=⟨_,rfl⟩
     rw[←yx]at cz;have anE:(l.map (·.1))[i]? =some it.1:=by rw[aqH,KJ hi,dj];(try rfl)
     refine S.af 3 ?_;refine S.aF cd (j:=i) (by simpa using hi) fun Zu x1=>?_;rw[aqX,←dj]at x1;refine S.bl x1 fun Zv Zw=>?_;refine S.aX ?_;refine S.aF cd (j:=i) (by simpa using hi) fun Z7 Bl=>?_;rw[aqX,←dj]at Bl;refine S.bl Bl fun Z8 Z9=>?_;refine S.aX ?_;refine S.alloc fun nD=>?_;refine S.ak (zD hd cL) ?_;rw[←yx];refine S.jq 0 ?_;refine S.store 0 ?_;refine S.un ?_;refine C.B (fun rS=>?_) fun rS=>?_
     ·have e2:Z=none:=by
       rw[←cz];cases W with
       |none=>rfl
       |some x=>simp at rS
      have e:gH d q [] []=none:=by
       rw[←ab];rw[e2]
      rw[e];exact⟨_,.t rfl (.t rfl (.t rfl (.t rfl .nil))),.none ⟨rfl,_,_,_,rfl,aa.nil _,aa.nil _,aa.nil _⟩⟩
     ·obtain⟨w,rfl⟩:∃w,W=some w:=ap4.1 (by simpa using rS);have hwl:=oe yx.symm;simp only[aqP]at cz;obtain⟨ad,hR⟩:∃ad,ad=fP w:=⟨_,rfl⟩
      rw[←hR]at cz;refine S.af 0 ?_;refine S.ak (ajj (x:=w) (by omega)) ?_;rw[←hR];refine S.alloc fun Em=>?_;refine S.store 0 ?_;refine S.un ?_;refine G.aE ?_;refine G.ld 0 ?_;refine G.mv ?_;refine G.mv ?_;refine G.aF dB (j:=i) (z:=it.1) fun p83 e83=>?_;refine G.bl e83 fun p84 e84=>?_;refine G.aX ?_;refine G.bin ?_;refine G.or ?_;refine G.aE ?_;refine G.ld 0 ?_;refine G.mv ?_;refine G.mv ?_;refine G.aF dB (j:=i) (z:=it.1) fun Y5 OW=>?_;refine G.bl OW fun p94 e94=>?_;refine G.aX ?_;refine G.bin ?_;refine G.or ?_;refine C.B (fun jF=>?_) fun jF=>?_
      ·have e2:Z=none:=by
        rw[←cz];cases ad with
        |none=>rfl
        |some r=>
         simp only;rw[B4];change (!true||!decide (r.ino=it.1.ino)||!decide (r.idx=it.1.idx))=true at jF;simpa using jF
       have e:gH d q [] []=none:=by
        rw[←ab];rw[e2]
       rw[e];exact⟨_,.t rfl (.t rfl (.t rfl (.t rfl .nil))),.none ⟨rfl,_,_,_,rfl,aa.nil _,aa.nil _,aa.nil _⟩⟩
      ·obtain⟨r,rfl⟩:∃r,ad=some r:=by
        cases ad with
        |none=>simp[MD]at jF
        |some r=>exact⟨r,rfl⟩
       simp only at cz;rw[pg (by
        change (!true||!decide (r.ino=it.1.ino)||!decide (r.idx=it.1.idx))=false at jF;simpa using jF)]at cz
       refine S.af 0 ?_;refine S.a8 fun anF=>?_;refine S.bu (m:=[r]) 5 o6 (.lit 0) (by simp;omega) fun PI aaa aab=>?_;refine S.drop 0 ?_;refine S.drop 0 ?_;refine S.drop 0 ?_;refine S.mv ?_;refine S.bin ?_;exact⟨m2-1,by omega,.done ⟨i+1,ww++[r],PI,aaa,by omega,cz,by simp;omega,rfl,rfl,aab,.r rfl⟩⟩
    ·rw[apZ]at fE;obtain rfl:i=l.length:=by omega
     rw[WV]at cz;simp only[rb]at cz;rw[←cz]at ab;simp only at ab;refine S.bu (m:=l.map (·.1)) 0 p4 (.f dB) (by simp;omega) fun IX IY En=>?_;refine S.bu (m:=l.map (·.2)) 1 o5 (.f cd) (by simp;omega) fun v107 aac aad=>?_;refine S.bin ?_;exact⟨m0-1,by omega,.done ⟨j+1,ao++l,ww,IX,v107,v6,IY,aac,s6,by omega,ab,by simp;omega,by omega,by rw[amw,amw];(try rfl),by rw[amw];exact En,by rw[amw];exact aad,o6,.r rfl⟩⟩
 ·obtain rfl:j=q.length:=by omega
  rw[WV]at ab;simp only[gH]at ab;rw[←ab];exact⟨_,.t rfl (.t rfl (.t rfl (.t rfl .nil))),.bR 0 rfl p4 fun o4 la h4=>.bR 0 rfl o5 fun Bm my h5=>.bR 0 rfl o6 fun PJ lc h6=>.none ⟨rfl,_,_,_,rfl,(h4.mono my).mono lc,h5.mono lc,h6⟩⟩
end Go.Ev
set_option maxHeartbeats 8000000
namespace Go.Ev
variable{F:Nat→Option aN} {O:Fz}
theorem UC [Fx F] {cs:List V} {d:ay} {sum:Int} (hd:cP O cs d) (cL:d.wait.length≤1000000):
 ai F 10 [.agg cs,.j sum] O [] (fun r ψ R=>R=[]∧∃cs',r=.aM [.agg cs',.bool (look d sum).isSome]∧tc ψ cs' ((look d sum).getD Uv)) never:=by
 obtain⟨lv,wv,rfl,hl,hw,sl,sw⟩:=hd.open;have IZ:∀X:Option aV,X=b7 d sum (-1)→(match X with|none=>none|some x=>match dX x with|none=>none|some (next,id,p)=>mZ d p ⟨next,id,[],⟨sum,x.gen⟩::p⟩)=look d sum:=fun X h=>by subst h;rfl
 obtain⟨X,hX⟩:∃X,X=b7 d sum (-1):=⟨_,rfl⟩
 have ab:=IZ X hX;refine au ?_;refine S.box fun a2=>?_;refine S.alloc fun a4=>?_;refine S.af 1 ?_;refine S.ak (zD hd cL) ?_;rw[←hX];refine S.alloc fun cb=>?_;refine S.store 0 ?_;refine S.un ?_;refine C.B (fun bq=>?_) fun bq=>?_
 ·have e:look d sum=none:=by
   rw[←ab];cases X with
   |none=>rfl
   |some x=>simp at bq
  rw[e];refine S.build ?_;refine S.store 1 ?_;exact⟨_,.cN 1 rfl rfl rfl rfl (.t rfl .nil),.none ⟨rfl,_,rfl,tc.no _⟩⟩
 ·obtain⟨x,rfl⟩:∃x,X=some x:=ap4.1 (by simpa using bq);have kT:=oe hX.symm;simp only at ab;obtain⟨Y,hY⟩:∃Y,Y=dX x:=⟨_,rfl⟩
  rw[←hY]at ab;refine S.af 0 ?_;refine S.call (Ul (x:=x) (by omega)) fun Py Eg O32 yu oY=>?_;obtain⟨rfl,pv,rfl,hp⟩:=oY;rw[←hY]at hp⊢;have hd:=hd.mono yu;refine S.un ?_;refine C.B (fun j6=>?_) fun j6=>?_
  ·have e:look d sum=none:=by
    rw[←ab];cases Y with
    |none=>rfl
    |some x=>simp at j6
   rw[e];refine S.build ?_;refine S.store 1 ?_;exact⟨_,.cN 1 rfl rfl rfl rfl (.t rfl .nil),.none ⟨rfl,_,rfl,tc.no _⟩⟩
  ·obtain⟨⟨next,id,p⟩,rfl⟩:∃y,Y=some y:=ap4.1 (by simpa using j6);have dE:=CV hY.symm;simp only at ab;change aa aq Eg pv p at hp;refine S.ld 0 ?_;refine S.build ?_;refine S.a8 fun a46=>?_;have tU:ae aq (.sl a46 0 1 (.ex 1)) [⟨sum,x.gen⟩] (some a46):=ae.new rfl;refine S.bu (m:=p) 0 tU (.f hp) (by simp;omega) fun AL H8 DR=>?_;have Pp:=DR.av;refine S.drop 1 ?_;refine S.build ?_;refine S.alloc fun gR=>?_;refine S.store 0 ?_;refine SW.new bT ?_;refine SW.new bT ?_;refine SW.new bT ?_;refine SW.new dW ?_;refine SW.bG (fun m E ψ R=>∃(j:Nat) (s:oa) (v2 v3 v4 v5 v6:V) (n3 ql qm:List SV) (s2 s3 uh ui s6:Option Pa),j+m=p.length∧mZ d (p.drop j) s=look d sum∧s.all.length≤8+336*j∧s.trees.length=j∧R=[dW.ob s2 (s.trees.map (·.root)),bT.ob s3 n3,bT.ob uh ql,bT.ob ui qm,(some gR,.cells [.j s.next,.j s.id,v2,v3,v4,v5,v6] false),aq.ob s6 s.all,(some a4,.cells [.j 0,.j 0,.no .sl,.no .sl,.no .sl,.no .sl,.no .sl] false),(some a2,.cells [lv,wv,.j d.arm,.bool d.down] false)]∧ae dW v2 (s.trees.map (·.root)) s2∧ae bT v3 n3 s3∧ae bT v4 ql uh∧ae bT v5 qm ui∧ae aq v6 s.all s6∧NR br ψ n3 (s.trees.map (fun t=>t.ao.map (·.1)))∧NR aq ψ ql (s.trees.map (fun t=>t.ao.map (·.2)))∧NR aH ψ qm (s.trees.map (·.tree))∧Sub [(1,.j sum),(2,.ptr a2 0),(4,.ptr a4 0),(10,pv),(11,.ptr gR 0),(12,.j (j:Int))] E) (m:=p.length) (.done ⟨0,⟨next,id,[],⟨sum,x.gen⟩::p⟩,.no .sl,.no .sl,.no .sl,.no .sl,AL,[],[],[],none,none,none,none,H8,by omega,ab,by simp;omega,rfl,rfl,ae.nil,ae.nil,ae.nil,ae.nil,DR,NR.nil _,NR.nil _,NR.nil _,.r rfl⟩) ?_;intro m0 E ψ R ac hI;obtain⟨j,s,v2,v3,v4,v5,v6,n3,ql,qm,s2,s3,uh,ui,s6,e5,ab,oB,di,rfl,o2,p3,p4,o5,o6,h3,h4,h5,hE⟩:=hI;refine C.sub hE ?_;refine S.len ?_ (hl:=aa.len hp);refine S.bin ?_;refine C.D (fun uj=>?_) fun uj=>?_
   ·have hj:j<p.length:=by omega
    have hp:=hp.mono ac;have hd:=hd.mono ac;obtain⟨q,hq⟩:∃q,q=p[j]:=⟨_,rfl⟩
    rw[Rm hj,←hq]at ab;simp only[mZ,u4]at ab;obtain⟨X,hX⟩:∃X,X=b7 d q.addr q.gen:=⟨_,rfl⟩
    rw[←hX]at ab;have k3:=h3.1;have k4:=h4.1;have k5:=h5.1;rw[apZ]at k3 k4 k5;refine S.af 7 ?_;refine S.aF hp hj fun p60 PK=>?_;rw[←hq]at PK;refine S.bl PK fun p61 e61=>?_;refine S.aX ?_;refine S.aF hp hj fun Yz DV=>?_;rw[←hq]at DV;refine S.bl DV fun OM Ib=>?_;refine S.aX ?_;refine S.alloc fun gS=>?_;refine S.ak (zD hd cL) ?_;rw[←hX];refine S.jq 0 ?_;refine S.store 0 ?_;refine S.un ?_;refine C.B (fun mt=>?_) fun mt=>?_
    ·have e:look d sum=none:=by
      rw[←ab];cases X with
      |none=>rfl
      |some x=>simp at mt
     rw[e];refine S.build ?_;refine S.store 7 ?_;exact⟨_,.cN 7 rfl rfl rfl rfl (.t rfl .nil),.none ⟨rfl,_,rfl,tc.no _⟩⟩
    ·obtain⟨y,rfl⟩:∃x,X=some x:=ap4.1 (by simpa using mt);have hyl:=oe hX.symm;simp only[aqP]at ab;obtain⟨Y,hY⟩:∃Y,Y=eT y:=⟨_,rfl⟩
     rw[←hY]at ab;refine S.af 0 ?_;refine S.drop 0 ?_;refine S.call (ajm (x:=y) (by omega)) fun v76 aae O76 I0 I1=>?_;obtain⟨rfl,aaf,rfl,uk⟩:=I1;rw[←hY]at uk⊢;have hd:=hd.mono I0;have hp:=hp.mono I0;refine S.alloc fun r6=>?_;refine S.store 0 ?_;refine S.un ?_;refine C.B (fun I2=>?_) fun I2=>?_
     ·have e:look d sum=none:=by
       rw[←ab];cases Y with
       |none=>rfl
       |some x=>simp at I2
      rw[e];refine S.build ?_;refine S.store 7 ?_;exact⟨_,.cN 7 rfl rfl rfl rfl (.t rfl .nil),.none ⟨rfl,_,rfl,tc.no _⟩⟩
     ·obtain⟨⟨rt,I3⟩,rfl⟩:∃y,Y=some y:=ap4.1 (by simpa using I2);have hqn:=ME hY.symm;simp only at ab;change aa aq aae aaf I3 at uk;obtain⟨Z,nI⟩:∃Z,Z=gH d I3 [] []:=⟨_,rfl⟩
      rw[←nI]at ab;refine S.af 8 ?_;refine S.call (ajt hd cL uk (by omega)) fun v86 I4 O86 Eo h86=>?_;obtain⟨rfl,k0,r7,mr,rfl,bX,cK,cu⟩:=h86;rw[←nI]at bX cK cu⊢;have hd:=hd.mono Eo;have hp:=hp.mono Eo;have uk:=uk.mono Eo;refine S.un ?_;refine C.B (fun qo=>?_) fun qo=>?_
      ·have e:look d sum=none:=by
        rw[←ab];cases Z with
        |none=>rfl
        |some x=>simp at qo
       rw[e];refine S.build ?_;refine S.store 7 ?_;exact⟨_,.cN 7 rfl rfl rfl rfl (.t rfl .nil),.none ⟨rfl,_,rfl,tc.no _⟩⟩
      ·obtain⟨⟨ao,rs⟩,rfl⟩:∃y,Z=some y:=ap4.1 (by simpa using qo);have PL:=MF nI.symm;simp only[aqW]at PL;simp only at ab;change aa br I4 k0 (ao.map (·.1))at bX;change aa aq I4 r7 (ao.map (·.2))at cK;change aa br I4 mr rs at cu;obtain⟨T,kW⟩:∃T,T=fh rs:=⟨_,rfl⟩
       rw[←kW]at ab;refine S.call (ajr cu (by omega) (fun r hr=>by have:=PL.2.2 (by simp) r hr;omega)) fun v96 aag O96 Ep h96=>?_;obtain⟨rfl,v20,rfl,cU⟩:=h96;rw[←kW]at cU⊢;have uk:=uk.mono Ep;have bX:=bX.mono Ep;have cK:=cK.mono Ep;refine S.un ?_;refine C.B (fun nJ=>?_) fun nJ=>?_
       ·have e:look d sum=none:=by
         rw[←ab];cases T with
         |none=>rfl
         |some x=>simp at nJ
        rw[e];refine S.build ?_;refine S.store 7 ?_;exact⟨_,.cN 7 rfl rfl rfl rfl (.t rfl .nil),.none ⟨rfl,_,rfl,tc.no _⟩⟩
       ·obtain⟨t,rfl⟩:∃y,T=some y:=ap4.1 (by simpa using nJ);simp only at ab;change aa aH aag v20 t at cU;have IS:=bX.av;have Ih:=cK.av;have Ba:=cU.av;have hz:=(I0.trans Eo).trans Ep;refine S.ld 5 ?_;refine S.af 0 ?_;refine S.a8 fun a105=>?_;refine S.ld 6 ?_;refine S.a8 fun aah=>?_;refine S.ld 7 ?_;refine S.a8 fun anG=>?_;refine S.ld 8 ?_;refine S.a8 fun anH=>?_;refine S.bu (e:=dW) (m:=[rt]) 5 o2 (.lit 3) (by simp;omega) fun aai aaj PM=>?_;refine S.gi 0 ?_ (hm:=cU.cm);refine S.bF 9 ?_ (hs:=o5.same);refine S.gi 1 ?_ (hm:=cK.cm);refine S.bF 9 ?_ (hs:=p4.same);refine S.gi 2 ?_ (hm:=bX.cm);refine S.bF 9 ?_ (hs:=p3.same);refine S.bu (e:=bT) (m:=[⟨k0,bX.av⟩]) 6 p3 (.lit 2) (by simp;omega) fun I5 I6 Bn=>?_;refine S.gi 0 ?_ (hm:=cU.cm);refine S.bF 9 ?_ (hs:=o5.same);refine S.gi 1 ?_ (hm:=cK.cm);refine S.bF 9 ?_ (hs:=p4.same);refine S.bu (e:=bT) (m:=[⟨r7,cK.av⟩]) 7 p4 (.lit 1) (by simp;omega) fun aak aal PN=>?_;refine S.gi 0 ?_ (hm:=cU.cm);refine S.bF 9 ?_ (hs:=o5.same);refine S.bu (e:=bT) (m:=[⟨v20,cU.av⟩]) 8 o5 (.lit 0) (by simp;omega) fun aam aan PO=>?_;have anI:=PM.av;have aao:=Bn.av;have anJ:=PN.av;have anK:=PO.av;refine S.hK 9 ?_;refine S.hK 9 ?_;refine S.hK 9 ?_;refine S.hK 9 ?_;refine S.drop 0 ?_;refine S.drop 0 ?_;refine S.drop 0 ?_;refine S.drop 0 ?_;refine S.drop 0 ?_;refine S.ld 4 ?_;refine S.bu (m:=I3) 5 o6 (.f uk) (by omega) fun anL anM aap=>?_;refine S.bu (m:=ao.map (·.2)) 5 aap (.f cK) (by simp;omega) fun v131 aaq I7=>?_;have anN:=I7.av;rw[KK]at I7⊢;refine S.hK 4 ?_;refine S.bin ?_;refine⟨m0-1,by omega,.done ⟨j+1,_,aai,I5,aak,aam,v131,_,_,_,aaj,I6,aal,aan,aaq,by omega,ab,by simp;omega,by simp;omega,by rw[amw];(try rfl),by rw[amw];exact PM,Bn,PN,PO,I7,by rw[amw];exact(h3.mono hz).snoc bX,by rw[amw];exact(h4.mono hz).snoc cK,by rw[amw];exact(h5.mono hz).snoc cU,.r rfl⟩⟩
   ·obtain rfl:j=p.length:=by omega
    rw[WV]at ab;simp only[mZ]at ab;rw[←ab];have w2:=o2.av;have I8:=p3.av;have I9:=p4.av;have Ja:=o5.av;have Jb:=o6.av;refine S.af 4 ?_;refine S.store 6 ?_;exact⟨_,.cN 6 rfl rfl rfl rfl (.t rfl .nil),.bR 0 rfl o2 fun o4 la k2=>.bR 0 rfl p3 fun Bm my k3=>.bR 0 rfl p4 fun PJ lc k4=>.bR 0 rfl o5 fun ψd ld k5=>.bR 1 rfl o6 fun ψe le k6=>.none ⟨rfl,_,rfl,v2,v3,v4,v5,v6,n3,ql,qm,rfl,(((k2.mono my).mono lc).mono ld).mono le,((k3.mono lc).mono ld).mono le,(((((h3.mono la).mono my).mono lc).mono ld).mono le),(k4.mono ld).mono le,(((((h4.mono la).mono my).mono lc).mono ld).mono le),k5.mono le,(((((h5.mono la).mono my).mono lc).mono ld).mono le),k6⟩⟩
theorem MG [Fx F] {cs:List V} {d:ay} {sum:Int} (hd:cP O cs d) (cL:d.wait.length≤1000000):
 ai F 8 [.agg cs,.j sum] O [] (fun r ψ R=>R=[]∧∃pv,r=.aM [pv,.bool (blocks d sum).isSome]∧aa aq ψ pv ((blocks d sum).getD [])) never:=by
 obtain⟨lv,wv,rfl,hl,hw,sl,sw⟩:=hd.open;obtain⟨X,hX⟩:∃X,X=look d sum:=⟨_,rfl⟩
 refine au ?_;refine S.box fun a2=>?_;refine S.af 0 ?_;refine S.call (UC hd cL) fun oO nr DT p8 c0=>?_;obtain⟨rfl,cs,rfl,hs⟩:=c0;rw[←hX]at hs⊢;obtain⟨v2,v3,v4,v5,v6,n3,ql,qm,rfl,k2,k3,tM,k4,anO,k5,Er,k6⟩:=hs;have w2:=k2.av;have I8:=k3.av;have I9:=k4.av;have Ja:=k5.av;have Jb:=k6.av;refine S.alloc fun cb=>?_;refine S.store 0 ?_;refine S.un ?_;refine C.B (fun d4=>?_) fun d4=>?_
 ·have e:blocks d sum=none:=by
   unfold blocks;rw[←hX];cases X with
   |none=>rfl
   |some x=>simp at d4
  rw[e];exact⟨_,.t rfl (.t rfl .nil),.none ⟨rfl,_,rfl,aa.nil _⟩⟩
 ·obtain⟨s,rfl⟩:∃s,X=some s:=ap4.1 (by simpa using d4);have gQ:=(Ut hX.symm).1;change aa aq nr v6 s.all at k6;have e:blocks d sum=some (xB s.all):=by unfold blocks;rw[←hX];(try rfl)
  rw[e];refine SW.new aq ?_;refine SW.bG (fun m E ψ R=>∃(j:Nat) (out:List ag) (v:V) (sv:Option Pa),j+m=s.all.length∧out=(s.all.take j).foldl (fun out p=>dq p out) []∧out.length≤j∧nr=ψ∧R=[aq.ob sv out,(some cb,.cells [.j s.next,.j s.id,v2,v3,v4,v5,v6] false),(some a2,.cells [lv,wv,.j d.arm,.bool d.down] false)]∧ae aq v out sv∧Sub [(6,.ptr cb 0),(8,v),(9,.j (j:Int))] E) (m:=s.all.length) (.done ⟨0,[],.no .sl,none,by omega,rfl,by simp,rfl,rfl,ae.nil,.r rfl⟩) ?_;intro m0 E ψ R ac hI;obtain⟨j,out,v,sv,e5,mz,dC,rfl,rfl,ho,hE⟩:=hI;refine C.sub hE ?_;refine S.ld 1 ?_;refine S.len ?_ (hl:=aa.len k6);refine S.bin ?_;refine C.D (fun d5=>?_) fun d5=>?_
  ·have hj:j<s.all.length:=by omega
   refine S.ld 1 ?_;refine S.aF k6 hj fun OJ OK=>?_;refine S.bP ?_;refine S.bb 0 rfl (ai.same (ajs (p:=s.all[j]) ho (by omega))) fun vT rV AP mn fp=>?_;obtain⟨rfl,PP,rfl,ul⟩:=fp;refine S.bin ?_;refine⟨m0-1,by omega,.done ⟨j+1,dq s.all[j] out,vT,PP,by omega,by rw[aqd hj,arM,←mz];(try rfl),by have:=Uu s.all[j] out;omega,rfl,rfl,ul,.r rfl⟩⟩
  ·obtain rfl:j=s.all.length:=by omega
   rw[ap2]at mz;subst mz;exact⟨_,.t rfl (.t rfl .nil),.bR 0 rfl ho fun o4 la hf=>.none ⟨rfl,_,rfl,hf⟩⟩
end Go.Ev
namespace Go.Ev
def bW (d:ay):Nat:=(d.last.length-2)/64
def bO (s:Int):Int:=if s<0 then-1 else 2+s*64
def gI (a:Int):Int:=if a<2 then-1 else(((a-2).toNat/64:Nat):Int)
def gJ (out:List Int) (p:ag):List Int:=if 0≤gI p.addr∧gI p.addr<(out.length:Int)then out.set (gI p.addr).toNat ((out[(gI p.addr).toNat]?).getD 0+1)else out
def lT (d:ay) (sum:Int):List Int:=((blocks d sum).getD []).foldl gJ (List.replicate (bW d) 0)
def re (eC:Int):Int→List Int→Option Int
 |_,[]=>none
 |i,n::l=>if n=0∧i≠eC then some i else re eC (i+1) l
def rf (d:ay) (sum eC:Int):Option Int:=re eC 0 (lT d sum)
def dN:ay→Int→List aV→ay×Bool
 |d,_,[]=>d.flush
 |d,i,x::l=>if(d.write i (eR x)).2 then dN (d.write i (eR x)).1 (i+1) l else((d.write i (eR x)).1,false)
def jr (d:ay) (s:xn):ay×Bool:=if(d.write (s.n%2) (mT s)).2 then(d.write (s.n%2) (mT s)).1.flush else((d.write (s.n%2) (mT s)).1,false)
def zE (kind id:Int) (h:bD):Bool:=decide (h.r.kind=kind)&&(!decide (kind=3)||decide (h.r.id=id))
def kK (l:List bD) (kind id:Int):Option bD:=l.find? (zE kind id)
def et (l:List bD):an:=match kK l 1 0 with
 |none=>u1
 |some h=>h.t
def hS:List bD→Int→Int→Option (List bD)
 |[],_,_=>none
 |h::l,kind,id=>if zE kind id h then some l else(hS l kind id).map (h::·)
def zF (l:List bD):List dn:=(l.filter (fun h=>decide (h.r.kind=3))).map (·.r)
def MH (a b:dn):Bool:=decide (a.kind<b.kind)||(decide (a.kind=b.kind)&&decide (a.id<b.id))
def lU (h:bD):List bD→List bD
 |[]=>[h]
 |x::l=>if MH h.r x.r then h::x::l else x::lU h l
def fi (l:List bD) (h:bD):List bD:=lU h ((hS l h.r.kind h.r.id).getD l)
def lV (l:List bD) (t:an):List bD:=if bL t then fi l ⟨((kK l 1 0).map (·.r)).getD ⟨1,0,0,0,0⟩,t⟩else l
theorem GC (d:ay) (i:Int) (b:Bs):(d.write i b).1.wait.length≤d.wait.length+1∧(d.write i b).1.last.length=d.last.length∧(d.write i b).1.arm≤max d.arm 0:=by
 unfold ay.write;split
 ·exact⟨aqF _,rfl,by show d.arm≤_;omega⟩
 ·split
  ·refine⟨by simp,rfl,?_⟩;show d.arm-1≤_;omega
  ·exact⟨by simp,rfl,by show d.arm≤_;omega⟩
theorem aju (d:ay):d.qZ.length=d.last.length:=by
 unfold ay.qZ;have:∀(w:List uZ) (l:List Bs),(w.foldl kF l).length=l.length:=by
  intro w;induction w with
  |nil=>intro l;rfl
  |cons a w ih=>intro l;rw[aqk,ih,Ty]
 exact this _ _
theorem UD (d:ay):d.flush.1.last.length=d.last.length∧d.flush.1.wait.length≤d.wait.length∧d.flush.1.arm=d.arm:=by
 unfold ay.flush;split
 ·exact⟨rfl,B5 _,rfl⟩
 ·exact⟨aju d,by simp,rfl⟩
theorem UE {x:aV} {n i:Int} {p:List ag} (h:dX x=some (n,i,p)):p.all ep=true:=by
 unfold dX at h;split at h
 ·rename_i I;cases h;by_cases hr:pK x.gen (ek x.load).1 (ek x.load).2.1 (ek x.load).2.2.1=true
  ·unfold pK at hr;simp only[G7]at hr;exact hr.2
  ·have h3:=I.2.2;unfold gh at h3;rw[pg hr]at h3;have:=I.1;rw[←h3]at this;cases this
 ·cases h
theorem ajv {x:aV} {r:dn} {p:List ag} (h:eT x=some (r,p)):p.all ep=true:=by
 unfold eT at h;split at h
 ·rename_i I;cases h;by_cases hr:pJ x.gen (gG x.load).1 (gG x.load).2.1=true
  ·unfold pJ at hr;simp only[G7]at hr;exact hr.2
  ·have h3:=I.2.2;unfold fA at h3;rw[pg hr]at h3;have:=I.1;rw[←h3]at this;cases this
 ·cases h
theorem ajw {x:aV} {l:List b2} (h:er x=some l):l.all pI=true∧l.length≤6:=by
 unfold er at h;split at h
 ·rename_i h0;split at h
  ·rename_i I;cases h;obtain⟨l,hl⟩:∃l,l=(idxOf x.load).1:=⟨_,rfl⟩
   have J:=I.2;rw[←hl]at J⊢;unfold iW at J;cases l with
   |nil=>cases J
   |cons a r=>
    simp only[WW,iV]at J;injection J with h3 h4
    have hd:(a::r).drop 6=[]:=by
     cases hr:(a::r).drop 6 with
     |nil=>rfl
     |cons b t=>
      have ap:6<(a::r).length:=by
       have:=congrArg List.length hr;simp only[Rn,WW]at this⊢;omega
      obtain⟨f,hf⟩:∃f,r.length=f+1:=⟨r.length-1,by rw[WW]at ap;omega⟩
      rw[hr,hf]at h4;simp only[iV]at h4;cases h4
    have hlen:(a::r).length≤6:=List.drop_eq_nil_iff.1 hd;rw[aqz hlen]at h3;refine⟨?_,hlen⟩;unfold jn at h3;split at h3
    ·rename_i hh;simp only[G7]at hh;exact hh.2
    ·have:=h0.1;rw[←h3]at this;cases this
  ·cases h
 ·cases h
theorem UF {d:ay}:∀{q:List ag} {ao iN:List b2} {rs hH:List bH},gH d q ao rs=some (iN,hH)→ao.all pI=true→iN.all pI=true
 |[],ao,iN,rs,hH,h,ha=>by cases h;exact ha
 |p::q,ao,iN,rs,hH,h,ha=>by
  simp only[gH]at h;split at h
  ·cases h
  ·rename_i l hl;split at h
   ·cases h
   ·obtain⟨b,b0,dl⟩:=aqg.1 hl;exact UF h (by rw[arQ,ha,(ajw dl).1];(try rfl))
theorem ajx {d:ay} {p:ag} {x:jW} {l:List ag} (h:u4 d p=some (x,l)):l.all ep=true:=by
 unfold u4 at h;split at h
 ·cases h
 ·rename_i r q hq;split at h
  ·cases h
  ·rename_i ao dp hr;split at h
   ·cases h
   ·cases h;obtain⟨b,b0,dl⟩:=aqg.1 hq;have J:=UF hr rfl;rw[arQ,ajv dl,List.all_map,aql,ap6];intro i hi;have:=ap6.1 J i hi;unfold pI at this;simp only[G7]at this;exact this.2
theorem MI {d:ay} {P:ag→Prop} (jb:∀p,ep p=true→P p):∀{l:List ag} {s s':oa},mZ d l s=some s'→(∀p∈s.all,P p)→∀p∈s'.all,P p
 |[],s,s',h,ha=>by cases h;exact ha
 |p::r,s,s',h,ha=>by
  simp only[mZ]at h;split at h
  ·cases h
  ·rename_i x l hx;refine MI jb h fun q hq=>?_;rw[aqh]at hq;rcases hq with hq|hq
   ·exact ha q hq
   ·exact jb q (ap6.1 (ajx hx) q hq)
theorem ajy {d:ay} {sum:Int} {s:oa} (h:look d sum=some s):∀p∈s.all,ep p=true∨p.addr=sum:=by
 unfold look at h;split at h
 ·cases h
 ·split at h
  ·cases h
  ·rename_i x hx n i p hp;refine MI (P:=fun p=>ep p=true∨p.addr=sum) (fun p h=>.inl h) h fun q hq=>?_;rcases Ro.1 hq with rfl|hq
   ·exact .inr rfl
   ·exact .inl (ap6.1 (UE hp) q hq)
theorem UG {p q:ag}:∀{l:List ag},q∈dq p l→q=p∨q∈l
 |[],h=>by simp only[dq,aqj]at h;exact .inl h
 |a::l,h=>by
  simp only[dq]at h;split at h
  ·exact .inr h
  ·split at h
   ·rcases Ro.1 h with h|h
    ·exact .inl h
    ·exact .inr h
   ·rcases Ro.1 h with h|h
    ·exact .inr (Ro.2 (.inl h))
    ·rcases UG h with h|h
     ·exact .inl h
     ·exact .inr (amI _ h)
theorem UH {l:List ag} {q:ag} (h:q∈xB l):q∈l:=by
 have key:∀(l out:List ag),q∈l.foldl (fun out p=>dq p out) out→q∈l∨q∈out:=by
  intro l;induction l with
  |nil=>exact fun out h=>.inr h
  |cons a l ih=>
   intro out h;rcases ih _ h with h|h
   ·exact .inl (amI _ h)
   ·rcases UG h with h|h
    ·exact .inl (by rw[h];exact apV)
    ·exact .inr h
 rcases key l [] h with h|h
 ·exact h
 ·cases h
theorem MJ {d:ay} {sum:Int} {l:List ag} (h:blocks d sum=some l):∀p∈l,ep p=true∨p.addr=sum:=by
 unfold blocks at h;obtain⟨s,I,J⟩:=aqp.1 h;subst J;exact fun p hp=>ajy I p (UH hp)
theorem ajz (l:List ag):(xB l).length≤l.length:=by
 have key:∀(l out:List ag),(l.foldl (fun out p=>dq p out) out).length≤out.length+l.length:=by
  intro l;induction l with
  |nil=>intro out;exact B5 _
  |cons a l ih=>
   intro out;have I:=ih (dq a out);have J:=Uu a out;rw[aqk,WW];omega
 have:=key l [];simpa[xB]using this
theorem GD {d:ay} {sum:Int} {l:List ag} (h:blocks d sum=some l):l.length≤2360:=by
 unfold blocks at h;obtain⟨s,I,J⟩:=aqp.1 h;subst J;have:=ajz s.all;have:=(Ut I).1;omega
end Go.Ev
namespace Go.Ev
theorem aa.dd {U:Type} {e:bI U} {O:Fz} {v:V} {l:List U} (h:aa e O v l):Go.Ev.dd v v=true:=by
 have:=FS.same h;have hs:=h.av;cases v<;>first|exact this|(simp[isScalar]at hs)
def fC:bI (dn×SV):=⟨6,fun h=>[.int .i64 h.1.kind,.int .i64 h.1.id,.int .i64 h.1.dx,.int .i64 h.1.base,.int .i64 h.1.done,h.2.1],fun _=>rfl,fun h=>by simp[aY,lH,h.2.2]⟩
def HR (O:Fz) (hs:List (dn×SV)) (l:List bD):Prop:=hs.map (·.1)=l.map (·.r)∧NR aH O (hs.map (·.2)) (l.map (·.t))
def js (O:Fz) (tv:V) (l:List bD):Prop:=∃hs,aa fC O tv hs∧HR O hs l
theorem HR.mono {O ψ:Fz} {hs:List (dn×SV)} {l:List bD} (h:HR O hs l) (ac:O.Le ψ):HR ψ hs l:=⟨h.1,h.2.mono ac⟩
theorem HR.len {O:Fz} {hs:List (dn×SV)} {l:List bD} (h:HR O hs l):hs.length=l.length:=by have:=congrArg List.length h.1;simpa using this
theorem HR.at {O:Fz} {hs:List (dn×SV)} {l:List bD} (h:HR O hs l) {i:Nat} (hi:i<hs.length) (hj:i<l.length):(hs[i]).1=(l[i]).r∧aa aH O (hs[i]).2.1 (l[i]).t:=by
 constructor
 ·have I:(hs.map (·.1))[i]? =(l.map (·.r))[i]? :=by rw[h.1]
  rw[aqH,aqH,KJ hi,KJ hj]at I;simpa using I
 ·exact h.2.2 i _ _ (by rw[aqH,KJ hi];(try rfl)) (by rw[aqH,KJ hj];(try rfl))
theorem js.mono {O ψ:Fz} {tv:V} {l:List bD} (h:js O tv l) (ac:O.Le ψ):js ψ tv l:=let⟨hs,I,J⟩:=h;⟨hs,I.mono ac,J.mono ac⟩
theorem js.nil (O:Fz):js O (.no .sl) []:=⟨[],aa.nil O,rfl,NR.nil O⟩
theorem HR.nil (O:Fz):HR O [] []:=⟨rfl,NR.nil O⟩
theorem NR.app {U:Type} {e:bI U} {O:Fz} {a b:List SV} {c d:List (List U)} (I:NR e O a c) (J:NR e O b d):NR e O (a++b) (c++d):=by
 refine⟨by simp[I.1,J.1],fun i v l k1 k2=>?_⟩;by_cases hi:i<a.length
 ·rw[apQ hi]at k1;rw[apQ (by rw[←I.1];exact hi)]at k2;exact I.2 i v l k1 k2
 ·rw[apG (by omega)]at k1;rw[apG (by rw[←I.1];omega),←I.1]at k2;exact J.2 _ v l k1 k2
theorem HR.app {O:Fz} {a b:List (dn×SV)} {c d:List bD} (I:HR O a c) (J:HR O b d):HR O (a++b) (c++d):=⟨by rw[amw,amw,I.1,J.1],by rw[amw,amw];exact I.2.app J.2⟩
theorem NR.take {U:Type} {e:bI U} {O:Fz} {a:List SV} {c:List (List U)} (h:NR e O a c) (n:Nat):NR e O (a.take n) (c.take n):=⟨by simp[h.1],fun i v l k1 k2=>by
 rw[aqt]at k1 k2;split at k1
 ·rw[B4 (by assumption)]at k2;exact h.2 i v l k1 k2
 ·cases k1⟩
theorem NR.drop {U:Type} {e:bI U} {O:Fz} {a:List SV} {c:List (List U)} (h:NR e O a c) (n:Nat):NR e O (a.drop n) (c.drop n):=⟨by simp[h.1],fun i v l k1 k2=>by
 rw[aqi]at k1 k2;exact h.2 _ v l k1 k2⟩
theorem HR.take {O:Fz} {a:List (dn×SV)} {c:List bD} (h:HR O a c) (n:Nat):HR O (a.take n) (c.take n):=⟨by rw[List.map_take,List.map_take,h.1],by rw[List.map_take,List.map_take];exact h.2.take n⟩
theorem HR.drop {O:Fz} {a:List (dn×SV)} {c:List bD} (h:HR O a c) (n:Nat):HR O (a.drop n) (c.drop n):=⟨by rw[List.map_drop,List.map_drop,h.1],by rw[List.map_drop,List.map_drop];exact h.2.drop n⟩
theorem HR.one {O:Fz} {r:dn} {w:SV} {t:an} (h:aa aH O w.1 t):HR O [(r,w)] [⟨r,t⟩]:=⟨rfl,rfl,fun i v l k1 k2=>by
 cases i with
 |zero=>simp at k1 k2;subst k1;subst k2;exact h
 |succ i=>simp at k1⟩
abbrev be (lv wv tv:V) (v:aW):List V:=[lv,wv,.int .i64 v.d.arm,.bool v.d.down,.int .i64 v.seq,.int .i64 v.sum,.int .i64 v.aU,.int .i64 v.pos,.int .i64 v.n,.int .i64 v.next,.int .i64 v.id,tv]
def bZ (O:Fz) (cs:List V) (v:aW):Prop:=∃lv wv tv,cs=be lv wv tv v∧aa ec O lv v.d.last∧aa nW O wv v.d.wait∧js O tv v.trees
theorem bZ.mono {O ψ:Fz} {cs:List V} {v:aW} (h:bZ O cs v) (ac:O.Le ψ):bZ ψ cs v:=let⟨a,b,c,I,J,h3,h4⟩:=h;⟨a,b,c,I,J.mono ac,h3.mono ac,h4.mono ac⟩
theorem js.av {O:Fz} {tv:V} {l:List bD} (h:js O tv l):isScalar tv=true:=let⟨_,I,_⟩:=h;I.av
theorem js.dd {O:Fz} {tv:V} {l:List bD} (h:js O tv l):Go.Ev.dd tv tv=true:=let⟨_,I,_⟩:=h;I.dd
theorem js.same {O:Fz} {tv:V} {l:List bD} (h:js O tv l):Go.Ev.same tv tv=true:=let⟨_,I,_⟩:=h;I.same
theorem bZ.open {O:Fz} {cs:List V} {v:aW} (h:bZ O cs v):∃lv wv tv,cs=be lv wv tv v∧aa ec O lv v.d.last∧aa nW O wv v.d.wait∧js O tv v.trees∧isScalar lv=true∧isScalar wv=true∧isScalar tv=true∧cP O [lv,wv,.int .i64 v.d.arm,.bool v.d.down] v.d:=
 let⟨a,b,c,I,J,h3,h4⟩:=h;⟨a,b,c,I,J,h3,h4,J.av,h3.av,h4.av,a,b,rfl,J,h3⟩
theorem UI (n:Nat):mm true (.int .i64 ((n:Int)-2)) (.int .i64 0)=some (.int .i64 ((n-2:Nat):Int)):=by
 by_cases h:2≤n
 ·have e:((n:Int)-2)=((n-2:Nat):Int):=by omega
  rw[e,show(0:Int)=((0:Nat):Int)from rfl,Tn,Nat.max_zero]
 ·have I:n=0∨n=1:=by omega
  rcases I with rfl|rfl<;>rfl
end Go.Ev
namespace Go.Ev
variable{F:Nat→Option aN} {O:Fz}
theorem MK [Fx F] {cs:List V} {d:ay} (hd:cP O cs d) (hlen:d.last.length≤1000000):bk F 20 [.agg cs] O (.j (bW d:Nat)):=by
 obtain⟨lv,wv,rfl,hl,hw,sl,sw⟩:=hd.open;refine ai.ak (au ?_);refine S.box fun bs=>?_;refine S.ld 0 ?_;refine S.len ?_ (hl:=aa.len hl);refine S.bin ?_;refine S.pB (UI _) ?_;refine S.bin ?_ (hv:=CT (m:=64) (by omega) (by omega));refine⟨_,.t rfl .nil,.done ?_⟩;rfl
theorem va [Fx F] {s:Int} (hs:s≤1099511627776):bk F 16 [.j s] O (.j (bO s)):=by
 refine ai.ak (au ?_);refine S.bin ?_;refine C.D (fun fj=>?_) fun fj=>?_
 ·have e:bO s=-1:=by unfold bO;exact B4 fj
  rw[e];refine⟨_,.t rfl .nil,.done ?_⟩;rfl
 ·have e:bO s=2+s*64:=by unfold bO;exact pg fj
  rw[e];refine S.bin ?_;refine S.bin ?_;refine⟨_,.t rfl .nil,.done ?_⟩;rfl
theorem ML [Fx F] {a:Int} (ha:a≤9223372036854775807):bk F 18 [.j a] O (.j (gI a)):=by
 refine ai.ak (au ?_);refine S.bin ?_;refine C.D (fun fj=>?_) fun fj=>?_
 ·have e:gI a=-1:=by unfold gI;exact B4 fj
  rw[e];refine⟨_,.t rfl .nil,.done ?_⟩;rfl
 ·have e:gI a=(((a-2).toNat/64:Nat):Int):=by unfold gI;exact pg fj
  rw[e];refine S.bin ?_ (v:=.j (((a-2).toNat:Nat):Int)) (hv:=by rw[ig (by omega) (by omega),show(((a-2).toNat:Nat):Int)=a-2 by omega]);refine S.bin ?_ (hv:=CT (m:=64) (by omega) (by omega));refine⟨_,.t rfl .nil,.done ?_⟩;rfl
theorem ajA (out:List Int) (p:ag):(gJ out p).length=out.length:=by unfold gJ;split<;>simp
theorem GF {out:List Int} {p:ag} {j:Nat} (h:∀x∈out,0≤x∧x≤(j:Int)):∀x∈gJ out p,0≤x∧x≤((j+1:Nat):Int):=by
 unfold gJ;split
 ·rename_i hc;intro x hx;rcases ara hx with I|I
  ·have:=h x I;omega
  ·have ap:(gI p.addr).toNat<out.length:=by omega
   rw[KJ ap]at I;have:=h _ (W1 ap);simp at I;omega
 ·intro x hx;have:=h x hx;omega
theorem CX (d:ay) (sum:Int):(lT d sum).length=bW d:=by
 have key:∀(l:List ag) (out:List Int),(l.foldl gJ out).length=out.length:=by
  intro l;induction l with
  |nil=>intro out;rfl
  |cons a l ih=>intro out;rw[aqk,ih,ajA]
 unfold lT;rw[key];simp
theorem vb {U β:Type} (f:β→U→β) (z:β) (l:List U) (j:Nat) (hj:j<l.length):(l.take (j+1)).foldl f z=f ((l.take j).foldl f z) l[j]:=by
 rw[aqd hj,arM];(try rfl)
theorem UJ [Fx F] {cs:List V} {d:ay} {sum:Int} (hd:cP O cs d) (cL:d.wait.length≤1000000) (hlen:d.last.length≤1000000) (wz:sum≤9223372036854775807):
 ai F 23 [.agg cs,.j sum] O [] (fun r ψ R=>R=[]∧aa bp ψ r (lT d sum)) never:=by
 obtain⟨lv,wv,rfl,hl,hw,sl,sw⟩:=hd.open;obtain⟨L,hL⟩:∃L,L=(blocks d sum).getD []:=⟨_,rfl⟩
 have wA:∀p∈L,p.addr≤9223372036854775807:=by
  intro p hp;cases hb:blocks d sum with
  |none=>rw[hL,hb]at hp;cases hp
  |some l=>
   rw[hL,hb]at hp;rcases MJ hb p hp with h|h
   ·unfold ep at h;simp only[G7,G6]at h;omega
   ·omega
 have Jc:L.length≤2360:=by
  cases hb:blocks d sum with
  |none=>rw[hL,hb];simp
  |some l=>rw[hL,hb];exact GD hb
 have Es:bW d≤1000000:=by unfold bW;omega
 refine au ?_;refine S.box fun a2=>?_;refine S.af 0 ?_;refine S.ak (MK hd hlen) ?_;refine S.u0 (e:=bp) (0:Int) (n:=bW d) (by omega) (by omega) fun ez x3=>?_;refine S.af 1 ?_;refine S.call (MG hd cL) fun oP qe vZ kZ c2=>?_;obtain⟨rfl,pv,rfl,hp⟩:=c2;rw[←hL]at hp;refine SW.bG (fun m E ψ R=>∃(j:Nat) (out:List Int),j+m=L.length∧out=(L.take j).foldl gJ (List.replicate (bW d) 0)∧out.length=bW d∧(∀x∈out,0≤x∧x≤(j:Int))∧qe=ψ∧R=[bp.ob (some ez) out,(some a2,.cells [lv,wv,.j d.arm,.bool d.down] false)]∧Sub [(2,.ptr a2 0),(5,.sl ez 0 (bW d) (.ex (bW d))),(6,pv),(8,.j (j:Int))] E) (m:=L.length) (.done ⟨0,List.replicate (bW d) 0,by omega,rfl,by simp,fun x hx=>by rw[aq8 hx];omega,rfl,rfl,.r rfl⟩) ?_;intro m0 E ψ R ac hI;obtain⟨j,out,e5,mz,dC,eV,rfl,rfl,hE⟩:=hI;refine C.sub hE ?_;refine S.len ?_ (hl:=aa.len hp);refine S.bin ?_;refine C.D (fun d5=>?_) fun d5=>?_
 ·have hj:j<L.length:=by omega
  have oo:ae bp (.sl ez 0 (bW d) (.ex (bW d))) out (some ez):=ae.new dC;refine S.aF hp hj fun H4 vN=>?_;refine S.bl vN fun AO vR=>?_;refine S.aX ?_;refine S.ak (ML (wA _ (W1 hj))) ?_;refine S.bin ?_;refine G.mv ?_;refine G.mv ?_;refine G.len ?_;refine G.bin ?_;refine G.and ?_;refine C.B (fun j6=>?_) fun j6=>?_
  ·simp only[G7,G6]at j6;obtain⟨i,hi⟩:∃i:Nat,gI L[j].addr=(i:Int):=⟨(gI L[j].addr).toNat,by omega⟩
   have sk:i<out.length:=by omega
   have HI:=eV out[i] (W1 sk);have e:gJ out L[j]=out.set i (out[i]+1):=by
    unfold gJ;rw[B4 (by omega),hi,aqo,KJ sk];(try rfl)
   have b3:=vb gJ (List.replicate (bW d) 0) L j hj;rw[←mz,e]at b3;have eJ:=GF (p:=L[j]) eV;rw[e]at eJ;refine S.cX oo sk (fun OA wC=>?_) (hi:=by rw[←hi];exact .t rfl);cases wC;refine S.fM (e:=bp) (l:=out) (j:=i) 0 0 ?_;refine S.bin ?_;refine S.cX oo sk (fun a44 h44=>?_) (hi:=by rw[←hi];exact .t rfl);cases h44;refine S.pE (e:=bp) (l:=out) (j:=i) (out[i]+1) 0 ?_;refine S.bin ?_;exact⟨m0-1,by omega,.done ⟨j+1,_,by omega,b3.symm,by simpa using dC,eJ,rfl,rfl,.r rfl⟩⟩
  ·have e:gJ out L[j]=out:=by
    unfold gJ;rw[pg (by simp only[aqs,NI]at j6;omega)]
   have b3:=vb gJ (List.replicate (bW d) 0) L j hj;rw[←mz,e]at b3;have eJ:=GF (p:=L[j]) eV;rw[e]at eJ;refine S.bin ?_;exact⟨m0-1,by omega,.done ⟨j+1,_,by omega,b3.symm,dC,eJ,rfl,rfl,.r rfl⟩⟩
 ·obtain rfl:j=L.length:=by omega
  rw[ap2,hL]at mz;have e:lT d sum=out:=by unfold lT;rw[mz]
  rw[e];have oo:ae bp (.sl ez 0 (bW d) (.ex (bW d))) out (some ez):=ae.new dC;exact⟨_,.t rfl .nil,.bR 0 rfl oo fun o4 la hf=>.none ⟨rfl,hf⟩⟩
theorem UK [Fx F] {cs:List V} {d:ay} {sum eC:Int} (hd:cP O cs d) (cL:d.wait.length≤1000000) (hlen:d.last.length≤1000000) (wz:sum≤9223372036854775807):
 bk F 25 [.agg cs,.j sum,.j eC] O (.aM [.j ((rf d sum eC).getD 0),.bool (rf d sum eC).isSome]):=by
 obtain⟨lv,wv,rfl,hl,hw,sl,sw⟩:=hd.open;refine ai.ak (au ?_);refine S.box fun a3=>?_;refine S.af 0 ?_;refine S.call (UJ hd cL hlen wz) fun g4 kX p7 mj cd=>?_;obtain⟨rfl,hu⟩:=cd;obtain⟨aK,j8⟩:∃aK,aK=lT d sum:=⟨_,rfl⟩
 rw[←j8]at hu;have hUl:aK.length≤1000000:=by rw[j8,CX];unfold bW;omega
 refine SW.bG (fun m E ψ R=>∃j:Nat,j+m=aK.length∧re eC (j:Int) (aK.drop j)=rf d sum eC∧kX=ψ∧Sub [(2,.j eC),(8,g4),(9,.j (j:Int))] E) (m:=aK.length) (.done ⟨0,by omega,by rw[j8];(try rfl),rfl,.r rfl⟩) ?_;intro m0 E ψ R ac hI;obtain⟨j,e5,ab,rfl,hE⟩:=hI;refine C.sub hE ?_;refine S.len ?_ (hl:=aa.len hu);refine S.bin ?_;refine C.D (fun d9=>?_) fun d9=>?_
 ·have hj:j<aK.length:=by omega
  rw[Rm hj]at ab;simp only[re]at ab;refine S.aF hu hj fun AG x9=>?_;refine S.aX ?_;refine S.bin ?_;refine G.mv ?_;refine G.mv ?_;refine G.bin ?_;refine G.and ?_;refine C.B (fun bq=>?_) fun bq=>?_
  ·simp only[G7,G6,apH,NI]at bq;rw[B4 bq]at ab;rw[←ab];refine⟨_,.t rfl (.t rfl .nil),.done ?_⟩;rfl
  ·rw[pg (by intro h;simp[h.1,h.2]at bq)]at ab;refine S.bin ?_;exact⟨m0-1,by omega,.done ⟨j+1,by omega,ab,rfl,.r rfl⟩⟩
 ·obtain rfl:j=aK.length:=by omega
  rw[WV]at ab;simp only[re]at ab;rw[←ab];refine⟨_,.t rfl (.t rfl .nil),.done ?_⟩;rfl
end Go.Ev
namespace Go.Ev
variable{F:Nat→Option aN} {O:Fz}
theorem CY {O:Fz} {lv wv:V} {l:List Bs} {w:List uZ} {a:Int} {b:Bool} (hl:aa ec O lv l) (hw:aa nW O wv w):same (.agg [lv,wv,.j a,.bool b]) (.agg [lv,wv,.j a,.bool b])=true:=by
 simp[same,cm,hl.dd,hw.dd,fv,mU]
theorem UL [Fx F] {cs:List V} {d:ay} {fr:Int} {bC:V} {l:List aV} (hd:cP O cs d) (hb:aa bw O bC l) (cL:d.wait.length+l.length≤1000000) (hlen:d.last.length≤1000000) (Jd:d.arm≤1000000) (pZ:0≤fr) (anP:fr≤1000000000):
 ai F 71 [.agg cs,.j fr,bC] O [] (fun r ψ R=>R=[]∧∃cs',r=.aM [.agg cs',.bool (dN d fr l).2]∧cP ψ cs' (dN d fr l).1) never:=by
 obtain⟨lv,wv,rfl,hl,hw,sl,sw⟩:=hd.open;refine au ?_;refine S.box fun a3=>?_;refine S.alloc fun cb=>?_;refine SW.bG (fun m E ψ R=>∃(j:Nat) (mA:ay) (lv wv:V),j+m=l.length∧dN mA (fr+j) (l.drop j)=dN d fr l∧cP ψ [lv,wv,.j mA.arm,.bool mA.down] mA∧mA.wait.length≤d.wait.length+j∧mA.last.length≤1000000∧mA.arm≤1000000∧R=[(some cb,.cells [.no .sl,.no .sl,.j 0,.bool false] false),(some a3,.cells [lv,wv,.j mA.arm,.bool mA.down] false)]∧Sub [(1,.j fr),(2,bC),(3,.ptr a3 0),(6,.ptr cb 0),(8,.j (j:Int))] E) (m:=l.length) (.done ⟨0,d,lv,wv,by omega,by rw[aqY,show fr+((0:Nat):Int)=fr by omega],hd,by omega,hlen,Jd,rfl,.r rfl⟩) ?_;intro m0 E ψ R ac hI;obtain⟨j,mA,lv1,wv1,e5,ab,Et,hwl,ny,oB,rfl,hE⟩:=hI;refine C.sub hE ?_;refine S.len ?_ (hl:=aa.len hb);refine S.bin ?_;refine C.D (fun dG=>?_) fun dG=>?_
 ·have hj:j<l.length:=by omega
  have hb:=hb.mono ac;rw[Rm hj]at ab;simp only[dN]at ab;obtain⟨so,wv0,he,dt,dP,sl1,sw1⟩:=Et.open;cases he;refine S.af 1 ?_;refine S.bin ?_;refine S.aF hb hj fun vK nq=>?_;refine S.bP ?_;refine S.alloc fun a9=>?_;refine S.ak (Mm (x:=l[j])) ?_;refine S.jq 0 ?_;refine S.dy 2 ?_ (hs:=CY dt dP);refine S.call (TM (i:=fr+(j:Int)) (b:=eR l[j]) Et (by omega) oB) fun um sq wD o9 c3=>?_;obtain⟨cs',rfl,eY,rfl⟩:=c3;obtain⟨fV,wE⟩:∃fV,fV=(mA.write (fr+(j:Int)) (eR l[j])):=⟨_,rfl⟩
  rw[←wE]at eY ab⊢;have Je:=GC mA (fr+(j:Int)) (eR l[j]);rw[←wE]at Je;obtain⟨ip,iu,rfl,xY,cw,Jf,Jg⟩:=eY.open;refine S.jq 0 ?_;refine S.store 0 ?_;refine S.af 0 ?_;refine S.store 2 ?_;refine S.un ?_;refine C.B (fun eA=>?_) fun eA=>?_
  ·have e:dN d fr l=(fV.1,false):=by rw[←ab,pg (by intro h;rw[h]at eA;cases eA)]
   rw[e];refine S.af 2 ?_;refine S.store 1 ?_;exact⟨_,.cN 1 rfl rfl rfl rfl (.t rfl .nil),.none ⟨rfl,_,rfl,eY⟩⟩
  ·rw[B4 (by simpa using eA),show fr+(j:Int)+1=fr+((j+1:Nat):Int) by omega]at ab;refine S.bin ?_;exact⟨m0-1,by omega,.drop 0 (.done ⟨j+1,fV.1,ip,iu,by omega,ab,eY,by omega,by omega,by omega,rfl,.r rfl⟩)⟩
 ·obtain rfl:j=l.length:=by omega
  rw[WV]at ab;simp only[dN]at ab;rw[←ab];obtain⟨so,wv0,he,dt,dP,sl1,sw1⟩:=Et.open;cases he;refine S.af 1 ?_;refine S.call (TO Et (by omega) ny) fun PQ anQ O35 l35 h35=>?_;obtain⟨cs',rfl,eY,rfl⟩:=h35;obtain⟨ip,iu,rfl,xY,cw,Jf,Jg⟩:=eY.open;refine S.store 0 ?_;exact⟨_,.cN 0 rfl rfl rfl rfl (.t rfl .nil),.none ⟨rfl,_,rfl,eY⟩⟩
theorem ajB {q:cV} {a:Int} (ha:0≤a):cg .rem q (.j a) (.j 2)=some (.j (a%2)):=by
 show(bif cW .i64 .i64 then(bif iw 2 0 then none else some (V.j (a.tmod 2)))else none)=_;rw[show cW .i64 .i64=true from rfl,show iw 2 0=false from rfl,E7,KL,arU ha]
theorem UM [Fx F] {cs:List V} {v:aW} {x:xn} (hv:bZ O cs v) (cL:v.d.wait.length+1≤1000000) (hlen:v.d.last.length≤1000000) (Jd:v.d.arm≤1000000) (hn:0≤x.n):
 ai F 46 [.agg cs,.agg [.j x.n,.j x.seq,.j x.sum,.j x.aU,.j x.pos]] O [] (fun r ψ R=>R=[]∧∃cs',r=.aM [.agg cs',.bool (jr v.d x).2]∧cP ψ cs' (jr v.d x).1) never:=by
 obtain⟨lv,wv,tv,rfl,hl,hw,ht,sl,sw,st,hd⟩:=hv.open;refine au ?_;refine S.box fun a2=>?_;refine S.box fun a3=>?_;refine S.alloc fun a4=>?_;refine S.af 2 ?_;refine S.ld 1 ?_;refine S.bin ?_ (hv:=ajB hn);refine S.af 1 ?_;refine S.alloc fun cb=>?_;refine S.ak (aiC (x:=x)) ?_;refine S.jq 0 ?_;refine S.bF 2 ?_;refine S.dy 3 ?_ (hs:=CY hl hw);refine S.call (TM (i:=x.n%2) (b:=mT x) hd (by omega) Jd) fun oP qe vZ kZ c2=>?_;obtain⟨cs',rfl,eY,rfl⟩:=c2;obtain⟨fV,wE⟩:∃fV,fV=(v.d.write (x.n%2) (mT x)):=⟨_,rfl⟩
 rw[←wE]at eY⊢;have Je:=GC v.d (x.n%2) (mT x);rw[←wE]at Je;obtain⟨ip,iu,rfl,xY,cw,Jf,Jg⟩:=eY.open;refine S.jq 0 ?_;refine S.store 0 ?_;refine S.un ?_;refine C.B (fun gs=>?_) fun gs=>?_
 ·have e:jr v.d x=(fV.1,false):=by unfold jr;rw[←wE,pg (by intro h;rw[h]at gs;cases gs)]
  rw[e];refine S.af 0 ?_;refine S.store 1 ?_;exact⟨_,.cN 1 rfl rfl rfl rfl (.t rfl .nil),.none ⟨rfl,_,rfl,eY⟩⟩
 ·have e:jr v.d x=fV.1.flush:=by unfold jr;rw[←wE,B4 (by simpa using gs)]
  rw[e];refine S.af 0 ?_;refine S.call (TO eY (by omega) (by omega)) fun Ea Bb Eb uc eB=>?_;obtain⟨cs',rfl,Bo,rfl⟩:=eB;obtain⟨yy,yz,rfl,wu,zV,yA,yB⟩:=Bo.open;refine S.store 1 ?_;exact⟨_,.cN 1 rfl rfl rfl rfl (.t rfl .nil),.none ⟨rfl,_,rfl,Bo⟩⟩
def UN:dn:=⟨0,0,0,0,0⟩
def GG (O:Fz) (r:V) (x:Option bD):Prop:=∃w:dn×SV,r=.aM [.agg (fC.f w),.bool x.isSome]∧w.1=(x.map (·.r)).getD UN∧aa aH O w.2.1 ((x.map (·.t)).getD [])
theorem GG.no (O:Fz):GG O (.aM [.agg [.j 0,.j 0,.j 0,.j 0,.j 0,.no .sl],.bool false]) none:=⟨(UN,⟨.no .sl,rfl⟩),rfl,rfl,aa.nil O⟩
theorem GH [Fx F] {cs:List V} {v:aW} {kind id:Int} (hv:bZ O cs v) (di:v.trees.length≤1000000):
 ai F 79 [.agg cs,.j kind,.j id] O [] (fun r ψ R=>ψ=O∧R=[]∧GG O r (kK v.trees kind id)) never:=by
 obtain⟨lv,wv,tv,rfl,hl,hw,ht,sl,sw,st,hd⟩:=hv.open;obtain⟨hs,hf,hr⟩:=ht;have gQ:=hr.len;refine ai.same (au ?_);refine S.box fun a3=>?_;refine S.alloc fun cb=>?_;refine SW.bG (fun m E ψ R=>∃j:Nat,j+m=v.trees.length∧kK (v.trees.drop j) kind id=kK v.trees kind id∧O=ψ∧R=[(some cb,.cells [.j 0,.j 0,.j 0,.j 0,.j 0,.no .sl] false),(some a3,.cells [lv,wv,.j v.d.arm,.bool v.d.down,.j v.seq,.j v.sum,.j v.aU,.j v.pos,.j v.n,.j v.next,.j v.id,tv] false)]∧Sub [(1,.j kind),(2,.j id),(3,.ptr a3 0),(6,.ptr cb 0),(8,.j (j:Int))] E) (m:=v.trees.length) (.done ⟨0,by omega,rfl,rfl,rfl,.r rfl⟩) ?_;intro m0 E ψ R ac hI;obtain⟨j,e5,ab,rfl,rfl,hE⟩:=hI;refine C.sub hE ?_;refine S.ld 1 ?_;refine S.len ?_ (hl:=aa.len hf);refine S.bin ?_;refine C.D (fun eM=>?_) fun eM=>?_
 ·have hj:j<v.trees.length:=by omega
  rw[Rm hj]at ab;simp only[kK,List.find?_cons]at ab;obtain⟨w,gT⟩:∃w,w=hs[j]:=⟨_,rfl⟩
  have bE:hs[j]? =some w:=by rw[KJ,gT]
  obtain⟨q1,q2⟩:=hr.at (i:=j) (by omega) hj;rw[←gT]at q1 q2;have uo:=w.2.2;refine S.ld 1 ?_;refine S.aF hf (j:=j) (by omega) fun vS nA=>?_;rw[←gT]at nA;refine S.bl nA fun OI DS=>?_;refine S.bl DS fun AG x9=>?_;refine S.aX ?_;refine S.bin ?_;refine G.mv ?_;refine G.bin ?_;refine G.mv ?_;refine G.aE ?_;refine G.ld 1 ?_;refine G.mv ?_;refine G.aF hf (j:=j) (z:=w) fun vQ jD=>?_;refine G.bl jD fun AU r9=>?_;refine G.bl r9 fun yk tY=>?_;refine G.aX ?_;refine G.mv ?_;refine G.bin ?_;refine G.xl ?_;refine G.and ?_;refine C.B (fun co=>?_) fun co=>?_
  ·rw[q1]at co;change zE kind id v.trees[j]=true at co;rw[co]at ab;change some v.trees[j]=kK v.trees kind id at ab;rw[←ab];refine S.ld 1 ?_;refine S.aF hf (j:=j) (by omega) fun p43 e43=>?_;rw[←gT]at e43;refine S.bP ?_;refine S.store (v:=.agg (fC.f w)) 0 ?_ (hs:=fC.sc w);exact⟨_,.cN 0 rfl rfl rfl rfl (.t rfl .nil),.none ⟨rfl,w,rfl,q1,q2⟩⟩
  ·rw[q1]at co;change zE kind id v.trees[j]=false at co;rw[co]at ab;refine S.bin ?_;exact⟨m0-1,by omega,.done ⟨j+1,by omega,ab,rfl,rfl,.r rfl⟩⟩
 ·obtain rfl:j=v.trees.length:=by omega
  rw[WV]at ab;change none=_ at ab;rw[←ab];refine S.build ?_;refine S.store 0 ?_;exact⟨_,.cN 0 rfl rfl rfl rfl (.t rfl .nil),.none ⟨rfl,GG.no _⟩⟩
end Go.Ev
namespace Go.Ev
variable{F:Nat→Option aN} {O:Fz}
theorem MM [Fx F] {cs:List V} {v:aW} (hv:bZ O cs v) (di:v.trees.length≤1000000):
 ai F 77 [.agg cs] O [] (fun r ψ R=>R=[]∧aa aH ψ r (et v.trees)) never:=by
 obtain⟨lv,wv,tv,rfl,hl,hw,ht,sl,sw,st,hd⟩:=hv.open;refine au ?_;refine S.box fun bs=>?_;refine S.af 0 ?_;refine S.call (GH (kind:=1) (id:=0) hv di) fun v7 wn O7 A9 h7=>?_;obtain⟨rfl,rfl,w,rfl,dP,cw⟩:=h7;have uo:=w.2.2;obtain⟨X,hX⟩:∃X,X=kK v.trees 1 0:=⟨_,rfl⟩
 rw[←hX]at dP cw⊢;refine S.alloc fun a3=>?_;refine S.store (v:=.agg (fC.f w)) 0 ?_ (hs:=fC.sc w);refine S.un ?_;refine C.B (fun jE=>?_) fun jE=>?_
 ·have e:et v.trees=u1:=by
   unfold et;rw[←hX];cases X with
   |none=>rfl
   |some x=>simp at jE
  rw[e];refine S.call (TW) fun g4 kX p7 mj cd=>?_;obtain⟨cd,rfl⟩:=cd;exact⟨_,.t rfl .nil,.none ⟨rfl,cd⟩⟩
 ·have e:et v.trees=(X.map (·.t)).getD []:=by
   unfold et;rw[←hX];cases X with
   |none=>simp at jE
   |some x=>rfl
  rw[e];refine S.ld 0 ?_;exact⟨_,.t rfl .nil,.none ⟨rfl,cw⟩⟩
theorem GI {O:Fz} {lv wv tv:V} {v:aW} {l:List bD} (hl:aa ec O lv v.d.last) (hw:aa nW O wv v.d.wait) (ht:js O tv l):bZ O [lv,wv,.j v.d.arm,.bool v.d.down,.j v.seq,.j v.sum,.j v.aU,.j v.pos,.j v.n,.j v.next,.j v.id,tv] {v with trees:=l}:=⟨lv,wv,tv,rfl,hl,hw,ht⟩
theorem UO [Fx F] {cs:List V} {v:aW} {kind id:Int} (hv:bZ O cs v) (di:v.trees.length≤1000000):
 ai F 170 [.agg cs,.j kind,.j id] O [] (fun r ψ R=>R=[]∧∃cs',r=.aM [.agg cs',.bool (hS v.trees kind id).isSome]∧bZ ψ cs' {v with trees:=(hS v.trees kind id).getD v.trees}) never:=by
 obtain⟨lv,wv,tv,rfl,hl,hw,ht,sl,sw,st,hd⟩:=hv.open;obtain⟨hs,hf,hr⟩:=ht;have gQ:=hr.len;refine au ?_;refine S.box fun a3=>?_;refine S.alloc fun cb=>?_;refine SW.bG (fun m E ψ R=>∃j:Nat,j+m=v.trees.length∧(hS (v.trees.drop j) kind id).map (v.trees.take j++·)=hS v.trees kind id∧O=ψ∧R=[(some cb,.cells [.no .sl,.no .sl,.j 0,.bool false,.j 0,.j 0,.j 0,.j 0,.j 0,.j 0,.j 0,.no .sl] false),(some a3,.cells [lv,wv,.j v.d.arm,.bool v.d.down,.j v.seq,.j v.sum,.j v.aU,.j v.pos,.j v.n,.j v.next,.j v.id,tv] false)]∧Sub [(1,.j kind),(2,.j id),(3,.ptr a3 0),(6,.ptr cb 0),(8,.j (j:Int))] E) (m:=v.trees.length) (.done ⟨0,by omega,by simp,rfl,rfl,.r rfl⟩) ?_;intro m0 E ψ R ac hI;obtain⟨j,e5,ab,rfl,rfl,hE⟩:=hI;refine C.sub hE ?_;refine S.ld 1 ?_;refine S.len ?_ (hl:=aa.len hf);refine S.bin ?_;refine C.D (fun eM=>?_) fun eM=>?_
 ·have hj:j<v.trees.length:=by omega
  rw[Rm hj]at ab;simp only[hS]at ab;obtain⟨w,gT⟩:∃w,w=hs[j]:=⟨_,rfl⟩
  have bE:hs[j]? =some w:=by rw[KJ,gT]
  obtain⟨q1,q2⟩:=hr.at (i:=j) (by omega) hj;rw[←gT]at q1 q2;have uo:=w.2.2;refine S.ld 1 ?_;refine S.aF hf (j:=j) (by omega) fun vS nA=>?_;rw[←gT]at nA;refine S.bl nA fun OI DS=>?_;refine S.bl DS fun AG x9=>?_;refine S.aX ?_;refine S.bin ?_;refine G.mv ?_;refine G.bin ?_;refine G.mv ?_;refine G.aE ?_;refine G.ld 1 ?_;refine G.mv ?_;refine G.aF hf (j:=j) (z:=w) fun vQ jD=>?_;refine G.bl jD fun AU r9=>?_;refine G.bl r9 fun yk tY=>?_;refine G.aX ?_;refine G.mv ?_;refine G.bin ?_;refine G.xl ?_;refine G.and ?_;refine C.B (fun co=>?_) fun co=>?_
  ·rw[q1]at co;change zE kind id v.trees[j]=true at co;rw[B4 co]at ab;simp only[ap0]at ab;rw[←ab];refine S.a8 fun H6=>?_;have uf:ae fC (.sl H6 0 0 (.ex 0)) [] (some H6):=ae.new rfl;obtain⟨w1,dP,Bi⟩:=aa.hi hf (j:=j) (by omega);obtain⟨w2,cw,si⟩:=aa.lo hf (j:=j+1) (by omega);refine S.ld 2 ?_;refine S.slice dP ?_;refine S.ld 2 ?_;refine S.bin ?_ (v:=.j ((j+1:Nat):Int)) (hv:=by rw[ei (by omega) (by omega)];(try rfl));refine S.slice cw ?_;refine S.bu (m:=hs.take j) 0 uf (.f Bi) (by simp;omega) fun v45 s45 o45=>?_;refine S.Mx cw si.same ?_;refine S.bF 2 ?_ (hs:=hf.same);refine S.bu (m:=hs.drop (j+1)) 0 o45 (.f si) (by simp;omega) fun v51 s51 Jh=>?_;have w51:=Jh.av;rw[aqa]at Jh⊢;have mf:=(hr.take j).app (hr.drop (j+1));refine S.hK 2 ?_;refine S.af 2 ?_;refine S.store 1 ?_;exact⟨_,.cN 1 rfl rfl rfl rfl (.t rfl .nil),.bR 0 rfl Jh fun o4 la rW=>.none ⟨rfl,_,rfl,GI (hl.mono la) (hw.mono la) ⟨_,rW,mf.mono la⟩⟩⟩
  ·rw[q1]at co;change zE kind id v.trees[j]=false at co;rw[pg (by rw[co];simp)]at ab;rw[Option.map_map]at ab;refine S.bin ?_;exact⟨m0-1,by omega,.done ⟨j+1,by omega,by rw[←ab,aqd hj];congr 1;funext x;exact KK _ _ _,rfl,rfl,.r rfl⟩⟩
 ·obtain rfl:j=v.trees.length:=by omega
  rw[WV]at ab;change none=_ at ab;rw[←ab];refine S.af 1 ?_;refine S.store 0 ?_;exact⟨_,.cN 0 rfl rfl rfl rfl (.t rfl .nil),.none ⟨rfl,_,rfl,GI hl hw ⟨_,hf,hr⟩⟩⟩
theorem ajC [Fx F] {a b:dn}:bk F 171 [.agg [.j a.kind,.j a.id,.j a.dx,.j a.base,.j a.done],.agg [.j b.kind,.j b.id,.j b.dx,.j b.base,.j b.done]] O (.bool (MH a b)):=by
 refine ai.ak (au ?_);refine S.box fun a2=>?_;refine S.box fun a3=>?_;refine S.ld 1 ?_;refine S.ld 0 ?_;refine S.bin ?_;refine G.aE ?_;refine G.ld 1 ?_;refine G.aE ?_;refine G.ld 0 ?_;refine G.bin ?_;refine G.mv ?_;refine G.aE ?_;refine G.ld 1 ?_;refine G.aE ?_;refine G.ld 0 ?_;refine G.bin ?_;refine G.jR ?_;refine G.or ?_;refine⟨_,.t rfl .nil,.done ?_⟩;rfl
end Go.Ev
set_option maxHeartbeats 1000000
namespace Go.Ev
variable{F:Nat→Option aN} {O:Fz}
theorem cT {lv wv tv:V} {v:aW} (I:isScalar lv=true) (J:isScalar wv=true) (h3:isScalar tv=true):aY (be lv wv tv v)=true:=by simp[be,aY,lH,mR, *]
theorem MO {l:List bD} {k i:Int}:((hS l k i).getD l).length≤l.length:=by
 have key:∀(l:List bD) r,hS l k i=some r→r.length≤l.length:=by
  intro l;induction l with
  |nil=>intro r h;cases h
  |cons a l ih=>
   intro r h;simp only[hS]at h;split at h
   ·cases h;simp
   ·obtain⟨y,I,J⟩:=aqp.1 h;subst J;have:=ih y I;simp;omega
 cases h:hS l k i with
 |none=>exact B5 _
 |some r=>exact key l r h
theorem UP (h:bD) (l:List bD):(lU h l).length=l.length+1:=by
 induction l with
 |nil=>rfl
 |cons a l ih=>simp only[lU];split<;>simp[ih]
theorem UQ [Fx F] {cs:List V} {v:aW} {h:bD} {ht:SV} (hv:bZ O cs v) (di:v.trees.length≤1000000) (Ji:aa aH O ht.1 h.t):
 ai F 124 [.agg cs,.agg [.j h.r.kind,.j h.r.id,.j h.r.dx,.j h.r.base,.j h.r.done,ht.1]] O [] (fun r ψ R=>R=[]∧∃cs',r=.agg cs'∧bZ ψ cs' {v with trees:=fi v.trees h}) never:=by
 obtain⟨lv,wv,tv,rfl,hl,hw,PS,sl,sw,st,hd⟩:=hv.open;have hts:=ht.2;refine au ?_;refine S.box fun a2=>?_;refine S.box fun a3=>?_;refine S.alloc fun a4=>?_;refine S.af 2 ?_;refine S.ld 1 ?_;refine S.ld 1 ?_;refine S.call (UO (kind:=h.r.kind) (id:=h.r.id) hv di) fun r7 j5 AT mq cK=>?_;obtain⟨rfl,cs',rfl,Bp⟩:=cK;obtain⟨xt,Bq⟩:∃xt,xt=(hS v.trees h.r.kind h.r.id).getD v.trees:=⟨_,rfl⟩
 have kT:xt.length≤1000000:=by have:=MO (l:=v.trees) (k:=h.r.kind) (i:=h.r.id);rw[←Bq]at this;omega
 have fG:fi v.trees h=lU h xt:=by unfold fi;rw[Bq]
 rw[←Bq]at Bp;rw[fG];obtain⟨lx,wx,xv,rfl,sj,uq,hx,mB,mC,Jj,Jk⟩:=Bp.open;obtain⟨hx,hf,hr⟩:=hx;change HR j5 hx xt at hr;have gQ:=hr.len;have Ji:=Ji.mono mq;have hl:=hl.mono mq;have hw:=hw.mono mq;have m4:HR j5 [(h.r,ht)] [h]:=HR.one Ji;refine S.alloc fun a5=>?_;refine S.store (v:=.agg (be lx wx xv {v with trees:=xt})) 0 ?_ (hs:=cT mB mC Jj);refine SW.new fC ?_;refine SW.bG (fun m E ψ R=>∃(j:Nat) (out:List (dn×SV)) (lo:List bD) (u:V) (s:Option Pa) (p:Bool),j+m=xt.length∧out.length=j+p.toNat∧HR j5 out lo∧lU h xt=lo++(if p then xt.drop j else lU h (xt.drop j))∧j5=ψ∧R=[fC.ob s out,(some a5,.cells [lx,wx,.j v.d.arm,.bool v.d.down,.j v.seq,.j v.sum,.j v.aU,.j v.pos,.j v.n,.j v.next,.j v.id,xv] false),(some a4,.cells [.no .sl,.no .sl,.j 0,.bool false,.j 0,.j 0,.j 0,.j 0,.j 0,.j 0,.j 0,.no .sl] false),(some a3,.cells [.j h.r.kind,.j h.r.id,.j h.r.dx,.j h.r.base,.j h.r.done,ht.1] false),(some a2,.cells [lv,wv,.j v.d.arm,.bool v.d.down,.j v.seq,.j v.sum,.j v.aU,.j v.pos,.j v.n,.j v.next,.j v.id,tv] false)]∧ae fC u out s∧Sub [(2,.ptr a2 0),(3,.ptr a3 0),(4,.ptr a4 0),(5,.ptr a5 0),(7,u),(8,.bool p),(9,.j (j:Int))] E) (m:=xt.length) (.done ⟨0,[],[],.no .sl,none,false,by omega,rfl,HR.nil _,rfl,rfl,rfl,ae.nil,.r rfl⟩) ?_;intro m0 E ψ R ac hI;obtain⟨j,out,lo,u,s,p,e5,dC,f5,ab,rfl,rfl,ho,hE⟩:=hI;refine C.sub hE ?_;refine S.ld 1 ?_;refine S.len ?_ (hl:=aa.len hf);refine S.bin ?_;refine C.D (fun bV=>?_) fun bV=>?_
 ·have hj:j<xt.length:=by omega
  have AK:=ard p;rw[Rm hj]at ab;obtain⟨w,gT⟩:∃w,w=hx[j]:=⟨_,rfl⟩
  have bE:hx[j]? =some w:=by rw[KJ,gT]
  obtain⟨q1,q2⟩:=hr.at (i:=j) (by omega) hj;rw[←gT]at q1 q2;have uo:=w.2.2;have Br:HR j5 [w] [xt[j]]:=by
   have:=HR.one (r:=w.1) (w:=w.2) q2;rw[q1]at this;obtain⟨w1,w2⟩:=w;cases q1;exact this
  refine S.un ?_;refine G.aE ?_;refine G.af 3 ?_;refine G.aE ?_;refine G.ld 1 ?_;refine G.mv ?_;refine G.aF hf (j:=j) (z:=w) fun Ow DH=>?_;refine G.bl DH fun OT Ii=>?_;refine G.bP ?_ (l:=[.j w.1.kind,.j w.1.id,.j w.1.dx,.j w.1.base,.j w.1.done]);refine G.ak (fun _=>ajC (a:=h.r) (b:=w.1)) ?_;rw[q1];refine G.and ?_;refine SW.xk (fun E ψ R=>∃(out:List (dn×SV)) (lo:List bD) (u:V) (s:Option Pa) (p:Bool),out.length=j+p.toNat∧HR j5 out lo∧lU h xt=lo++xt[j]::(if p then xt.drop (j+1)else lU h (xt.drop (j+1)))∧j5=ψ∧R=[fC.ob s out,(some a5,.cells [lx,wx,.j v.d.arm,.bool v.d.down,.j v.seq,.j v.sum,.j v.aU,.j v.pos,.j v.n,.j v.next,.j v.id,xv] false),(some a4,.cells [.no .sl,.no .sl,.j 0,.bool false,.j 0,.j 0,.j 0,.j 0,.j 0,.j 0,.j 0,.no .sl] false),(some a3,.cells [.j h.r.kind,.j h.r.id,.j h.r.dx,.j h.r.base,.j h.r.done,ht.1] false),(some a2,.cells [lv,wv,.j v.d.arm,.bool v.d.down,.j v.seq,.j v.sum,.j v.aU,.j v.pos,.j v.n,.j v.next,.j v.id,tv] false)]∧ae fC u out s∧Sub [(2,.ptr a2 0),(3,.ptr a3 0),(4,.ptr a4 0),(5,.ptr a5 0),(7,u),(8,.bool p),(9,.j (j:Int))] E) ?_ ?_
  ·refine C.B (fun nG=>?_) fun nG=>?_
   ·refine S.af 3 ?_;refine S.a8 fun Z6=>?_;refine S.bu (m:=[(h.r,ht)]) 1 ho (.lit 0) (by simp;omega) fun PG PH IW=>?_;refine S.drop 0 ?_;refine S.mv ?_;simp only[G7,apH]at nG;obtain⟨rfl,ap⟩:=nG;rw[pg (by simp)]at ab;simp only[lU]at ab;rw[B4 ap]at ab;exact .done ⟨out++[(h.r,ht)],lo++[h],PG,PH,true,by simpa using dC,f5.app m4,by rw[ab,KK];(try rfl),rfl,rfl,IW,.r rfl⟩
   ·refine .done ⟨out,lo,u,s,p,dC,f5,?_,rfl,rfl,ho,.r rfl⟩;rw[ab];cases p with
    |true=>rfl
    |false=>
     have hn:MH h.r xt[j].r=false:=by simpa using nG
     simp only[lU];rw[pg (by simp),pg (by rw[hn];simp),pg (by simp)]
  intro E ψ R ac hM;obtain⟨out,lo,u,s,p,dC,f5,ab,rfl,rfl,ho,hE⟩:=hM;refine C.sub hE ?_;refine S.ld 1 ?_;refine S.aF hf (j:=j) (by omega) fun p49 e49=>?_;rw[←gT]at e49;refine S.bP ?_;refine S.a8 (l:=fC.f w) (sd:=fC.f w) (fun a51=>?_) (d3:=fC.sc w) (hs:=fC.sc w);have AK:=ard p;refine S.bu (m:=[w]) 1 ho (.lit 0) (by simp;omega) fun v52 s52 o52=>?_;refine S.drop 0 ?_;refine S.mv ?_;refine S.bin ?_;exact⟨m0-1,by omega,.done ⟨j+1,out++[w],lo++[xt[j]],v52,s52,p,by omega,by simp;omega,f5.app Br,by rw[ab,KK];(try rfl),rfl,rfl,o52,.r rfl⟩⟩
 ·obtain rfl:j=xt.length:=by omega
  rw[WV]at ab;have AK:=ard p;refine S.un ?_;refine SW.xk (fun E ψ R=>∃(out:List (dn×SV)) (u:V) (s:Option Pa),HR j5 out (lU h xt)∧j5=ψ∧R=[fC.ob s out,(some a5,.cells [lx,wx,.j v.d.arm,.bool v.d.down,.j v.seq,.j v.sum,.j v.aU,.j v.pos,.j v.n,.j v.next,.j v.id,xv] false),(some a4,.cells [.no .sl,.no .sl,.j 0,.bool false,.j 0,.j 0,.j 0,.j 0,.j 0,.j 0,.j 0,.no .sl] false),(some a3,.cells [.j h.r.kind,.j h.r.id,.j h.r.dx,.j h.r.base,.j h.r.done,ht.1] false),(some a2,.cells [lv,wv,.j v.d.arm,.bool v.d.down,.j v.seq,.j v.sum,.j v.aU,.j v.pos,.j v.n,.j v.next,.j v.id,tv] false)]∧ae fC u out s∧Sub [(2,.ptr a2 0),(4,.ptr a4 0),(7,u)] E) ?_ ?_
  ·refine C.B (fun k9=>?_) fun k9=>?_
   ·refine S.af 3 ?_;refine S.a8 fun PT=>?_;refine S.bu (m:=[(h.r,ht)]) 1 ho (.lit 0) (by simp;omega) fun PU s58 o58=>?_;refine S.drop 0 ?_;refine S.mv ?_;have hp:p=false:=by simpa using k9
    subst hp;rw[pg (by simp)]at ab;exact .done ⟨_,PU,s58,by rw[ab];exact f5.app m4,rfl,rfl,o58,.r rfl⟩
   ·have hp:p=true:=by simpa using k9
    subst hp;rw[B4 rfl,ap9]at ab;exact .done ⟨_,u,s,by rw[ab];exact f5,rfl,rfl,ho,.r rfl⟩
  intro E ψ R ac hM;obtain⟨out,u,s,f5,rfl,rfl,ho,hE⟩:=hM;refine C.sub hE ?_;have anR:=ho.av;refine S.hK 4 ?_;refine S.af 4 ?_;refine S.store 2 ?_;exact⟨_,.cN 2 rfl rfl rfl rfl .nil,.bR 0 rfl ho fun o4 la rW=>.none ⟨rfl,_,rfl,GI (hl.mono la) (hw.mono la) ⟨_,rW,f5.mono la⟩⟩⟩
end Go.Ev
