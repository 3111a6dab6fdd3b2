/- A part of the proof of glacislaw13.LiveAll (made short by a program). -/
import Derived.Test.YtmglhbclhfgmaaaGreatDoorVB
import Derived.Calls
import GoSem.Machine.Exec
namespace Go.Ev
variable{C:Cx} {U:AM} {Λ:Pa→Prop} {h:Hp} {ls:List LE} {w:World} {e:T V} {ρ:Operand→Value}
variable{P:Program} {o:Oper}
theorem Sn (ry:Nat):∀(r c:Nat),c≤2*ry+768→Builtin.growBy ry r c≤2*ry+768
 |0,c,h=>h
 |r+1,c,h=>by
  simp only[Builtin.growBy];split
  ·exact h
  ·exact Sn ry r _ (by omega)
theorem Sp (ry aD:Nat) (h:aD<ry):Builtin.nextslicecap ry aD≤2*ry+768:=by
 unfold Builtin.nextslicecap;split
 ·omega
 ·split
  ·omega
  ·exact Sn ry 4 aD (by omega)
theorem adH {aD new rest:Array Value} {j:Nat} {c:Value} (h:(aD.toList++new.toList)[j]? =some c):(aD++new++rest)[j]? =some c:=by
 have hj:j<(aD.toList++new.toList).length:=(ap1.1 h).1;rw[lb0 (by simpa using hj)];rw[←lb5];simpa using h
theorem aP.row (s:aP C U Λ h ls w) {l:List V} {lc:List Value} (hl:bd U l lc) {rest:Array Value} {aD new:Array Value} (he:aD.toList++new.toList=lc) {el:TypeId} (_hsc:aY l=true)
 {n ba cap:Nat} (hn:n≤cap) (Xf:(aD++new++rest).size=cap*ba) {w':World} (hw:w'.heap=w.heap.push (.cells (aD++new++rest) el)) (aj:mK w w'):
 aP C (U.put h.next ⟨w.heap.size,0,cap*ba,false⟩) (fun x=>Λ x∨x=h.next) (h.alloc (.cells l false)) ls w'∧
  VR (U.put h.next ⟨w.heap.size,0,cap*ba,false⟩) (.sl h.next 0 n (.un ba)) (.slice (some ⟨w.heap.size,0,none⟩) n cap):=by
 have g:=s.ghost (.cells l false);have vr:=s.lB;have ac:=AM.lA (U:=U) (a:=h.next) (L:=⟨w.heap.size,0,cap*ba,false⟩) vr;refine⟨g.fill (a:=h.next) (b:=.cells l false) (top:=cap*ba) vr (by simp[bm.alloc,bm.get,T.gX]) ⟨by rw[hw];simp,fun i hi=>by rw[hw,Array.getElem?_push,pg (by omega)],aj⟩ ?_,?_⟩
 ·refine⟨aD++new++rest,el,(0,0),by rw[hw];simp,Xf,.inl rfl,⟨?_,fun i v hv=>?_⟩,fun _=>B5 0⟩
  ·have I:=hl.length;have J:(aD.toList++new.toList).length=lc.length:=by rw[he]
   simp only[amv,Array.length_toList]at J;simp only[lb6];omega
  ·obtain⟨c,I,J⟩:=hl.get hv;refine⟨c,?_,J.mono ac⟩;show(aD++new++rest)[0+i]? =some c;rw[ap7];exact adH (by rw[he];exact I)
 ·exact .sl h.next 0 n (.un ba) _ cap (AM.kh _ _ _) hn (by simp[lz])
theorem aP.Sq (s:aP C U Λ h ls w) {a:Pa} {L:Loc} {l:List V} (ha:U a=some L) (hg:h.get a=some (.cells l false)) {w':World} (hw:iR w w' L.aw) {base:Nat} {m:List V} {eb:Bool}
 (hb:BR C.P (U.put h.next ⟨L.aw,base,L.top,eb⟩) ls h.next (.cells m false) ⟨L.aw,base,L.top,eb⟩ w'):
 aP C (U.put h.next ⟨L.aw,base,L.top,eb⟩) (fun x=>(Λ x∧x≠a)∨x=h.next) ((h.put a (.cells l true)).alloc (.cells m false)) ls w':=by
 have vr:=s.lB;have bn:Λ a:=by
  rcases s.live a L _ ha hg with I|⟨m,I⟩
  ·exact I
  ·cases I
 have adc:a≠h.next:=fun e=>by subst e;rw[vr]at ha;cases ha
 have hN:C.N0≤L.aw:=s.wr a L _ ha bn hg rfl;have bE:∀x,((h.put a (.cells l true)).alloc (.cells m false)).get x=if h.next=x then some (.cells m false)else if a=x then some (.cells l true)else h.get x:=fun x=>by
  simp[bm.alloc,bm.put,bm.get,T.gX]
 have b3:((h.put a (.cells l true)).alloc (.cells m false)).next.toNat=h.next.toNat+1:=Pa.iB _;have aD:∀x M,(U.put h.next ⟨L.aw,base,L.top,eb⟩) x=some M→x≠h.next→U x=some M:=fun x M hx bM=>by simpa[AM.put,bM]using hx
 have new:∀M,(U.put h.next ⟨L.aw,base,L.top,eb⟩) h.next=some M→M=⟨L.aw,base,L.top,eb⟩:=fun M hM=>by simp[AM.put]at hM;exact hM.symm
 have ac:=AM.lA (U:=U) (a:=h.next) (L:=⟨L.aw,base,L.top,eb⟩) vr;refine⟨fun x M hx=>?_,fun x M hx fd=>?_,fun x y M K hx hy fd vm e tt=>?_,fun x M c hx cZ=>?_,fun x M c hx fd cZ hr=>?_,fun i hi=>?_,by rw[hw.1];exact s.size,s.still.trans hw.2.2,fun x hx=>?_,fun x y hx=>?_⟩
 ·rw[b3];by_cases b9:x=h.next
  ·subst b9;omega
  ·exact aq2 (s.ia x M (aD x M hx b9))
 ·by_cases b9:x=h.next
  ·subst b9;rw[new M hx];exact⟨_,by rw[bE];simp,hb⟩
  ·obtain⟨I,J⟩:=fd.resolve_right b9;obtain⟨c,h3,h4⟩:=s.aw x M (aD x M hx b9) I;refine⟨c,by rw[bE,pg (Ne.symm b9),pg (Ne.symm J)];exact h3,h4.mono ac (fun _ _ h=>h) (hw.2.1 _ fun e=>?_)⟩;exact J (s.inj a x L M ha (aD x M hx b9) bn I e.symm hN).symm
 ·by_cases b9:x=h.next
  ·by_cases l7:y=h.next
   ·rw[b9,l7]
   ·exfalso;obtain⟨I,J⟩:=vm.resolve_right l7;subst b9;rw[new M hx]at e;exact J (s.inj a y L K ha (aD y K hy l7) bn I e hN).symm
  ·by_cases l7:y=h.next
   ·exfalso;obtain⟨I,J⟩:=fd.resolve_right b9;subst l7;rw[new K hy]at e;exact J (s.inj x a M L (aD x M hx b9) ha I bn e tt)
   ·exact s.inj x y M K (aD x M hx b9) (aD y K hy l7) (fd.resolve_right b9).1 (vm.resolve_right l7).1 e tt
 ·by_cases b9:x=h.next
  ·exact .inl (.inr b9)
  ·by_cases bM:x=a
   ·subst bM;rw[bE,pg (Ne.symm b9),B4 rfl]at cZ;exact .inr ⟨l,(arO cZ).symm⟩
   ·rw[bE,pg (Ne.symm b9),pg (Ne.symm bM)]at cZ;rcases s.live x M c (aD x M hx b9) cZ with I|I
    ·exact .inl (.inl ⟨I,bM⟩)
    ·exact .inr I
 ·by_cases b9:x=h.next
  ·subst b9;rw[new M hx];exact hN
  ·obtain⟨I,J⟩:=fd.resolve_right b9;rw[bE,pg (Ne.symm b9),pg (Ne.symm J)]at cZ;exact s.wr x M c (aD x M hx b9) I cZ hr
 ·rw[hw.2.1 i (by omega)];exact s.low i hi
 ·rw[b3]at hx;have e1:h.next≠x:=fun e=>by subst e;omega
  have e2:a≠x:=fun e=>by subst e;have:=s.ia a L ha;omega
  rw[bE,pg e1,pg e2];exact s.fresh x (by omega)
 ·rw[b3];exact aq2 (s.jj x y hx)
structure Lw (P:Program) (w:World) (ba n:Nat) (el:TypeId) (zX:Array Value) (sc:Value) (run:Result Value):Prop where
 place:∀base cx eH,sc=.slice base cx eH→cx+n≤eH→
  run=((match base with|some a=>storeCells (a.add (cx*ba)) zX.toList|none=>(pure ():Sem Unit)).run P w).andThen fun _ w'=>.ok (.slice base (cx+n) eH) w'
 grow:∀base cx eH aD,sc=.slice base cx eH→eH<cx+n→cx+n≤1073741824→(Builtin.firstCells ba cx sc).run P {w with drawn:=w.drawn+1}=.ok aD {w with drawn:=w.drawn+1}→
  ∃cap rest,cx+n≤cap∧rest.size=(cap-(cx+n))*ba∧
   run=.ok (.slice (some ⟨w.heap.size,0,none⟩) (cx+n) cap) {w with drawn:=w.drawn+1,heap:=w.heap.push (.cells (aD++zX++rest) el)}
theorem adI {a b:List V} (h:aY (a++b)=true):aY b=true:=by
 induction a with
 |nil=>exact h
 |cons v a ih=>
  simp only[aqI,aY]at h;cases hv:isScalar v with
  |false=>simp[hv]at h
  |true=>simp only[hv,E7]at h;exact ih h
theorem Sr (s:aP C U Λ h ls w) {ba n:Nat} {el:TypeId} {xs:List V} {xc:List Value} (hx:bd U xs xc) (kT:xc.length=n*ba) (NQ:0<ba) {sv v:V} {sc:Value} (hs:VR U sv sc)
 {h':Hp} (hv:nO h ba n xs sv=some (v,h')) {run:Result Value} (hr:Lw P w ba n el xc.toArray sc run):
 ∃c w' aA dh,run=.ok c w'∧U.le aA∧aP C aA dh h' ls w'∧VR aA v c∧(∀a,U a=none→aA a≠none→h.next.toNat≤a.toNat)∧h.next.toNat≤h'.next.toNat:=by
 have NS:∀{L:Loc} (a:Pa),U a=none→(U.put h.next L) a≠none→h.next.toNat≤a.toNat:=by
  intro L a I J;by_cases hn:a=h.next
  ·subst hn;exact B5 _
  ·exact absurd (by simp[AM.put,hn,I]) J
 have NT:∀{b:al} {h0:Hp},h0.next=h.next→h.next.toNat≤(h0.alloc b).next.toNat:=by
  intro b h0 e;show _≤h0.next.succ.toNat;rw[Pa.iB,e];omega
 have grow:∀{h0:Hp} {base:Option Addr} {cx eH:Nat} {aD:List V} {oc:List Value},aP C U Λ h0 ls w→h0.next=h.next→sc=.slice base cx eH→eH<cx+n→bd U aD oc→oc.length=cx*ba→
  (∀w1:World,w1.heap=w.heap→(Builtin.firstCells ba cx sc).run P w1=.ok oc.toArray w1)→sF h0 ba (cx+n) (aD++xs)=some (v,h')→
  ∃c w' aA dh,run=.ok c w'∧U.le aA∧aP C aA dh h' ls w'∧VR aA v c∧(∀a,U a=none→aA a≠none→h.next.toNat≤a.toNat)∧h.next.toNat≤h'.next.toNat:=by
  intro h0 base cx eH aD oc s0 b3 iI ap hold dC Xg m4;unfold sF at m4;cases hb:Nat.ble (cx+n) 1073741824 with
  |false=>simp[hb]at m4
  |true=>
   simp only[hb,E7]at m4;cases vt:aY (aD++xs)with
   |false=>simp[vt]at m4
   |true=>
    simp only[vt,E7,E8,apW]at m4;obtain⟨rfl,rfl⟩:=m4;obtain⟨cap,rest,g1,g2,l8⟩:=hr.grow base cx eH oc.toArray iI ap (ap5 hb) (Xg _ rfl);have Xh:(oc.toArray++xc.toArray++rest).size=cap*ba:=by
     simp only[lb6,List.size_toArray,dC,kT,g2];rw[←aqr,←aqr];congr 1;omega
    obtain⟨t1,t2⟩:=s0.row (rest:=rest) (aD:=oc.toArray) (new:=xc.toArray) (el:=el) (hold.append hx) (by simp) vt g1 Xh (w':={w with drawn:=w.drawn+1,heap:=w.heap.push (.cells (oc.toArray++xc.toArray++rest) el)}) rfl ⟨rfl,rfl,rfl,aqF _⟩;exact⟨_,_,_,_,l8,AM.lA s0.lB,t1,t2,by rw[b3];exact NS,NT b3⟩
 unfold nO at hv;cases sv<;>simp only at hv<;>(try(cases hv;done))
 ·rename_i a off m oA;cases hb:Nat.beq n 0 with
  |true=>
   have:=apY hb;subst this;simp only[hb,E7,E8,apW]at hv;obtain⟨rfl,rfl⟩:=hv;have zW:xc=[]:=ap8 (by simpa using kT);subst zW;cases hs with
   |sl _ _ _ _ L capC ha I J=>
    refine⟨_,w,U,Λ,?_,AM.le_refl U,s,.sl a off m oA L capC ha I J,fun a I J=>absurd I J,B5 _⟩;rw[hr.place _ _ _ rfl (by omega)];simp[storeCells]
   |dV _ _ _ b6 bK=>
    refine⟨_,w,U,Λ,?_,AM.le_refl U,s,.dV a off oA b6 bK,fun a I J=>absurd I J,B5 _⟩;rw[hr.place _ _ _ rfl (by omega)];simp[storeCells]
  |false=>
   have m5:n≠0:=by intro e1;subst e1;simp at hb
   simp only[hb,KL]at hv;have Dq:0<n*ba:=Nat.mul_pos (Nat.pos_of_ne_zero m5) NQ;have first:∀{aD:List V},h.cl a off (m*ba)=some aD→∃oc:List Value,bd U aD oc∧oc.length=m*ba∧∀w1:World,w1.heap=w.heap→(Builtin.firstCells ba m sc).run P w1=.ok oc.toArray w1:=by
    intro aD hold;cases hs with
    |sl _ _ _ _ L capC ha I J=>
     obtain⟨cs,k1,k2,k3⟩:=s.Lb (P:=P) ha hold;exact⟨cs,k2,k1,k3⟩
    |dV _ _ _ b6 bK=>
     have gM:aD=[]:=by
      unfold bm.cl at hold;cases jp:h.cells a with
      |none=>simp[jp]at hold
      |some m=>simp[jp,takeN]at hold;exact hold
     subst gM;exact⟨[],.nil,by simp,fun w1 _=>by simp[Builtin.firstCells,loadCells,loadCellsFrom]⟩
   have iI:∃base capC,sc=.slice base m capC:=by cases hs<;>exact⟨_,_,rfl⟩
   cases oA with
   |ex c=>
    simp only at hv;cases vu:Nat.ble (m+n) c with
    |true=>
     simp only[vu,E7]at hv;have ac:=ap5 vu;cases aj:h.db a (off+m*ba) xs with
     |none=>simp[aj,oH]at hv
     |some I=>
      simp only[aj,oH,E8,apW]at hv;obtain⟨rfl,rfl⟩:=hv;cases hs with
      |sl _ _ _ _ L capC ha lm J=>
       simp only[lz]at J;subst J;obtain⟨w',r1,r2,r3⟩:=s.db (P:=P) ha hx aj;refine⟨_,w',U,Λ,?_,AM.le_refl U,r2,.sl a off (m+n) (.ex capC) L capC ha ac rfl,fun a I J=>absurd I J,by rw[r3];exact B5 _⟩;rw[hr.place _ _ _ rfl ac];simp only[qK,aqf];rw[r1];(try rfl)
      |dV _ _ _ b6 bK=>
       have:=Fg bK;omega
    |false=>
     simp only[vu,KL]at hv;have GT:c<m+n:=by
      rcases aqE c (m+n)with I|I
      ·exact I
      ·rw[aqm I]at vu;cases vu
     cases vv:h.cl a off (m*ba)with
     |none=>simp[vv]at hv
     |some aD=>
      simp only[vv]at hv;obtain⟨oc,f1,f8,f3⟩:=first vv
      have bK:∃base,sc=.slice base m c:=by
       cases hs with
       |sl _ _ _ _ L capC ha lm J=>simp only[lz]at J;subst J;exact⟨_,rfl⟩
       |dV _ _ _ b6 bK=>have:=Fg bK;subst this;exact⟨_,rfl⟩
      obtain⟨base,Xi⟩:=bK;exact grow s rfl Xi GT f1 f8 f3 hv
   |un sz=>
    simp only at hv;cases zY:Nat.beq sz ba with
    |false=>simp[zY]at hv
    |true=>
     have:=apY zY;subst this;simp only[zY,E7]at hv;cases hg:h.get a with
     |none=>simp[hg]at hv
     |some b=>
      simp only[hg]at hv;cases b<;>simp only at hv<;>(try(cases hv;done))
      rename_i l d;cases d with
      |true=>simp at hv
      |false=>
       simp only[KL]at hv;have zQ:h.cells a=some l:=by simp[bm.cells,hg]
       have aw:∀{L:Loc},U a=some L→∃cs rz fr,w.heap[L.aw]? =some (.cells cs rz fr)∧cs.size=L.top∧quietAt cs.size fr∧po U l cs L.base∧K9 L.eb fr:=by
        intro L ha;have bn:Λ a:=by
         rcases s.live a L _ ha hg with I|⟨m,I⟩
         ·exact I
         ·cases I
        obtain⟨b',I,J⟩:=s.aw a L ha bn;rw[hg]at I;cases I;exact J
       cases dD:Nat.ble (off+(m+n)*sz) l.length with
       |true=>
        simp only[dD,E7]at hv;have ac:=ap5 dD;cases aj:h.db a (off+m*sz) xs with
        |none=>simp[aj,oH]at hv
        |some I=>
         simp only[aj,oH,E8,apW]at hv;obtain⟨rfl,rfl⟩:=hv;cases hs with
         |sl _ _ _ _ L capC ha lm J=>
          have kR:=J;simp only[lz]at kR;obtain⟨cs,rz,fr,k1,k2,k3,⟨k4,_⟩,_⟩:=aw ha;have bK:m+n≤capC:=by
           have:(m+n)*sz≤capC*sz:=by have:=kR.1;omega
           exact Nat.le_of_mul_le_mul_right this NQ
          obtain⟨w',r1,r2,r3⟩:=s.db (P:=P) ha hx aj;refine⟨_,w',U,Λ,?_,AM.le_refl U,r2,.sl a off (m+n) (.un sz) L capC ha bK J,fun a I J=>absurd I J,by rw[r3];exact B5 _⟩;rw[hr.place _ _ _ rfl bK];simp only[qK,aqf];rw[r1];(try rfl)
         |dV _ _ _ b6 bK=>
          exfalso;rcases bK with bK|⟨s',L,e1,e2,e3⟩
          ·cases bK
          ·obtain⟨cs,rz,fr,k1,k2,k3,⟨k4,_⟩,_⟩:=aw e2;rw[ap7]at ac;omega
       |false=>
        simp only[dD,KL]at hv;cases eX:takeN (m*sz) (qx off l)with
        |none=>simp[eX]at hv
        |some aD=>
         simp only[eX]at hv;have vv:h.cl a off (m*sz)=some aD:=by simp[bm.cl,zQ,eX]
         obtain⟨oc,f1,f8,f3⟩:=first vv
         cases hs with
         |dV _ _ _ b6 bK=>
          exact grow (s.again hg) rfl rfl (by omega) f1 f8 f3 hv
         |sl _ _ _ _ L capC ha lm J=>
          by_cases vw:m+n≤capC
          ·simp only[lz]at J;obtain⟨cs,rz,fr,k1,k2,k3,⟨k4,k5⟩,Hh⟩:=aw ha;obtain⟨J,Xj⟩:=J;unfold sF at hv;cases NU:Nat.ble (m+n) 1073741824 with
           |false=>simp[NU]at hv
           |true=>
            simp only[NU,E7]at hv;cases vt:aY (aD++xs)with
            |false=>simp[vt]at hv
            |true=>
             simp only[vt,E7,E8,apW]at hv;obtain⟨rfl,rfl⟩:=hv;have eV:aY xs=true:=adI vt;have hmul:(m+n)*sz≤capC*sz:=arb sz vw;rw[aqr]at hmul;obtain⟨w',cs',r1,r2,r3,r4,r5⟩:=Lu (P:=P) L.aw (L.base+off+m*sz) rz fr xs xc 0 w cs hx eV k1 k3 (by omega);have ac:=AM.lA (U:=U) (a:=h.next) (L:=⟨L.aw,L.base+off,L.top,L.eb⟩) s.lB;obtain⟨o1,o2⟩:=w3 eX;rw[qI]at o1 o2;have dC:aD.length=m*sz:=by rw[o2];simp at o1⊢;omega
             have Hi:BR C.P (U.put h.next ⟨L.aw,L.base+off,L.top,L.eb⟩) ls h.next (.cells (aD++xs) false) ⟨L.aw,L.base+off,L.top,L.eb⟩ w':=by
              refine⟨cs',rz,fr,r2,by rw[r4];exact k2,by rw[r4];exact k3,⟨?_,fun i v hv=>?_⟩,Hh⟩
              ·have:=hx.length;simp only[amv];rw[r4];show L.base+off+(aD.length+xs.length)≤cs.size;omega
              ·show∃c,cs'[L.base+off+i]? =some c∧_;rw[r5];by_cases hi:i<aD.length
               ·rw[pg (by omega)];rw[apQ hi,o2,arH (by omega),aqi]at hv;obtain⟨c,g1,g2⟩:=k5 _ _ hv;exact⟨c,by rw[aqf];exact g1,g2.mono ac⟩
               ·rw[apG (by omega)]at hv;obtain⟨c,g1,g2⟩:=hx.get hv;have i2:i-aD.length<xc.length:=(ap1.1 g1).1;rw[B4 (by omega)];have:L.base+off+i-(L.base+off+m*sz+0)=i-aD.length:=by omega
                rw[this];exact⟨c,g1,g2.mono ac⟩
             refine⟨.slice (some ⟨L.aw,L.base+off,none⟩) (m+n) capC,w',_,_,?_,ac,s.Sq ha hg r3 Hi,?_,NS,?_⟩
             ·rw[hr.place _ _ _ rfl vw];simp only[qK];rw[r1];(try rfl)
             ·have:=VR.sl (U:=U.put h.next ⟨L.aw,L.base+off,L.top,L.eb⟩) h.next 0 (m+n) (.un sz) ⟨L.aw,L.base+off,L.top,L.eb⟩ capC (AM.kh _ _ _) vw (by simp only[lz];exact⟨by omega,Xj⟩);exact this
             ·exact NT rfl
          ·exact grow (s.again hg) rfl rfl (by omega) f1 f8 f3 hv
 ·rename_i q;cases q<;>simp only at hv<;>(try(cases hv;done))
  cases hs;cases hb:Nat.beq n 0 with
  |true=>
   have:=apY hb;subst this;simp only[hb,E7,E8,apW]at hv;obtain⟨rfl,rfl⟩:=hv;have zW:xc=[]:=ap8 (by simpa using kT);subst zW;refine⟨_,w,U,Λ,?_,AM.le_refl U,s,.y8,fun a I J=>absurd I J,B5 _⟩;rw[hr.place _ _ _ rfl (B5 0)];simp
  |false=>
   have m5:n≠0:=by intro e1;subst e1;simp at hb
   simp only[hb,KL]at hv;exact grow (aD:=[]) (oc:=[]) s rfl rfl (by omega) .nil (by simp) (fun w1 _=>by simp[Builtin.firstCells]) (by simpa using hv)
theorem Lx (z:Array Value) (n:Nat):(Builtin.zeroCells z n).size=n*z.size:=by simp[Builtin.zeroCells]
theorem adJ {c:Call} {t el:TypeId} {i:TypeInfo} {zv sc xv:Value} {n:Nat} {zX:Array Value} (ht:c.argTypes[0]? =some t) {fV:TypeDesc} {t2:TypeId} (i3:c.argTypes[1]? =some t2)
 (eY:P.underlying t2=some fV) (xQ:∀k,fV≠.int k) (hu:P.underlying t=some (.slice el)) (fU:P.info? el=some i) (hz:i.zero=some zv) (i1:zv.cells.size=i.size) (tu:i.bytes≤65536) (_hsz:0<i.size)
 (hn:∀w1:World,w1.heap=w.heap→(Builtin.lenOf xv).run P w1=.ok n w1) (hx:∀w1:World,w1.heap=w.heap→(Builtin.firstCells i.size n xv).run P w1=.ok zX w1) (ty:TypeId):
 Lw P w i.size n el zX sc ((Builtin.append_ c.argTypes ty #[sc,xv]).run P w):=by
 have hm:(match fV with|.int _=>true|_=>false)=false:=by
  cases fV<;>first|rfl|exact absurd rfl (xQ _)
 constructor
 ·intro base cx eH iI ac;subst iI;simp only[Builtin.append_,ht,i3,aqU,aqe,apX,Sem.run_bind,bj hu,Result.andThen_ok,gZ fU,bj eY,Sem.run_pure,
   aqN,if_false,hn w rfl,B4 ac,Bool.not_false,if_true,hx w rfl]
  cases base<;>simp
 ·intro base cx eH aD iI ap i4 hold;subst iI;have Hj:¬(cx+n≤eH):=by omega
  have I:¬(((cx+n:Nat):Int)>IntKind.i64.max∧(False∨i.bytes=0)):=by
   intro hh;have:IntKind.i64.max=9223372036854775807:=by decide
   rw[this]at hh;omega
  have J:¬(Builtin.nextslicecap (cx+n) eH*i.bytes>2^48):=by
   have bs:=Sp (cx+n) eH ap;have a2:Builtin.nextslicecap (cx+n) eH*i.bytes≤2147484416*65536:=aq4 (by omega) tu;omega
  simp only[Builtin.append_,ht,i3,aqU,aqe,apX,Sem.run_bind,bj hu,Result.andThen_ok,gZ fU,bj eY,Sem.run_pure,
   aqN,if_false,hn w rfl,pg Hj,Bool.not_false,if_true,uK fU]
  obtain⟨cap,tq⟩:∃cap,cap=(Question.appendCap (cx+n) eH el).cut (w.tape w.drawn (.appendCap (cx+n) eH el)):=⟨_,rfl⟩
  have bK:cx+n≤cap:=by rw[tq];exact arq _ _
  refine⟨cap,Builtin.zeroCells zv.cells (cap-(cx+n)),bK,by rw[Lx,i1],?_⟩;rw[pg I];simp only[Sem.run_bind,uK fU,Result.andThen_ok,pg J];rw[Lt _ rfl,←tq];simp only[Result.andThen_ok,run_askRoom,hold];rw[hx {w with drawn:=w.drawn+1} rfl];simp only[Result.andThen_ok,lD fU hz,w8,Sem.run_pure]
theorem adK {c:Call} {t el:TypeId} {i:TypeInfo} {zv sc:Value} {k2:IntKind} {n:Nat} (ht:c.argTypes[0]? =some t) {fV:IntKind} {t2:TypeId} (i3:c.argTypes[1]? =some t2)
 (eY:P.underlying t2=some (.int fV)) (hu:P.underlying t=some (.slice el)) (fU:P.info? el=some i) (hz:i.zero=some zv) (i1:zv.cells.size=i.size) (tu:i.bytes≤65536) (_hby0:0<i.bytes)
 (bJ:0<i.size) (hn:n≤1073741824) (ty:TypeId):
 Lw P w i.size n el (Builtin.zeroCells zv.cells n) sc ((Builtin.append_ c.argTypes ty #[sc,.int k2 (.ofNat n)]).run P w):=by
 have hw:IntKind.i64.wrap (Int.ofNat n)=Int.ofNat n:=Fi .i64 n (show n≤9223372036854775807 by omega);have NV:¬(Int.ofNat n<0):=by simp
 have Hk:¬(Int.ofNat n*(i.bytes:Int)>2^48):=by
  have I:n*i.bytes≤1073741824*65536:=aq4 hn tu;have e1:Int.ofNat n*(i.bytes:Int)=((n*i.bytes:Nat):Int):=(Int.natCast_mul _ _).symm;rw[e1];omega
 have NW:(Int.ofNat n).toNat=n:=rfl;have NX:∀w1:World,(if n*i.size=0 then(pure #[]:Sem (Array Value))else do pure (Builtin.zeroCells (←zeroValue el).cells n)).run P w1=.ok (Builtin.zeroCells zv.cells n) w1:=by
  intro w1;by_cases h0:n*i.size=0
  ·have m5:n=0:=by
    rcases Nat.mul_eq_zero.1 h0 with I|I
    ·exact I
    ·omega
   subst m5;rw[B4 (by simp)];simp[Builtin.zeroCells]
  ·rw[pg h0];simp[lD fU hz]
 constructor
 ·intro base cx eH iI ac;subst iI;simp only[Builtin.append_,ht,i3,aqU,aqe,apX,Sem.run_bind,bj hu,Result.andThen_ok,gZ fU,bj eY,Sem.run_pure,if_true,asInt,asIntOf,hw,
   pg NV,uK fU,pg Hk,NW,B4 ac,aqR,aqN,if_false,NX]
  cases base<;>simp
 ·intro base cx eH aD iI ap i4 hold;subst iI;have Hj:¬(cx+n≤eH):=by omega
  have I:¬(((cx+n:Nat):Int)>IntKind.i64.max∧(True∨i.bytes=0)):=by
   intro hh;have:IntKind.i64.max=9223372036854775807:=by decide
   rw[this]at hh;omega
  have J:¬(Builtin.nextslicecap (cx+n) eH*i.bytes>2^48):=by
   have bs:=Sp (cx+n) eH ap;have a2:Builtin.nextslicecap (cx+n) eH*i.bytes≤2147484416*65536:=aq4 (by omega) tu;omega
  obtain⟨cap,tq⟩:∃cap,cap=(Question.appendCap (cx+n) eH el).cut (w.tape w.drawn (.appendCap (cx+n) eH el)):=⟨_,rfl⟩
  have bK:cx+n≤cap:=by rw[tq];exact arq _ _
  refine⟨cap,Builtin.zeroCells zv.cells (cap-(cx+n)),bK,by rw[Lx,i1],?_⟩;simp only[Builtin.append_,ht,i3,aqU,aqe,apX,Sem.run_bind,bj hu,Result.andThen_ok,gZ fU,bj eY,Sem.run_pure,if_true,asInt,asIntOf,hw,
   pg NV,uK fU,pg Hk,NW,pg Hj,aqR,aqN,if_false]
  rw[pg I];simp only[Sem.run_bind,uK fU,Result.andThen_ok,pg J];rw[Lt _ rfl,←tq];simp only[Result.andThen_ok,run_askRoom,hold,NX,lD fU hz,w8,Sem.run_pure]
end Go.Ev
namespace Go.Ev
variable{C:Cx} {U:AM} {Λ:Pa→Prop} {h:Hp} {ls:List LE} {w:World} {e:T V} {ρ:Operand→Value}
variable{P:Program} {o:Oper}
theorem adL {c:Call} {y z:Operand} {t t2:TypeId} {i:TypeInfo} {fV:TypeDesc} {zv:Value} (ho:o.op=.call c) (hc:c.callee=.builtin .append) (ha:c.args.toList=[y,z]) (ht:c.argTypes[0]? =some t)
 (hi:elemOf? P t=some i) (i3:c.argTypes[1]? =some t2) (eY:P.underlying t2=some fV) (xQ:∀k,fV≠.int k) (hz:i.zero=some zv) (i1:(dU zv).cells.length=i.size) (tu:i.bytes≤65536) (bJ:0<i.size):
 qO P o fun e h=>yZ h i.size ((cO y).ev e) ((cO z).ev e):=by
 intro C U Λ h ls w e ρ v h' jX s aB hv;dsimp only at hv;obtain⟨el,hu,fU⟩:=Fu hi;have hx:=aB y;have hw:=aB z;generalize (cO y).ev e=d at hx hv;generalize (cO z).ev e=sr at hw hv;unfold yZ at hv;cases hk:j9 sr with
 |none=>simp[hk]at hv
 |some n=>
  simp only[hk]at hv;cases vq:ln h i.size n sr with
  |none=>simp[vq]at hv
  |some xs=>
   simp only[vq]at hv;have vx:zv.cells.size=i.size:=by
    have:=(qN (U:=U) zv).length;rw[i1]at this;simpa using this.symm
   obtain⟨xc,q1,q2,Dr⟩:=Sk (P:=P) s hw vq (fun a' o' m' Xe e1=>by subst e1;simp[j9]at hk;subst hk;exact B5 _);have run:=adJ (P:=P) (w:=w) (sc:=ρ y) ht i3 eY xQ hu fU hz vx tu bJ (fun w1 _=>Sj (P:=P) (w:=w1) hw hk) Dr o.type;obtain⟨c',w',aA,dh,r1,r2,r3,r4,r5,zZ⟩:=Sr s q1 q2 bJ hx hv run;refine⟨.value c',c',w',aA,dh,?_,.inl rfl,r2,r3,r4,r5,zZ⟩;simp only[execOp,ho];obtain⟨Do,ru⟩:=uM (P:=P) (w:=w) (ρ:=ρ) (ty:=o.type) hc;rw[ru,Lv ha];simp only[builtin,aqQ,ap3,aqS];exact cr r1
theorem adM {c:Call} {y z:Operand} {t t2:TypeId} {i:TypeInfo} {fV:IntKind} {zv:Value} (ho:o.op=.call c) (hc:c.callee=.builtin .append) (ha:c.args.toList=[y,z]) (ht:c.argTypes[0]? =some t)
 (hi:elemOf? P t=some i) (i3:c.argTypes[1]? =some t2) (eY:P.underlying t2=some (.int fV)) (hz:i.zero=some zv) (i1:(dU zv).cells.length=i.size) (tu:i.bytes≤65536) (Xk:0<i.bytes) (bJ:0<i.size):
 qO P o fun e h=>y0 h i.size (dU zv).cells ((cO y).ev e) ((cO z).ev e):=by
 intro C U Λ h ls w e ρ v h' jX s aB hv;dsimp only at hv;obtain⟨el,hu,fU⟩:=Fu hi;have hx:=aB y;have hw:=aB z;generalize (cO y).ev e=d at hx hv;generalize (cO z).ev e=sr at hw hv;unfold y0 at hv;cases hk:iz sr with
 |none=>simp[hk]at hv
 |some n=>
  simp only[hk]at hv;cases hb:Nat.ble n 1073741824 with
  |false=>simp[hb]at hv
  |true=>
   simp only[hb,E7]at hv;have vx:zv.cells.size=i.size:=by
    have:=(qN (U:=U) zv).length;rw[i1]at this;simpa using this.symm
   have oz:=Ft (qN (U:=U) zv) n;obtain⟨k2,Xl⟩:∃k2,ρ z=.int k2 (.ofNat n):=by
    cases sr<;>simp only[iz]at hk<;>(try(cases hk;done))
    rename_i k m;cases m<;>simp at hk
    subst hk;generalize ρ z=fb at hw;cases hw;exact⟨k,rfl⟩
   have run:=adK (P:=P) (w:=w) (sc:=ρ y) (k2:=k2) (n:=n) ht i3 eY hu fU hz vx tu Xk bJ (ap5 hb) o.type;rw[i1]at oz;obtain⟨c',w',aA,dh,r1,r2,r3,r4,r5,zZ⟩:=Sr s (xc:=(Builtin.zeroCells zv.cells n).toList) (by simpa[Builtin.zeroCells,vx]using oz) (by simp[Lx,vx]) bJ hx hv (by simpa using run);refine⟨.value c',c',w',aA,dh,?_,.inl rfl,r2,r3,r4,r5,zZ⟩;simp only[execOp,ho];obtain⟨Do,ru⟩:=uM (P:=P) (w:=w) (ρ:=ρ) (ty:=o.type) hc;rw[ru,Lv ha];simp only[builtin,aqQ,ap3,aqS,Xl];exact cr r1
theorem Ly {b:Nat} {es:Array MapEntry} {k:Nat} (hb:w.heap[b]? =some (.map es k)):(getObj b).run P w=.ok (.map es k) w:=by simp[getObj,Sem.run,hb]
theorem Lz (s:aP C U Λ h ls w) {m:V} {c:Value} (hm:VR U m c) {r:Pa} {es:List (V×V×Nat)} {clock:Nat} (J:h.nP m=some (r,es,clock)):
 ∃L bv,U r=some L∧Λ r∧h.get r=some (.map es clock)∧c=.map (some L.aw)∧w.heap[L.aw]? =some (.map bv clock)∧jP U es bv.toList:=by
 cases m<;>simp only[bm.nP]at J<;>(try(cases J;done))
 rename_i a;cases hg:h.get a with
 |none=>simp[hg]at J
 |some b=>
  simp only[hg]at J;cases b<;>simp only at J<;>(try(cases J;done))
  cases J;cases hm with
  |map _ L ha=>
   have bn:Λ r:=by
    rcases s.live r L _ ha hg with I|⟨m,I⟩
    ·exact I
    ·cases I
   obtain⟨b',g1,g2⟩:=s.aw r L ha bn;rw[hg]at g1;cases g1;obtain⟨bv,e1,e2,e3⟩:=g2;refine⟨L,bv,ha,bn,hg,rfl,e1,by simpa using e2,fun i t ht=>?_⟩;obtain⟨x,k1,k2⟩:=e3 i t ht;exact⟨x,by simpa using k1,k2⟩
theorem LA (w:World) {b:Nat} {es:Array MapEntry} {k:Nat} {y:Obj} (hb:w.heap[b]? =some (.map es k)):∃w',(setObj b y).run P w=.ok () w'∧iR w w' b∧w'.heap[b]? =some y:=by
 have ap:=(lb1.1 hb).1;have hr:(setObj b y).run P w=.ok () {w with heap:=w.heap.setIfInBounds b y}:=by
  simp[setObj,Sem.run,hb]
 refine⟨_,hr,⟨by simp,fun i hi=>lb3 (Ne.symm hi),rfl,rfl,rfl,B5 _⟩,?_⟩
 ·exact lb4 ap
theorem jP.push {es:List (V×V×Nat)} {bv:Array MapEntry} (he:jP U es bv.toList) {k x:V} {kc xc:Value} (hk:VR U k kc) (hx:VR U x xc) (n:Nat):
 jP U (es++[(k,x,n)]) (bv.push {key:=kc,val:=xc,born:=n}).toList:=by
 obtain⟨I,J⟩:=he;refine⟨by simp at I⊢;exact I,fun i t ht=>?_⟩;by_cases hi:i<es.length
 ·rw[apQ hi]at ht;obtain⟨y,k1,k2⟩:=J i t ht;exact⟨y,by rw[Array.toList_push,apQ (by omega)];exact k1,k2⟩
 ·rw[apG (by omega)]at ht;have i2:i-es.length=0:=by
   have:=(ap1.1 ht).1;simp at this;omega
  rw[i2]at ht;simp at ht;subst ht;exact⟨_,by rw[Array.toList_push,apG (by omega),I,i2];(try rfl),hk,hx,rfl⟩
theorem LB (s:aP C U Λ h ls w) {r:Pa} {L:Loc} {es NY:List (V×V×Nat)} {clock NZ:Nat} (ha:U r=some L) (bn:Λ r) (hg:h.get r=some (.map es clock)) {Hl:Array MapEntry} {w':World}
 (hw:iR w w' L.aw) (hb:w'.heap[L.aw]? =some (.map Hl NZ)) (he:jP U NY Hl.toList):aP C U Λ (h.put r (.map NY NZ)) ls w':=by
 refine s.w5 ha bn hg rfl rfl hw ⟨Hl,hb,by simpa using he.1,fun i t ht=>?_⟩;obtain⟨x,k1,k2⟩:=he.2 i t ht;exact⟨x,by simpa using k1,k2⟩
theorem adN {t kt el:TypeId} {m k x:Operand} (ho:o.op=.mapUpdate t m k x) (ht:P.underlying t=some (.map kt el)) (hq:dJ (a7 P kt)=true):
 qO P o fun e h=>match h.nP ((cO m).ev e)with
  |some (r,es,clock)=>match(bif fits (a7 P kt) ((cO k).ev e)then iQ (a7 P kt) ((cO k).ev e) es 0 else none)with
   |some f=>match f with
    |some _=>none
    |none=>some (dm,h.put r (.map (es++[((cO k).ev e,(cO x).ev e,clock)]) (clock+1)))
   |none=>none
  |none=>none:=by
 intro C U Λ h ls w e ρ v h' jX s aB hv;dsimp only at hv;have hk:=aB k;generalize (cO k).ev e=kv at hk hv;cases hm:h.nP ((cO m).ev e)with
 |none=>simp[hm]at hv
 |some q=>
  obtain⟨r,es,clock⟩:=q;simp only[hm]at hv;cases hf:fits (a7 P kt) kv with
  |false=>simp[hf]at hv
  |true=>
   simp only[hf,E7]at hv;cases hr:iQ (a7 P kt) kv es 0 with
   |none=>simp[hr]at hv
   |some f=>
    cases f with
    |some f=>simp[hr]at hv
    |none=>
     simp only[hr,E8,apW]at hv;obtain⟨rfl,rfl⟩:=hv;obtain⟨L,bv,ha,bn,hg,z6,hb,he⟩:=Lz s (aB m) hm;obtain⟨r',g1,g2⟩:=Lr (P:=P) (w:=w) hk he hr hq;have rA:r'=none:=by cases r' with|none=>rfl|some p=>exact g2.elim
     subst rA;have cf:∀b,(Instr.checkKey b 10000 kt (ρ k)).run P w=.ok () w:=fun b=>Ls hk hf b;obtain⟨w',s1,s2,s3⟩:=LA (P:=P) w (y:=.map (bv.push {key:=ρ k,val:=ρ x,born:=clock}) (clock+1)) hb;refine⟨.skip,undef,w',U,Λ,?_,.inr ⟨rfl,rfl⟩,AM.le_refl U,LB s ha bn hg s2 s3 (he.push hk (aB x) clock),w9 U,fun a I J=>absurd I J,B5 _⟩;simp only[execOp,ho];refine Lh ?_;simp only[Instr.mapUpdate,z6,Sem.run_bind,bj ht,Result.andThen_ok,Ly hb,cf,g1,s1]
theorem adO {t kt el:TypeId} {m k:Operand} {z:V} (ho:o.op=.mapEntry t m k) (ht:P.underlying t=some (.map kt el)) (hz:jM P el=some z) (hq:dJ (a7 P kt)=true):
 qO P o fun e h=>match h.nP ((cO m).ev e)with
  |some (r,es,clock)=>match(bif fits (a7 P kt) ((cO k).ev e)then iQ (a7 P kt) ((cO k).ev e) es 0 else none)with
   |some f=>match f with
    |some _=>none
    |none=>some (.aM [z,.int .i64 (.ofNat clock)],h.put r (.map (es++[((cO k).ev e,z,clock)]) (clock+1)))
   |none=>none
  |none=>none:=by
 intro C U Λ h ls w e ρ v h' jX s aB hv;dsimp only at hv;obtain⟨i,zv,hi,lw,rfl⟩:=y9 hz;have hk:=aB k;generalize (cO k).ev e=kv at hk hv;cases hm:h.nP ((cO m).ev e)with
 |none=>simp[hm]at hv
 |some q=>
  obtain⟨r,es,clock⟩:=q;simp only[hm]at hv;cases hf:fits (a7 P kt) kv with
  |false=>simp[hf]at hv
  |true=>
   simp only[hf,E7]at hv;cases hr:iQ (a7 P kt) kv es 0 with
   |none=>simp[hr]at hv
   |some f=>
    cases f with
    |some f=>simp[hr]at hv
    |none=>
     simp only[hr,E8,apW]at hv;obtain⟨rfl,rfl⟩:=hv;obtain⟨L,bv,ha,bn,hg,z6,hb,he⟩:=Lz s (aB m) hm;obtain⟨r',g1,g2⟩:=Lr (P:=P) (w:=w) hk he hr hq;have rA:r'=none:=by cases r' with|none=>rfl|some p=>exact g2.elim
     subst rA;have cf:∀b,(Instr.checkKey b 10000 kt (ρ k)).run P w=.ok () w:=fun b=>Ls hk hf b;obtain⟨w',s1,s2,s3⟩:=LA (P:=P) w (y:=.map (bv.push {key:=ρ k,val:=zv,born:=clock}) (clock+1)) hb;refine⟨.value (.tuple #[zv,goInt clock]),.tuple #[zv,goInt clock],w',U,Λ,?_,.inl rfl,AM.le_refl U,LB s ha bn hg s2 s3 (he.push hk (Cj U zv) clock),
      .aM _ _ (.cons _ _ _ _ (Cj U zv) (.cons _ _ _ _ (.int _ _) .nil)),fun a I J=>absurd I J,B5 _⟩
     simp only[execOp,ho];refine cr ?_;simp only[Instr.mapEntry,z6,Sem.run_bind,bj ht,Result.andThen_ok,Ly hb,cf,g1,s1,lD hi lw,Sem.run_pure]
theorem findIdx_eq {b:Nat}:∀{es:List (V×V×Nat)} {bv:List MapEntry},jP U es bv→bv.findIdx? (fun e=>(e.born:Int)==Int.ofNat b)=es.findIdx? (fun t=>Nat.beq t.2.2 b)
 |[],bv,he=>by
  have:bv=[]:=ap8 (by simpa using he.1);subst this;rfl
 |t::es,bv,he=>by
  obtain⟨x,r,rfl,I,J,h3,h4⟩:=he.cons;simp only[List.findIdx?_cons,findIdx_eq h4];have:((x.born:Int)==Int.ofNat b)=Nat.beq t.2.2 b:=by
   rw[h3,aqC,Nat.beq_eq];simp only[beq_iff_eq];exact Int.ofNat_inj
  rw[this]
theorem jP.modify {es:List (V×V×Nat)} {bv:Array MapEntry} (he:jP U es bv.toList) {x:V} {xc:Value} (hx:VR U x xc) (i:Nat):
 jP U (es.modify i fun t=>(t.1,x,t.2.2)) (bv.modify i fun e=>{e with val:=xc}).toList:=by
 obtain⟨I,J⟩:=he;refine⟨by simp at I⊢;exact I,fun j t ht=>?_⟩;rw[arJ]at ht;rw[lb5,lb2];cases hj:es[j]? with
 |none=>rw[hj]at ht;simp at ht
 |some u=>
  obtain⟨y,k1,k2,k3,k4⟩:=J j u hj;rw[lb5]at k1;rw[hj]at ht;rw[k1];by_cases dr:i=j
  ·simp[dr]at ht⊢;subst ht;exact⟨k2,hx,k4⟩
  ·simp[dr]at ht⊢;subst ht;exact⟨k2,k3,k4⟩
theorem adP {t:TypeId} {m s x:Operand} (ho:o.op=.entryStore t m s x):
 qO P o fun e h=>match h.nP ((cO m).ev e)with
  |some (r,es,clock)=>match iz ((cO s).ev e)with
   |some b=>match es.findIdx? (fun t=>Nat.beq t.2.2 b)with
    |some i=>some (dm,h.put r (.map (es.modify i fun t=>(t.1,(cO x).ev e,t.2.2)) clock))
    |none=>none
   |none=>none
  |none=>none:=by
 intro C U Λ h ls w e ρ v h' jX S aB hv;dsimp only at hv;have hs:=aB s;generalize (cO s).ev e=sv at hs hv;cases hm:h.nP ((cO m).ev e)with
 |none=>simp[hm]at hv
 |some q=>
  obtain⟨r,es,clock⟩:=q;simp only[hm]at hv;cases hn:iz sv with
  |none=>simp[hn]at hv
  |some b=>
   simp only[hn]at hv;cases hi:es.findIdx? (fun t=>Nat.beq t.2.2 b)with
   |none=>simp[hi]at hv
   |some i=>
    simp only[hi,E8,apW]at hv;obtain⟨rfl,rfl⟩:=hv;obtain⟨L,bv,ha,bn,hg,z6,hb,he⟩:=Lz S (aB m) hm;obtain⟨w',s1,s2,s3⟩:=LA (P:=P) w (y:=.map (bv.modify i fun e=>{e with val:=ρ x}) clock) hb;have l6:bv.findIdx? (fun e=>(e.born:Int)==Int.ofNat b)=some i:=by
     cases bv with|mk l=>rw[List.findIdx?_toArray,findIdx_eq he];exact hi
    refine⟨.skip,undef,w',U,Λ,?_,.inr ⟨rfl,rfl⟩,AM.le_refl U,LB S ha bn hg s2 s3 (he.modify (aB x) i),w9 U,fun a I J=>absurd I J,B5 _⟩;have iI:∃k,ρ s=.int k (.ofNat b):=by
     cases sv<;>simp only[iz]at hn<;>(try(cases hn;done))
     rename_i k mm;cases mm<;>simp at hn
     subst hn;generalize ρ s=fb at hs;cases hs;exact⟨k,rfl⟩
    obtain⟨k,iI⟩:=iI;simp only[execOp,ho];refine Lh ?_;simp only[Instr.entryStore,z6,iI,Sem.run_bind,Result.andThen_ok,Ly hb,asInt,asIntOf,Sem.run_pure,l6,s1]
theorem adQ {w:World} {b:Nat} {cs:Array Value} {el:TypeId} {fr:Nat×Nat} (hb:w.heap[b]? =some (.cells cs el fr)) (hq:quietAt cs.size fr):
 ∃fr',(w.freeze ⟨b,cs.size,none⟩ 1).heap[b]? =some (.cells cs el fr')∧quietAt cs.size fr'∧iR w (w.freeze ⟨b,cs.size,none⟩ 1) b:=by
 obtain⟨lo,hi⟩:=fr;refine⟨if lo==hi then(cs.size,cs.size+1)else(min lo cs.size,max hi (cs.size+1)),?_,?_,Sc,fun i hi=>Sb hi,Cm _ _ _⟩
 ·unfold World.freeze;rw[pg (by decide)];simp only[lb2,hb,if_true];simp
 ·by_cases he:lo=hi
  ·subst he;simp only[beq_self_eq_true,if_true];exact .inr (B5 _)
  ·have:(lo==hi)=false:=by simpa using he
   rw[this];simp only[aqN,if_false];rcases hq with I|I
   ·exact absurd I he
   ·exact .inr (by simp only at I⊢;omega)
theorem adR {sT iH el:TypeId} {x:Operand} (ho:o.op=.convert sT iH x) {e0:TypeId} (hs:P.underlying sT=some (.slice e0)) (hd:P.underlying iH=some (.slice el)) (Xm:Nat.beq sT iH=true) (he:P.underlying el=some (.int .u8)):
 qO P o fun e h=>KS h ((cO x).ev e):=by
 intro C U Λ h ls w e ρ v h' jX s aB hv;have d3:=apY Xm;dsimp only at hv;have hx:=aB x;generalize (cO x).ev e=a at hx hv;cases a<;>simp only[KS]at hv<;>(try(cases hv;done))
 rename_i a off n c;cases hn:Nat.beq n 0 with
 |true=>simp[hn]at hv
 |false=>
 simp only[hn,KL]at hv;cases hc:Fb c with
 |none=>simp[hc]at hv
 |some c'=>
 simp only[hc]at hv;cases hg:h.get a with
 |none=>simp[hg]at hv
 |some b=>
 simp only[hg]at hv;cases b<;>simp only at hv<;>(try(cases hv;done))
 rename_i l d;cases d with
 |true=>simp at hv
 |false=>
 simp only[KL,E8,apW]at hv;obtain⟨rfl,rfl⟩:=hv;generalize hq:ρ x=q at hx;cases hx with
 |dV _ _ _ b6 _=>exact absurd hn (by decide)
 |sl _ _ _ _ L capC ha I J=>
 have bn:Λ a:=by
  rcases s.live a L _ ha hg with I|⟨m,I⟩
  ·exact I
  ·cases I
 obtain⟨b',g1,g2⟩:=s.aw a L ha bn;rw[hg]at g1;cases g1;obtain⟨cs,rz,fr,k1,k2,k3,k4,_⟩:=g2;obtain⟨fr',f1,f8,f3⟩:=adQ k1 k3;have ac:=AM.lA (U:=U) (a:=h.next) (L:=⟨L.aw,L.base,L.top,true⟩) s.lB;have Hi:BR C.P (U.put h.next ⟨L.aw,L.base,L.top,true⟩) ls h.next (.cells l false) ⟨L.aw,L.base,L.top,true⟩ (w.freeze ⟨L.aw,cs.size,none⟩ 1):=
  ⟨cs,rz,fr',f1,k2,f8,k4.mono ac,fun h=>by cases h⟩
 refine⟨.value (.slice (some ⟨L.aw,L.base+off,none⟩) n capC),_,w.freeze ⟨L.aw,cs.size,none⟩ 1,_,_,?_,.inl rfl,ac,s.Sq ha hg f3 Hi,?_,?_,?_⟩
 ·simp only[execOp,ho,hq];refine cr ?_;have hm:w.shape? L.aw=some (rz,cs.size):=by simp[World.shape?,k1]
  subst d3;simp only[convert,Sem.run_bind,bj hs,Result.andThen_ok];have:el=e0:=by rw[hs]at hd;cases hd;rfl
  subst this;simp only[bj he,Result.andThen_ok,beq_self_eq_true,markStringish,Sem.run_bind,run_shape,hm,run_freeze,Sem.run_pure]
 ·have vo:lz ⟨L.aw,L.base,L.top,true⟩ off capC c':=by
   cases c with
   |ex k=>simp only[Fb,E8]at hc;subst hc;exact J
   |un k=>
    simp only[Fb]at hc;cases hk:Nat.beq k 1 with
    |false=>simp[hk]at hc
    |true=>
     have:=apY hk;subst this;simp only[hk,E7,E8]at hc;subst hc;exact⟨J.1,.inl rfl⟩
  exact VR.sl (U:=U.put h.next ⟨L.aw,L.base,L.top,true⟩) h.next off n c' ⟨L.aw,L.base,L.top,true⟩ capC (AM.kh _ _ _) I vo
 ·intro a' I J;by_cases pV:a'=h.next
  ·subst pV;exact B5 _
  ·exact absurd (by simp[AM.put,pV,I]) J
 ·show _≤h.next.succ.toNat;rw[Pa.iB];omega
theorem adS {f:T V→Hp→Option (V×Hp)} (hc:cR P o.op=.st f):qO P o f:=by
 cases aS:o.op<;>rw[aS]at hc<;>simp only[cR]at hc<;>(try(cases hc;done))
 case build t ps=>repeat' (first|(cases hc;done)|split at hc)
 case buildSlice t len ps=>repeat' (first|(cases hc;done)|split at hc)
 case load t a=>split at hc<;>cases hc
 case alloc t=>split at hc<;>cases hc
 case store t a v=>
  split at hc
  ·rename_i n hn;cases hc;exact adC aS hn
  ·cases hc
 case binOp op t x y yt=>
  split at hc
  ·cases d1:(ft x||ft y)<;>rw[d1]at hc<;>cases hc
  ·cases hc
 case convert s d x=>
  unfold qD at hc;split at hc
  ·repeat' (first|(cases hc;done)|split at hc)
  ·repeat' (first|(cases hc;done)|split at hc)
  ·rename_i el hd;split at hc
   ·repeat' (first|(cases hc;done)|split at hc)
   ·rename_i e0 hs;cases hb:Nat.beq s d with
    |false=>rw[hb]at hc;cases hc
    |true=>
     rw[hb]at hc;simp only[E7]at hc;split at hc
     ·rename_i he;cases hc;exact adR aS hs hd hb he
     ·cases hc
   ·cases hc
  ·cases hc
 case makeInterface t x=>repeat' (first|(cases hc;done)|split at hc)
 case makeFunc fn first bf=>
  cases fn<;>simp only at hc<;>(try(cases hc;done))
  repeat' (first|(cases hc;done)|split at hc)
 case makeMap t r=>cases r<;>cases hc
 case makeSlice t l c=>repeat' (first|(cases hc;done)|split at hc)
 case slice t x lo hi mx=>
  split at hc
  ·cases mx with
   |none=>simp only at hc;split at hc<;>cases hc
   |some m=>cases hc
  ·cases mx<;>cases hc
  ·split at hc
   ·cases hm:(mx.isSome&&hi.isNone)<;>rw[hm]at hc<;>cases hc
   ·cases hc
  ·cases hc
 case fieldAddr t x k=>repeat' (first|(cases hc;done)|split at hc)
 case field t x k=>repeat' (first|(cases hc;done)|split at hc)
 case indexAddr t x i=>repeat' (first|(cases hc;done)|split at hc)
 case index t x i=>repeat' (first|(cases hc;done)|split at hc)
 case lookup t x i ok=>
  split at hc
  ·rename_i k el hu;split at hc
   ·cases hq:dJ (a7 P k)<;>rw[hq]at hc<;>cases hc
   ·cases hc
  ·cases hc
 case mapUpdate t m k v=>
  split at hc
  ·rename_i kt el hu;cases hq:dJ (a7 P kt)<;>rw[hq]at hc<;>cases hc
   exact adN aS hu hq
  ·cases hc
 case mapEntry t m k=>
  split at hc
  ·rename_i kt el hu;split at hc
   ·rename_i z hz;cases hq:dJ (a7 P kt)<;>rw[hq]at hc<;>cases hc
    exact adO aS hu hz hq
   ·cases hc
  ·cases hc
 case entryStore t m s x=>cases hc;exact adP aS
 case typeAssert x xt t ok=>repeat' (first|(cases hc;done)|split at hc)
 case defer c=>repeat' (first|(cases hc;done)|split at hc)
 case call c=>
  split at hc
  ·rename_i b hb;cases b<;>simp only[pn]at hc<;>(try(cases hc;done))
   case len=>repeat' (first|(cases hc;done)|split at hc)
   case cap=>repeat' (first|(cases hc;done)|split at hc)
   case max=>repeat' (first|(cases hc;done)|split at hc)
   case min=>repeat' (first|(cases hc;done)|split at hc)
   case panic=>repeat' (first|(cases hc;done)|split at hc)
   case copy=>
    split at hc
    ·rename_i d s hl;obtain⟨y,m,hy,rfl,hm⟩:=uN hl;obtain⟨z,rfl,rfl⟩:=pr hm.symm;split at hc
     ·rename_i i hi;cases hc;rw[aqg]at hi;obtain⟨t,ht,hi⟩:=hi;exact adF aS hb hy ht hi
     ·cases hc
    ·cases hc
   case clear=>
    split at hc
    ·rename_i x hl;obtain⟨y,hy,rfl⟩:=pr hl;split at hc
     ·rename_i i hi;split at hc
      ·rename_i z hz;cases hc;rw[aqg]at hi;obtain⟨t,ht,hi⟩:=hi;exact adG aS hb hy ht hi hz
      ·cases hc
     ·cases hc
    ·cases hc
   case append=>
    split at hc
    ·rename_i d s hl;obtain⟨y,m,hy,rfl,hm⟩:=uN hl;obtain⟨z,rfl,rfl⟩:=pr hm.symm;split at hc
     ·rename_i i hi;rw[aqg]at hi;obtain⟨t,ht,hi⟩:=hi;split at hc
      ·rename_i k hk;rw[aqg]at hk;obtain⟨t2,i3,hk⟩:=hk;split at hc
       ·rename_i zv hz;split at hc
        ·rename_i hh;cases hc;exact adM aS hb hy ht hi i3 hk hz hh.2.2.2 hh.1 hh.2.1 hh.2.2.1
        ·cases hc
       ·cases hc
      ·rename_i fV l9 hk;rw[aqg]at hk;obtain⟨t2,i3,hk⟩:=hk;split at hc
       ·rename_i zv hz;split at hc
        ·rename_i hh;cases hc;exact adL aS hb hy ht hi i3 hk (fun k e1=>l9 k (by rw[e1])) hz hh.2.2 hh.1 hh.2.1
        ·cases hc
       ·cases hc
      ·cases hc
     ·cases hc
    ·cases hc
  ·rename_i g hg;cases g<;>cases hc
  ·cases hc
end Go.Ev
namespace Go.Ev
variable{P:Program} {o:Oper} {e e':T V} {h h':Hp}
def ic (e e':T V) (l:List Operand):Prop:=∀x∈l,(cO x).ev e=(cO x).ev e'
theorem Fv:∀{l:List Operand},ic e e' l→ea e (l.map cO)=ea e' (l.map cO)
 |[],_=>rfl
 |x::l,hs=>by
  simp only[ap3,ea];rw[hs x (by simp),Fv (fun y hy=>hs y (by simp[hy]))]
theorem LC (b:Bool):∀{l:List Operand} (v:V),ic e e' l→qz b e (l.map cO) v=qz b e' (l.map cO) v
 |[],_,_=>rfl
 |x::l,v,hs=>by
  simp only[ap3,qz];rw[hs x (by simp)];cases mm b v ((cO x).ev e')with
  |none=>rfl
  |some z=>exact LC b z (fun y hy=>hs y (by simp[hy]))
theorem LD {x:Option Operand} (hs:∀y,x=some y→(cO y).ev e=(cO y).ev e'):aZ e (x.map cO)=aZ e' (x.map cO):=by
 cases x with
 |none=>rfl
 |some y=>simp only[ap0,aZ];rw[hs y rfl]
theorem Fw {place:Nat→Option (Nat×Nat)}:∀{ps:List (Nat×Operand)} {l:List (Nat×Nat×Od)} {z:List V},kd place ps=some l→ic e e' (ps.map (·.2))→jd e l z=jd e' l z
 |[],l,z,hp,_=>by simp[kd]at hp;subst hp;rfl
 |(i,x)::ps,l,z,hp,hs=>by
  simp only[kd]at hp;cases I:place i with
  |none=>simp[I]at hp
  |some on=>
   obtain⟨a,n⟩:=on;simp only[I]at hp;cases J:kd place ps with
   |none=>simp[J]at hp
   |some l'=>
    simp only[J,E8]at hp;subst hp;simp only[jd];rw[hs x (by simp)];cases Nat.beq ((cO x).ev e').cells.length n<;>simp only[KL,E7]
    cases aY ((cO x).ev e').cells<;>simp only[KL,E7]
    cases dk a z ((cO x).ev e').cells with
    |none=>rfl
    |some z'=>exact Fw J (fun y hy=>hs y (by simp[hy]))
theorem adT {b:Builtin} {c:Call} {f:T V→Hp→Option V} (hc:pn P b (c.args.toList.map cO) c.argTypes=.pu f) (hs:ic e e' c.args.toList):f e h=f e' h':=by
 cases b<;>simp only[pn]at hc<;>(try(cases hc;done))
 case append=>repeat' (first|(cases hc;done)|split at hc)
 case clear=>repeat' (first|(cases hc;done)|split at hc)
 case copy=>repeat' (first|(cases hc;done)|split at hc)
 case panic=>repeat' (first|(cases hc;done)|split at hc)
 case len=>
  split at hc
  ·rename_i x hx;obtain⟨y,hy,rfl⟩:=pr hx;have:=hs y (by simp[hy]);split at hc
   ·cases hc;simp only[this]
   ·cases hc;simp only[this]
   ·cases hc
  ·cases hc
 case cap=>
  split at hc
  ·rename_i x hx;obtain⟨y,hy,rfl⟩:=pr hx;have:=hs y (by simp[hy]);split at hc
   ·cases hc;simp only[this]
   ·cases hc
  ·cases hc
 case max=>
  split at hc
  ·rename_i x r hx;obtain⟨y,m,hy,rfl,rfl⟩:=uN hx;cases hc;rw[hy]at hs;simp only[hs y (by simp)];exact LC _ _ (fun z hz=>hs z (by simp[hz]))
  ·cases hc
 case min=>
  split at hc
  ·rename_i x r hx;obtain⟨y,m,hy,rfl,rfl⟩:=uN hx;cases hc;rw[hy]at hs;simp only[hs y (by simp)];exact LC _ _ (fun z hz=>hs z (by simp[hz]))
  ·cases hc
theorem Cn {f:T V→Hp→Option V} (hc:cR P o.op=.pu f) (hs:ic e e' o.op.operands.toList) (hh:ke o.op=true→h=h'):f e h=f e' h':=by
 cases aS:o.op<;>rw[aS]at hc hs hh<;>simp only[cR]at hc<;>(try(cases hc;done))<;>simp only[Op.operands]at hs
 case move x=>cases hc;simp only[hs x (by simp)]
 case assign x=>cases hc;simp only[hs x (by simp)]
 case pick c a b=>cases hc;simp only[hs c (by simp),hs a (by simp),hs b (by simp)]
 case alloc t=>split at hc<;>cases hc
 case build t ps=>
  have jZ:ic e e' (ps.toList.map (·.2)):=by simpa using hs
  split at hc
  ·split at hc
   ·split at hc
    ·rename_i l hl;cases hc;simp only[Fw hl jZ]
    ·cases hc
   ·cases hc
  ·split at hc
   ·split at hc
    ·split at hc
     ·rename_i l hl;cases hc;simp only[Fw hl jZ]
     ·cases hc
    ·cases hc
   ·cases hc
  ·cases hc
 case buildSlice t len ps=>repeat' (first|(cases hc;done)|split at hc)
 case load t a=>
  have:=hh rfl;subst this;split at hc
  ·cases hc;simp only[hs a (by simp)]
  ·cases hc
 case store t a v=>split at hc<;>cases hc
 case nilCheck x=>cases hc;simp only[hs x (by simp)]
 case binOp op t x y yt=>
  have I:=hs x (by simp);have J:=hs y (by simp);split at hc
  ·cases d1:(ft x||ft y)with
   |false=>rw[d1]at hc;cases hc
   |true=>rw[d1]at hc;cases hc;simp only[I,J]
  ·cases hc;simp only[I,J]
 case unOp op t x=>cases hc;simp only[hs x (by simp)]
 case convert s d x=>
  have I:=hs x (by simp);have:=hh rfl;subst this;unfold qD at hc;split at hc
  ·split at hc
   ·cases hc;simp only[I]
   ·cases hc
  ·split at hc
   ·cases hc;simp only[I]
   ·split at hc
    ·cases hc;simp only[I]
    ·cases hc
   ·cases hc
  ·repeat' (first|(cases hc;done)|split at hc)
   all_goals (cases hb:Nat.beq s d<;>rw[hb]at hc<;>cases hc)
  ·cases hc
 case makeInterface t x=>
  split at hc
  ·cases hc
  ·cases hc;simp only[hs x (by simp)]
  ·cases hc
 case makeFunc fn first bf=>
  cases fn<;>simp only at hc<;>(try(cases hc;done))
  split at hc
  ·cases hc;simp only[Fv (l:=bf.toList) (fun y hy=>hs y (by simp at hy⊢;exact .inr hy))]
  ·cases hc
 case makeMap t r=>cases r<;>cases hc
 case makeSlice t l c=>repeat' (first|(cases hc;done)|split at hc)
 case slice t x lo hi mx=>
  have I:=hs x (by simp);have J:aZ e (lo.map cO)=aZ e' (lo.map cO):=LD fun y hy=>hs y (by simp[hy]);have h3:aZ e (hi.map cO)=aZ e' (hi.map cO):=LD fun y hy=>hs y (by simp[hy]);have h4:aZ e (mx.map cO)=aZ e' (mx.map cO):=LD fun y hy=>hs y (by simp[hy]);split at hc
  ·cases mx with
   |none=>
    simp only at hc;split at hc
    ·cases hc;simp only[I,J,h3]
    ·cases hc
   |some m=>cases hc
  ·cases mx with
   |none=>cases hc;simp only[I,J,h3]
   |some m=>cases hc
  ·split at hc
   ·cases hm:(mx.isSome&&hi.isNone)with
    |true=>rw[hm]at hc;cases hc
    |false=>rw[hm]at hc;cases hc;have e1:=hh rfl;subst e1;simp only[I,J,h3,h4]
   ·cases hc
  ·cases hc
 case fieldAddr t x k=>
  have I:=hs x (by simp);split at hc
  ·split at hc
   ·split at hc
    ·cases hc;simp only[I]
    ·cases hc
   ·cases hc
  ·cases hc
 case field t x k=>
  have I:=hs x (by simp);split at hc
  ·split at hc
   ·split at hc
    ·cases hc;simp only[I]
    ·cases hc
   ·cases hc
  ·cases hc
 case indexAddr t x i=>
  have I:=hs x (by simp);have J:=hs i (by simp);split at hc
  ·split at hc
   ·cases hc;simp only[I,J]
   ·cases hc
  ·split at hc
   ·cases hc;simp only[I,J]
   ·cases hc
  ·cases hc
 case index t x i=>
  have I:=hs x (by simp);have J:=hs i (by simp);split at hc
  ·cases hc;simp only[I,J]
  ·split at hc
   ·split at hc
    ·cases hc;simp only[I,J]
    ·cases hc
   ·cases hc
  ·cases hc
 case lookup t x i ok=>
  have:=hh rfl;subst this;have I:=hs x (by simp);have J:=hs i (by simp);split at hc
  ·rename_i k el hu;split at hc
   ·cases hq:dJ (a7 P k)with
    |false=>rw[hq]at hc;cases hc
    |true=>rw[hq]at hc;cases hc;simp only[I,J]
   ·cases hc
  ·cases hc
 case mapUpdate t m k v=>
  split at hc
  ·rename_i kt el hu;cases hq:dJ (a7 P kt)<;>rw[hq]at hc<;>cases hc
  ·cases hc
 case mapEntry t m k=>
  split at hc
  ·rename_i kt el hu;split at hc
   ·cases hq:dJ (a7 P kt)<;>rw[hq]at hc<;>cases hc
   ·cases hc
  ·cases hc
 case typeAssert x xt t ok=>
  have I:=hs x (by simp);split at hc
  ·cases hc
  ·split at hc
   ·cases hc;simp only[I]
   ·cases hc
  ·cases hc
 case extract x i=>cases hc;simp only[hs x (by simp)]
 case call c=>
  split at hc
  ·rename_i b hb;refine adT hc (fun x hx=>hs x ?_);simp only[Call.operands,hb];simpa using hx
  ·rename_i g hg;cases g<;>cases hc
  ·cases hc
 case defer c=>repeat' (first|(cases hc;done)|split at hc)
theorem Fy {f:T V→Option (al×(Pa→V))} (hc:cR P o.op=.dw f) (hs:ic e e' o.op.operands.toList):f e=f e':=by
 cases aS:o.op<;>rw[aS]at hc hs<;>simp only[cR]at hc<;>(try(cases hc;done))<;>simp only[Op.operands]at hs
 case alloc t=>
  split at hc
  ·cases hc;rfl
  ·cases hc
 case box t x=>cases hc;simp only[hs x (by simp)]
 case build t ps=>repeat' (first|(cases hc;done)|split at hc)
 case buildSlice t len ps=>
  have jZ:ic e e' (ps.toList.map (·.2)):=by simpa using hs
  split at hc
  ·split at hc
   ·split at hc
    ·split at hc
     ·rename_i l hl;cases hc;simp only[Fw hl jZ]
     ·cases hc
    ·cases hc
   ·cases hc
  ·cases hc
 case load t a=>split at hc<;>cases hc
 case store t a v=>split at hc<;>cases hc
 case binOp op t x y yt=>
  split at hc
  ·cases d1:(ft x||ft y)<;>rw[d1]at hc<;>cases hc
  ·cases hc
 case convert s d x=>
  have I:=hs x (by simp);unfold qD at hc;split at hc
  ·repeat' (first|(cases hc;done)|split at hc)
  ·repeat' (first|(cases hc;done)|split at hc)
  ·split at hc
   ·split at hc
    ·cases hc;simp only[I]
    ·cases hc
   ·cases hb:Nat.beq s d with
    |false=>rw[hb]at hc;cases hc
    |true=>
     rw[hb]at hc;simp only[E7]at hc;split at hc<;>cases hc
   ·cases hc
  ·cases hc
 case makeInterface t x=>repeat' (first|(cases hc;done)|split at hc)
 case makeFunc fn first bf=>
  cases fn<;>simp only at hc<;>(try(cases hc;done))
  repeat' (first|(cases hc;done)|split at hc)
 case makeMap t r=>
  cases r with
  |none=>cases hc;rfl
  |some r=>cases hc
 case makeSlice t l c=>
  have I:=hs l (by simp);have J:=hs c (by simp);split at hc
  ·split at hc
   ·split at hc
    ·cases hc;simp only[I,J]
    ·cases hc
   ·cases hc
  ·cases hc
 case slice t x lo hi mx=>
  split at hc
  ·cases mx with
   |none=>simp only at hc;split at hc<;>cases hc
   |some m=>cases hc
  ·cases mx<;>cases hc
  ·split at hc
   ·cases hm:(mx.isSome&&hi.isNone)<;>rw[hm]at hc<;>cases hc
   ·cases hc
  ·cases hc
 case fieldAddr t x k=>repeat' (first|(cases hc;done)|split at hc)
 case field t x k=>repeat' (first|(cases hc;done)|split at hc)
 case indexAddr t x i=>repeat' (first|(cases hc;done)|split at hc)
 case index t x i=>repeat' (first|(cases hc;done)|split at hc)
 case lookup t x i ok=>
  split at hc
  ·rename_i k el hu;split at hc
   ·cases hq:dJ (a7 P k)<;>rw[hq]at hc<;>cases hc
   ·cases hc
  ·cases hc
 case mapUpdate t m k v=>
  split at hc
  ·rename_i kt el hu;cases hq:dJ (a7 P kt)<;>rw[hq]at hc<;>cases hc
  ·cases hc
 case mapEntry t m k=>
  split at hc
  ·rename_i kt el hu;split at hc
   ·cases hq:dJ (a7 P kt)<;>rw[hq]at hc<;>cases hc
   ·cases hc
  ·cases hc
 case typeAssert x xt t ok=>repeat' (first|(cases hc;done)|split at hc)
 case call c=>
  split at hc
  ·rename_i b hb;cases b<;>simp only[pn]at hc<;>(try(cases hc;done))<;>repeat' (first|(cases hc;done)|split at hc)
  ·rename_i g hg;cases g<;>cases hc
  ·cases hc
 case defer c=>repeat' (first|(cases hc;done)|split at hc)
theorem adU {f:T V→Hp→Option (V×Hp)} (hc:cR P o.op=.st f) (hs:ic e e' o.op.operands.toList):f e h=f e' h:=by
 cases aS:o.op<;>rw[aS]at hc hs<;>simp only[cR]at hc<;>(try(cases hc;done))<;>simp only[Op.operands]at hs
 case build t ps=>repeat' (first|(cases hc;done)|split at hc)
 case buildSlice t len ps=>repeat' (first|(cases hc;done)|split at hc)
 case load t a=>split at hc<;>cases hc
 case alloc t=>split at hc<;>cases hc
 case store t a v=>
  have I:=hs a (by simp);have J:=hs v (by simp);split at hc
  ·cases hc;simp only[I,J]
  ·cases hc
 case binOp op t x y yt=>
  split at hc
  ·cases d1:(ft x||ft y)<;>rw[d1]at hc<;>cases hc
  ·cases hc
 case convert s d x=>
  have I:=hs x (by simp);unfold qD at hc;split at hc
  ·repeat' (first|(cases hc;done)|split at hc)
  ·repeat' (first|(cases hc;done)|split at hc)
  ·split at hc
   ·repeat' (first|(cases hc;done)|split at hc)
   ·cases hb:Nat.beq s d with
    |false=>rw[hb]at hc;cases hc
    |true=>
     rw[hb]at hc;simp only[E7]at hc;split at hc
     ·cases hc;simp only[I]
     ·cases hc
   ·cases hc
  ·cases hc
 case makeInterface t x=>repeat' (first|(cases hc;done)|split at hc)
 case makeFunc fn first bf=>
  cases fn<;>simp only at hc<;>(try(cases hc;done))
  repeat' (first|(cases hc;done)|split at hc)
 case makeMap t r=>cases r<;>cases hc
 case makeSlice t l c=>repeat' (first|(cases hc;done)|split at hc)
 case slice t x lo hi mx=>
  split at hc
  ·cases mx with
   |none=>simp only at hc;split at hc<;>cases hc
   |some m=>cases hc
  ·cases mx<;>cases hc
  ·split at hc
   ·cases hm:(mx.isSome&&hi.isNone)<;>rw[hm]at hc<;>cases hc
   ·cases hc
  ·cases hc
 case fieldAddr t x k=>repeat' (first|(cases hc;done)|split at hc)
 case field t x k=>repeat' (first|(cases hc;done)|split at hc)
 case indexAddr t x i=>repeat' (first|(cases hc;done)|split at hc)
 case index t x i=>repeat' (first|(cases hc;done)|split at hc)
 case lookup t x i ok=>
  split at hc
  ·rename_i k el hu;split at hc
   ·cases hq:dJ (a7 P k)<;>rw[hq]at hc<;>cases hc
   ·cases hc
  ·cases hc
 case mapUpdate t m k v=>
  have I:=hs m (by simp);have J:=hs k (by simp);have h3:=hs v (by simp);split at hc
  ·rename_i kt el hu;cases hq:dJ (a7 P kt)<;>rw[hq]at hc<;>cases hc
   simp only[I,J,h3]
  ·cases hc
 case mapEntry t m k=>
  have I:=hs m (by simp);have J:=hs k (by simp);split at hc
  ·rename_i kt el hu;split at hc
   ·rename_i z hz;cases hq:dJ (a7 P kt)<;>rw[hq]at hc<;>cases hc
    simp only[I,J]
   ·cases hc
  ·cases hc
 case entryStore t m s x=>
  have I:=hs m (by simp);have J:=hs s (by simp);have h3:=hs x (by simp);cases hc;simp only[I,J,h3]
 case typeAssert x xt t ok=>repeat' (first|(cases hc;done)|split at hc)
 case defer c=>repeat' (first|(cases hc;done)|split at hc)
 case call c=>
  split at hc
  ·rename_i b hb;have jZ:ic e e' c.args.toList:=fun x hx=>hs x (by simp only[Call.operands,hb];simpa using hx);cases b<;>simp only[pn]at hc<;>(try(cases hc;done))
   case len=>repeat' (first|(cases hc;done)|split at hc)
   case cap=>repeat' (first|(cases hc;done)|split at hc)
   case max=>repeat' (first|(cases hc;done)|split at hc)
   case min=>repeat' (first|(cases hc;done)|split at hc)
   case panic=>repeat' (first|(cases hc;done)|split at hc)
   case copy=>
    split at hc
    ·rename_i d s hl;obtain⟨y,m,hy,rfl,hm⟩:=uN hl;obtain⟨z,rfl,rfl⟩:=pr hm.symm;have I:=jZ y (by simp[hy]);have J:=jZ z (by simp[hy]);split at hc
     ·cases hc;simp only[I,J]
     ·cases hc
    ·cases hc
   case clear=>
    split at hc
    ·rename_i x hl;obtain⟨y,hy,rfl⟩:=pr hl;have I:=jZ y (by simp[hy]);split at hc
     ·split at hc
      ·cases hc;simp only[I]
      ·cases hc
     ·cases hc
    ·cases hc
   case append=>
    split at hc
    ·rename_i d s hl;obtain⟨y,m,hy,rfl,hm⟩:=uN hl;obtain⟨z,rfl,rfl⟩:=pr hm.symm;have I:=jZ y (by simp[hy]);have J:=jZ z (by simp[hy]);split at hc
     ·split at hc
      ·split at hc
       ·split at hc
        ·cases hc;simp only[I,J]
        ·cases hc
       ·cases hc
      ·split at hc
       ·split at hc
        ·cases hc;simp only[I,J]
        ·cases hc
       ·cases hc
      ·cases hc
     ·cases hc
    ·cases hc
  ·rename_i g hg;cases g<;>cases hc
  ·cases hc
end Go.Ev
namespace Go.Ev
variable{P:Program}
structure CK where
 fn:Nat
 kind:CallKind
 round:Option Nat
def CK.fr (K:CK) (tmps:Array Value) (todo:List Go.Item) (ds:List Deferred) (m:FrameMode):Frame:=
 {fn:=K.fn,tmps,todo,defers:=ds,mode:=m,kind:=K.kind,roundOf:=K.round}
def de (tmps:Array Value):Operand→Value
 |.tmp t=>tmps.getD t undef
 |.const v=>v
 |.global g=>.pointer (some ⟨g,0,none⟩)
 |.func f=>.func (.func f) #[] #[]
theorem CK.eval (K:CK) (tmps:Array Value) (todo:List Go.Item) (ds:List Deferred) (m:FrameMode):(K.fr tmps todo ds m).eval=de tmps:=by
 funext x;cases x<;>rfl
def lE (tmps:Array Value) (dst:Option Tmp) (c:Value):Array Value:=
 match dst with
 |some d=>tmps.setIfInBounds d c
 |none=>tmps
theorem Cp (tmps:Array Value) (dst:Option Tmp) (c:Value):(lE tmps dst c).size=tmps.size:=by cases dst<;>simp[lE]
section
variable{K:CK} {tmps:Array Value} {ds:List Deferred} {k:List Go.Item} {cs:List Frame} {w w':World} {ops:Array Oper} {i:Nat} {rest:List Nat} {o:Oper}
theorem Cq (ho:ops[i]? =some o) (v:Value):(K.fr tmps (.inRegion ops (i::rest)::k) ds .run).finish v=K.fr (lE tmps o.dst v) (.inRegion ops rest::k) ds .run:=by
 cases h:o.dst<;>simp[Frame.finish,CK.fr,lE,ho,h]
theorem xa (ho:ops[i]? =some o) (hw:Region.wanted o (yielded ops tmps)=true) (pW:K.round=none∨∀c,o.op≠.defer c):
 stepG P true {frame:=K.fr tmps (.inRegion ops (i::rest)::k) ds .run,callers:=cs,status:=.running,dying:=none} w=
  stepG.apply P true (K.fr tmps (.inRegion ops (i::rest)::k) ds .run) cs none (execOp (de tmps) o) w:=by
 have he:=CK.eval K tmps (.inRegion ops (i::rest)::k) ds .run;simp only[CK.fr]at he;simp only[stepG,stepG.exec,CK.fr,ho,ap0,hw,aqD,if_true,stepG.oper,Frame.oper?,he];rcases pW with h|h
 ·rw[h]
 ·split
  ·exact absurd (by assumption) (h _)
  ·rfl
theorem Cr (ho:ops[i]? =some o) (hw:Region.wanted o (yielded ops tmps)=true) (pW:∀c,o.op≠.defer c) {n:Next} {c:Value} (hr:(execOp (de tmps) o).run P w=.ok n w') (hn:Se n c):
 Go.step P (lone (K.fr tmps (.inRegion ops (i::rest)::k) ds .run) cs w)=.next (lone (K.fr (lE tmps o.dst c) (.inRegion ops rest::k) ds .run) cs w'):=by
 refine step_lone_go ?_;rw[xa ho hw (.inr pW),←Cq ho];rcases hn with rfl|⟨rfl,rfl⟩<;>simp[stepG.apply,hr]
theorem Ss (ho:ops[i]? =some o) (hw:Region.wanted o (yielded ops tmps)=false):
 Go.step P (lone (K.fr tmps (.inRegion ops (i::rest)::k) ds .run) cs w)=.next (lone (K.fr (lE tmps o.dst undef) (.inRegion ops rest::k) ds .run) cs w):=by
 refine step_lone_go ?_;rw[←Cq ho];simp only[CK.fr];simp[stepG,stepG.exec,ho,hw]
theorem adV:Go.step P (lone (K.fr tmps (.inRegion ops []::k) ds .run) cs w)=.next (lone (K.fr tmps k ds .run) cs w):=
 step_lone_go (by simp[stepG,stepG.exec,CK.fr])
end
def c8 (U:AM) (e:T V) (tmps:Array Value) (X:Nat→Prop):Prop:=
 ∀p v,e.get p=some v→¬X p.toNat→∃c,tmps[p.toNat]? =some c∧VR U v c
theorem c8.mono {U aA:AM} (ac:U.le aA) {e:T V} {tmps:Array Value} {X:Nat→Prop} (h:c8 U e tmps X):c8 aA e tmps X:=
 fun p v hp hx=>let⟨c,I,J⟩:=h p v hp hx;⟨c,I,J.mono ac⟩
theorem c8.all {U:AM} {e:T V} {tmps:Array Value} {X:Nat→Prop} (h:c8 U e tmps X) (hx:∀t,¬X t):fJ U e tmps:=
 fun p v hp=>h p v hp (hx _)
theorem LF (p:Pa):pa p.toNat=p:=Pa.toNat_inj (gY _)
theorem sL (e:T V) (v:V) (dst:Option Nat) (p:Pa):(e.put v (dst.map pa)).get p=if dst=some p.toNat then some v else e.get p:=by
 cases dst with
 |none=>simp[T.put]
 |some d=>
  simp only[ap0,T.put,T.gX,E8];by_cases h:pa d=p
  ·have:d=p.toNat:=by rw[←h,gY]
   rw[B4 h,B4 this]
  ·rw[pg h,pg (fun e1=>h (by rw[e1,LF]))]
theorem c8.put {U:AM} {e:T V} {tmps:Array Value} {X:Nat→Prop} (h:c8 U e tmps X) {v:V} {c:Value} (hv:VR U v c) {dst:Option Nat} (hd:∀d,dst=some d→d<tmps.size):
 c8 U (e.put v (dst.map pa)) (lE tmps dst c) X:=by
 intro p u hp hx;rw[sL]at hp;cases dst with
 |none=>simp at hp;exact h p u hp hx
 |some d=>
  simp only[lE];by_cases m6:d=p.toNat
  ·rw[B4 (by rw[m6])]at hp;cases hp;exact⟨c,by rw[←m6,lb4 (hd d rfl)],hv⟩
  ·rw[pg (by simpa using m6)]at hp;rw[lb3 m6];exact h p u hp hx
theorem c8.fill {U:AM} {e:T V} {tmps:Array Value} {X Y:Nat→Prop} (h:c8 U e tmps X) {d:Nat} {v:V} {c:Value} (he:e.get (pa d)=some v) (hv:VR U v c) (hd:d<tmps.size) (hY:∀t,X t→Y t∨t=d):
 c8 U e (lE tmps (some d) c) Y:=by
 intro p u hp hx;simp only[lE];by_cases m6:d=p.toNat
 ·rw[m6,LF]at he;rw[he]at hp;cases hp;exact⟨c,by rw[←m6,lb4 hd],hv⟩
 ·rw[lb3 m6];exact h p u hp (fun hX=>(hY _ hX).elim hx (fun e1=>m6 e1.symm))
theorem c8.ghost {U:AM} {e:T V} {tmps:Array Value} {X Y:Nat→Prop} (h:c8 U e tmps X) (v:V) {d:Nat} (hY:∀t,X t∨t=d→Y t):c8 U (e.put v (some (pa d))) tmps Y:=by
 intro p u hp hx;have:=sL e v (some d) p;rw[ap0]at this;rw[this]at hp;by_cases m6:d=p.toNat
 ·exact absurd (hY _ (.inr m6.symm)) hx
 ·rw[pg (by simpa using m6)]at hp;exact h p u hp (fun hX=>hx (hY _ (.inl hX)))
noncomputable def bR (e:T V):List Nat→T V
 |[]=>.E
 |t::l=>match e.get (pa t)with
  |some v=>(bR e l).set v (pa t)
  |none=>bR e l
theorem FA (e:T V):∀(l:List Nat) (p:Pa),(bR e l).get p=if p.toNat∈l then e.get p else none
 |[],p=>by simp only[bR,arW,if_false];cases p<;>rfl
 |t::l,p=>by
  simp only[bR];have ih:=FA e l p;by_cases xR:pa t=p
  ·have I:p.toNat=t:=by rw[←xR,gY]
   rw[B4 (by simp[I])];cases hv:e.get (pa t)with
   |some v=>simp only[T.gX,xR,if_true];rw[←xR,hv]
   |none=>
    simp only;rw[ih];split
    ·rfl
    ·rw[←xR,hv]
  ·have I:p.toNat≠t:=fun h=>xR (by rw[←h,LF]);have J:(p.toNat∈t::l)↔p.toNat∈l:=by simp[I]
   simp only[J];cases hv:e.get (pa t)with
   |some v=>simp only[T.gX,xR,if_false];exact ih
   |none=>exact ih
theorem c8.bR {U:AM} {e:T V} {tmps:Array Value} {X:Nat→Prop} (h:c8 U e tmps X) {l:List Nat} (hl:∀t∈l,¬X t):fJ U (Ev.bR e l) tmps:=by
 intro p v hp;rw[FA]at hp;split at hp
 ·exact h p v hp (hl _ (by assumption))
 ·cases hp
theorem adW {x:Operand} {t:Nat} (h:wX x=some t):x=.tmp t:=by
 cases x<;>simp[wX]at h;exact congrArg _ h
theorem adX (e:T V) {l:List Nat} {xs:List Operand} (hl:∀t,.tmp t∈xs→t∈l):ic (bR e l) e xs:=by
 intro x hx;cases x with
 |tmp t=>
  simp only[cO,Od.ev,T.val];rw[FA,B4 (by rw[gY];exact hl t hx)]
 |_=>rfl
theorem FB {U:AM} {e:T V} {tmps:Array Value} (h:fJ U e tmps):iC U e (de tmps):=by
 have:=odR (a:=⟨tmps,[]⟩) h;intro x;have J:=this x;cases x<;>exact J
theorem c8.ops {U:AM} {e:T V} {tmps:Array Value} {X:Nat→Prop} (h:c8 U e tmps X) {xs:List Operand} (hl:∀t,.tmp t∈xs→¬X t):
 ∃e0,iC U e0 (de tmps)∧ic e0 e xs:=
 ⟨Ev.bR e (xs.filterMap wX),FB (h.bR fun t ht=>by
   obtain⟨x,I,J⟩:=List.mem_filterMap.1 ht;exact hl t (adW J▸I)),adX e fun t ht=>List.mem_filterMap.2 ⟨_,ht,rfl⟩⟩
def xb (ops:Array Oper) (g:Option (Pa×Bool)) (c:Option (Nat×Bool)):Prop:=
 (c=none∧g=none)∨∃j b d,c=some (j,b)∧uD ops j=some d∧g=some (pa d,b)
theorem St (P:Program) (nt:Nat) (ops:Array Oper) (o:Oper):
 (∃n d,ga P nt ops o=⟨d,a6 n,none⟩)∨∃g,ga P nt ops o=⟨o.dst.map pa,cR P o.op,g⟩∧(∀d,o.dst=some d→d<nt)∧xb ops g o.guard:=by
 unfold ga;have hd:∀hb:y5 nt o=true,∀d,o.dst=some d→d<nt:=by
  intro hb d hd;simp only[y5,hd]at hb;exact aqB (aqy d) (ap5 hb)
 cases hg:o.guard with
 |none=>
  simp only;cases hb:y5 nt o with
  |false=>exact .inl ⟨23,_,rfl⟩
  |true=>exact .inr ⟨none,rfl,hd hb,.inl ⟨rfl,rfl⟩⟩
 |some Xn=>
  obtain⟨j,b⟩:=Xn;simp only;cases pX:uD ops j with
  |none=>exact .inl ⟨22,_,rfl⟩
  |some d=>
   simp only;cases hb:y5 nt o with
   |false=>exact .inl ⟨23,_,rfl⟩
   |true=>exact .inr ⟨_,rfl,hd hb,.inr ⟨j,b,d,rfl,pX,rfl⟩⟩
theorem Su (a b:Bool):B8 a b=(a==b):=by cases a<;>cases b<;>rfl
theorem Sv {U:AM} {e:T V} {tmps:Array Value} {X:Nat→Prop} (h:c8 U e tmps X) {ops:Array Oper} {o:Oper} {g:Option (Pa×Bool)} (hg:xb ops g o.guard)
 (hX:∀j b d,o.guard=some (j,b)→uD ops j=some d→¬X d):
 (fa e g=.yes→Region.wanted o (yielded ops tmps)=true)∧(fa e g=.no→Region.wanted o (yielded ops tmps)=false):=by
 rcases hg with⟨I,rfl⟩|⟨j,b,d,I,J,rfl⟩
 ·simp[fa,Region.wanted,I]
 ·simp only[fa,Region.wanted,I];cases hv:e.get (pa d)with
  |none=>simp
  |some v=>
   obtain⟨c,k1,k2⟩:=h _ _ hv (by rw[gY];exact hX j b d I J);rw[gY]at k1;unfold uD at J;cases v<;>simp only<;>(try(simp;done))
   ·cases k2;simp only[yielded,J,aqP,k1,Su];rename_i b';cases b'<;>cases b<;>simp
   ·cases k2;simp[yielded,J,k1]
theorem Sw {ops:Array Oper} {o:Oper} {t:Nat} (h:.tmp t∈o.op.operands.toList):t∈eF ops o:=by
 have:t∈o.op.operands.toList.filterMap wX:=List.mem_filterMap.2 ⟨_,h,rfl⟩;unfold eF;split
 ·exact this
 ·split
  ·exact amI _ this
  ·exact this
theorem Sx {ops:Array Oper} {o:Oper} {j:Nat} {b:Bool} {d:Nat} (h:o.guard=some (j,b)) (hd:uD ops j=some d):d∈eF ops o:=by
 unfold eF;simp[h,hd]
end Go.Ev
namespace Go.Ev
variable{P:Program} {nt:Nat} {ops:Array Oper} {A:Nat→Prop}
theorem adY {a b:List UInt8} (h:nN a b=true):a=b:=by rw[qL]at h;simpa using h
theorem adZ {a b:hW} (h:K4 a b=true):a=b:=by
 cases a<;>cases b<;>simp[K4]at h<;>rw[h]
theorem ad0 {a b:NK} (h:K5 a b=true):a=b:=by cases a<;>cases b<;>simp[K5]at h<;>rfl
theorem Sy {a b:V} (h:dd a b=true):a=b:=by
 cases a<;>cases b<;>simp only[dd,G7]at h<;>(try(cases h;done))
 ·rw[Su]at h;simp at h;rw[h]
 ·obtain⟨I,J⟩:=h;rw[ki]at J;simp at J;rw[Ck I,J]
 ·rw[adY h]
 ·obtain⟨I,J⟩:=h;rw[(Pa.beq_iff _ _).1 I,apY J]
 ·obtain⟨⟨I,J⟩,h3,h4⟩:=h;rw[(Pa.beq_iff _ _).1 I,apY J,apY h3,adZ h4]
 ·rw[ad0 h]
 ·rw[(Pa.beq_iff _ _).1 h]
theorem FC:∀{a b:List V},cm a b=true→a=b
 |[],b,h=>by cases b<;>simp[cm]at h;rfl
 |x::a,b,h=>by
  cases b with
  |nil=>simp[cm]at h
  |cons y b=>
   simp only[cm]at h;cases hs:dd x y with
   |false=>simp[hs]at h
   |true=>simp only[hs,E7]at h;rw[Sy hs,FC h]
theorem Sz {a b:V} (h:same a b=true):a=b:=by
 cases a<;>simp only[same]at h<;>(try exact Sy h)
 ·cases b<;>simp only at h<;>(try(cases h;done))
  rw[FC h]
 ·cases b<;>simp only at h<;>(try(cases h;done))
  rw[FC h]
theorem ad1 {a b:al} (h:K6 a b=true):a=b:=by
 cases a<;>simp only[K6]at h<;>(try(cases h;done))
 ·rename_i l d;cases b<;>simp only at h<;>(try(cases h;done))
  rename_i m d';cases d<;>cases d'<;>simp at h
  rw[FC h]
 ·rename_i es c;cases b<;>simp only at h<;>(try(cases h;done))
  rename_i fs k;cases hk:Nat.beq c k with
  |false=>simp[hk]at h
  |true=>
   simp only[hk,E7]at h;cases es<;>cases fs<;>simp at h
   rw[apY hk]
theorem LG {o:Oper} {f:T V→Option (al×(Pa→V))} (hc:cR P o.op=.dw f) {e:T V} {b:al} {mk:Pa→V} (hf:f e=some (b,mk)) (a:Pa):qG (mk a)=some a∧ke o.op=true:=by
 cases aS:o.op<;>rw[aS]at hc<;>simp only[cR]at hc<;>(try(cases hc;done))
 case alloc t=>
  split at hc
  ·cases hc;simp at hf;obtain⟨_,rfl⟩:=hf;exact⟨rfl,rfl⟩
  ·cases hc
 case box t x=>
  cases hc;simp only at hf;cases hs:aY ((cO x).ev e).cells<;>simp[hs]at hf
  obtain⟨_,rfl⟩:=hf;exact⟨rfl,rfl⟩
 case build t ps=>repeat' (first|(cases hc;done)|split at hc)
 case buildSlice t len ps=>
  split at hc
  ·split at hc
   ·split at hc
    ·split at hc
     ·cases hc;simp only at hf;split at hf
      ·rename_i l _;cases hs:aY l<;>simp[hs]at hf
       obtain⟨_,rfl⟩:=hf;exact⟨rfl,rfl⟩
      ·cases hf
     ·cases hc
    ·cases hc
   ·cases hc
  ·cases hc
 case load t a=>split at hc<;>cases hc
 case store t a v=>split at hc<;>cases hc
 case binOp op t x y yt=>
  split at hc
  ·cases d1:(ft x||ft y)<;>rw[d1]at hc<;>cases hc
  ·cases hc
 case convert s d x=>
  unfold qD at hc;split at hc
  ·repeat' (first|(cases hc;done)|split at hc)
  ·repeat' (first|(cases hc;done)|split at hc)
  ·split at hc
   ·split at hc
    ·cases hc;simp only at hf;split at hf
     ·simp at hf;obtain⟨_,rfl⟩:=hf;exact⟨rfl,rfl⟩
     ·cases hf
    ·cases hc
   ·cases hb:Nat.beq s d with
    |false=>rw[hb]at hc;cases hc
    |true=>
     rw[hb]at hc;simp only[E7]at hc;split at hc<;>cases hc
   ·cases hc
  ·cases hc
 case makeInterface t x=>repeat' (first|(cases hc;done)|split at hc)
 case makeFunc fn first bf=>
  cases fn<;>simp only at hc<;>(try(cases hc;done))
  repeat' (first|(cases hc;done)|split at hc)
 case makeMap t r=>
  cases r with
  |none=>cases hc;simp at hf;obtain⟨_,rfl⟩:=hf;exact⟨rfl,rfl⟩
  |some r=>cases hc
 case makeSlice t l c=>
  split at hc
  ·split at hc
   ·split at hc
    ·cases hc;simp only at hf;split at hf
     ·split at hf
      ·rename_i c' _;rename_i l' _ _;revert hf;generalize (Nat.ble _ _&&_)=q;intro hf;cases q<;>simp at hf
       obtain⟨_,rfl⟩:=hf;exact⟨rfl,rfl⟩
      ·cases hf
     ·cases hf
    ·cases hc
   ·cases hc
  ·cases hc
 case slice t x lo hi mx=>
  split at hc
  ·cases mx with
   |none=>simp only at hc;split at hc<;>cases hc
   |some m=>cases hc
  ·cases mx<;>cases hc
  ·split at hc
   ·cases hm:(mx.isSome&&hi.isNone)<;>rw[hm]at hc<;>cases hc
   ·cases hc
  ·cases hc
 case fieldAddr t x k=>repeat' (first|(cases hc;done)|split at hc)
 case field t x k=>repeat' (first|(cases hc;done)|split at hc)
 case indexAddr t x i=>repeat' (first|(cases hc;done)|split at hc)
 case index t x i=>repeat' (first|(cases hc;done)|split at hc)
 case lookup t x i ok=>
  split at hc
  ·rename_i k el hu;split at hc
   ·cases hq:dJ (a7 P k)<;>rw[hq]at hc<;>cases hc
   ·cases hc
  ·cases hc
 case mapUpdate t m k v=>
  split at hc
  ·rename_i kt el hu;cases hq:dJ (a7 P kt)<;>rw[hq]at hc<;>cases hc
  ·cases hc
 case mapEntry t m k=>
  split at hc
  ·rename_i kt el hu;split at hc
   ·cases hq:dJ (a7 P kt)<;>rw[hq]at hc<;>cases hc
   ·cases hc
  ·cases hc
 case typeAssert x xt t ok=>repeat' (first|(cases hc;done)|split at hc)
 case call c=>
  split at hc
  ·rename_i b hb;cases b<;>simp only[pn]at hc<;>(try(cases hc;done))<;>repeat' (first|(cases hc;done)|split at hc)
  ·rename_i g hg;cases g<;>cases hc
  ·cases hc
 case defer c=>repeat' (first|(cases hc;done)|split at hc)
inductive jk (P:Program) (nt:Nat) (ops:Array Oper) (A:Nat→Prop):List (RS al)→List Nat→(Nat→Prop)→Prop
 |done {p:Nat→Prop} (hp:∀j,¬p j):jk P nt ops A [] [] p
 |stop {rs:List (RS al)} {L:List Nat} {p:Nat→Prop} (n:Nat) (d:Option Pa):jk P nt ops A (.op ⟨d,a6 n,none⟩::rs) L p
 |ghost {rs:List (RS al)} {L:List Nat} {p q:Nat→Prop} (i d:Nat) (o:Oper) (ho:ops[i]? =some o) (hN:nR P nt ops o=true) (hd:o.dst=some d) (N1:d∉eF ops o) (rB:A d) (hp:¬p i)
   (Cs:∀j oj,p j→ops[j]? =some oj→oj.dst≠some d∧d∉eF ops oj) (hq:∀j,q j↔(j=i∨p j)) (next:jk P nt ops A rs L q):jk P nt ops A (.op (ga P nt ops o)::rs) L p
 |fill {rs:List (RS al)} {L:List Nat} {p q:Nat→Prop} (i:Nat) (o:Oper) (ho:ops[i]? =some o) (hp:p i)
   (hn:∀j oj t,p j→ops[j]? =some oj→oj.dst=some t→t∉eF ops o) (hq:∀j,q j↔(j≠i∧p j)) (next:jk P nt ops A rs L q):jk P nt ops A rs (i::L) p
 |e7 {rs:List (RS al)} {chks:List (RO al)} {L:List Nat} {p:Nat→Prop} (i:Nat) (o:Oper) (ho:ops[i]? =some o)
   (hn:∀j oj t,p j→ops[j]? =some oj→oj.dst=some t→t∉eF ops o∧o.dst≠some t)
   (hk:∀j oj,p j→ops[j]? =some oj→ga P nt ops oj∈chks∨(ke oj.op=false∧∀d,o.dst=some d→d∉eF ops oj)) (next:jk P nt ops A rs L p):
   jk P nt ops A (.op (ga P nt ops o)::(chks.map .cf++rs)) (i::L) p
def pt (ops:Array Oper) (p:Nat→Prop) (t:Nat):Prop:=∃j oj,p j∧ops[j]? =some oj∧oj.dst=some t
structure Ct (P:Program) (nt:Nat) (ops:Array Oper) (A:Nat→Prop) (j:Nat) (o:Oper) (d:Nat) (g:Option (Pa×Bool)):Prop where
 at_:ops[j]? =some o
 dst:o.dst=some d
 lt:d<nt
 ro:ga P nt ops o=⟨some (pa d),cR P o.op,g⟩
 guard:xb ops g o.guard
 nas:∀x,o.op≠.assign x
 may:A d
def zb (P:Program) (U:AM) (e:T V) (h:Hp) (m:Nat) (o:Oper) (d:Nat):Prop:=
 ∀f v a,cR P o.op=.dw f→e.get (pa d)=some v→qG v=some a→U a=none∧m≤a.toNat∧a.toNat<h.next.toNat
def jQ (P:Program) (e:T V) (h:Hp) (o:Oper) (d:Nat) (g:Option (Pa×Bool)):Prop:=
 (fa e g=.no∧e.get (pa d)=some dm)∨
 (fa e g=.yes∧((∃f v,cR P o.op=.pu f∧f e h=some v∧e.get (pa d)=some v)∨
   (∃f b mk a,cR P o.op=.dw f∧f e=some (b,mk)∧e.get (pa d)=some (mk a)∧h.get a=some b)))
def qP (P:Program) (nt:Nat) (ops:Array Oper) (A:Nat→Prop) (U:AM) (e:T V) (h:Hp) (m j:Nat):Prop:=
 ∃o d g,Ct P nt ops A j o d g∧zb P U e h m o d∧jQ P e h o d g
def lF (P:Program) (nt:Nat) (ops:Array Oper) (A:Nat→Prop) (chks:List (RO al)) (U:AM) (e:T V) (h:Hp) (m j:Nat):Prop:=
 ∃o d g,Ct P nt ops A j o d g∧zb P U e h m o d∧(ga P nt ops o∈chks∨(ke o.op=false∧jQ P e h o d g))
def sM (P:Program) (ops:Array Oper) (e:T V) (p:Nat→Prop):Prop:=
 ∀i j oi oj ne eI i5 ma vi vj a,p i→p j→i≠j→ops[i]? =some oi→ops[j]? =some oj→oi.dst=some ne→oj.dst=some eI→cR P oi.op=.dw i5→cR P oj.op=.dw ma→
  e.get (pa ne)=some vi→e.get (pa eI)=some vj→qG vi=some a→qG vj≠some a
theorem ad2 {j:Nat} {o:Oper} {d:Nat} (hj:ops[j]? =some o) (hN:nR P nt ops o=true) (hd:o.dst=some d) (rB:A d):
 ∃g,Ct P nt ops A j o d g∧((∃f,cR P o.op=.pu f)∨∃f,cR P o.op=.dw f):=by
 have j0:∀n d',ga P nt ops o≠⟨d',a6 n,none⟩:=by
  intro n d' he;unfold nR at hN;split at hN
  ·cases hN
  ·rw[he]at hN;simp[a6]at hN
 have has:∀x,o.op≠.assign x:=by
  intro x he;unfold nR at hN;rw[he]at hN;cases hN
 rcases St P nt ops o with⟨n,d',he⟩|⟨g,I,J,h3⟩
 ·exact absurd he (j0 n d')
 ·refine⟨g,⟨hj,hd,J d hd,by rw[I,hd];(try rfl),h3,has,rB⟩,?_⟩;unfold nR at hN;split at hN
  ·cases hN
  ·rw[I]at hN;simp only at hN;split at hN
   ·exact .inl ⟨_,by assumption⟩
   ·exact .inr ⟨_,by assumption⟩
   ·cases hN
   ·cases hN
theorem zd {e e':T V} {o:Oper} {g:Option (Pa×Bool)} (hg:xb ops g o.guard) (h:∀t∈eF ops o,e'.get (pa t)=e.get (pa t)):
 fa e' g=fa e g∧ic e' e o.op.operands.toList:=by
 refine⟨?_,fun x hx=>?_⟩
 ·rcases hg with⟨_,rfl⟩|⟨j,b,d,I,J,rfl⟩
  ·rfl
  ·simp only[fa,h d (Sx I J)]
 ·cases x with
  |tmp t=>simp only[cO,Od.ev,T.val,h t (Sw hx)]
  |_=>rfl
theorem jQ.move {e e':T V} {h h':Hp} {o:Oper} {d:Nat} {g:Option (Pa×Bool)} (hg:xb ops g o.guard) (hs:∀t∈eF ops o,e'.get (pa t)=e.get (pa t)) (hd:e'.get (pa d)=e.get (pa d))
 (hh:ke o.op=true→∀a b,(h.get a=some b→h'.get a=some b)) (hl:ke o.op=true→h=h'∨∃f,cR P o.op=.dw f) (ha:jQ P e h o d g):jQ P e' h' o d g:=by
 obtain⟨w1,w2⟩:=zd hg hs;rcases ha with⟨I,J⟩|⟨I,J⟩
 ·exact .inl ⟨by rw[w1];exact I,by rw[hd];exact J⟩
 ·refine .inr ⟨by rw[w1];exact I,?_⟩;rcases J with⟨f,v,k1,k2,k3⟩|⟨f,b,mk,a,k1,k2,k3,k4⟩
  ·refine .inl ⟨f,v,k1,?_,by rw[hd];exact k3⟩;rw[Cn k1 w2 (h':=h) (fun xS=>?_),←k2];rcases hl xS with h5|⟨f',h5⟩
   ·exact h5.symm
   ·rw[k1]at h5;cases h5
  ·have xS:=(LG k1 k2 a).2;exact .inr ⟨f,b,mk,a,k1,by rw[Fy k1 w2];exact k2,by rw[hd];exact k3,hh xS a b k4⟩
theorem ad3 {e:T V} {h:Hp} {o:Oper} {j d:Nat} {g:Option (Pa×Bool)} (hb:Ct P nt ops A j o d g) (hc:lu e h (ga P nt ops o)=true):jQ P e h o d g:=by
 rw[hb.ro]at hc;simp only[lu]at hc;cases hw:fa e g with
 |no=>
  simp only[hw]at hc;split at hc
  ·exact .inl ⟨hw,by assumption⟩
  ·cases hc
 |bad=>simp[hw]at hc
 |yes=>
  simp only[hw]at hc;refine .inr ⟨hw,?_⟩;cases hv:e.get (pa d)with
  |none=>simp[hv]at hc
  |some v=>
   simp only[hv]at hc;cases hs:cR P o.op with
   |pu f=>
    simp only[hs]at hc;cases hf:f e h with
    |none=>simp[hf]at hc
    |some u=>
     simp only[hf]at hc;have:=Sz hc;subst this;exact .inl ⟨f,v,rfl,hf,rfl⟩
   |dw f=>
    simp only[hs]at hc;cases hf:f e with
    |none=>simp[hf]at hc
    |some eb=>
     obtain⟨b,mk⟩:=eb;simp only[hf]at hc;cases ha:qG v with
     |none=>simp[ha]at hc
     |some a=>
      simp only[ha]at hc;cases hg:h.get a with
      |none=>simp[hg]at hc
      |some b'=>
       simp only[hg]at hc;cases ni:same v (mk a)with
       |false=>simp[ni]at hc
       |true=>
        simp only[ni,E7]at hc;have I:=Sz ni;have J:=ad1 hc;subst J;exact .inr ⟨f,b,mk,a,rfl,hf,by rw[I],hg⟩
   |st f=>simp[hs]at hc
   |ed f=>simp[hs]at hc
theorem zb.mono {U aA:AM} {e e':T V} {h h':Hp} {m:Nat} {o:Oper} {d:Nat} (hg:zb P U e h m o d) (he:e'.get (pa d)=e.get (pa d))
 (ge:∀a,a.toNat<h.next.toNat→U a=none→aA a=none) (hn:h.next.toNat≤h'.next.toNat):zb P aA e' h' m o d:=by
 intro f v a hf hv ha;rw[he]at hv;obtain⟨I,J,h3⟩:=hg f v a hf hv ha;exact⟨ge a h3 I,J,aqB h3 hn⟩
end Go.Ev
namespace Go.Ev
variable{P:Program} {nt:Nat} {ops:Array Oper} {A:Nat→Prop}
def hA (h h':Hp):Prop:=∀a b,h.get a=some b→h'.get a=some b
theorem hA.cells {h h':Hp} (hl:hA h h') {a:Pa} {l:List V} (hc:h.cells a=some l):h'.cells a=some l:=by
 unfold bm.cells at hc⊢;cases hg:h.get a with
 |none=>simp[hg]at hc
 |some b=>rw[hl a b hg];rw[hg]at hc;exact hc
theorem hA.cl {h h':Hp} (hl:hA h h') {a:Pa} {o n:Nat} {l:List V} (hc:h.cl a o n=some l):h'.cl a o n=some l:=by
 unfold bm.cl at hc⊢;cases hg:h.cells a with
 |none=>simp[hg]at hc
 |some b=>rw[hl.cells hg];rw[hg]at hc;exact hc
theorem hA.mapOf {h h':Hp} (hl:hA h h') {v:V} {es:List (V×V×Nat)} (hc:h.mapOf v=some es):h'.mapOf v=some es:=by
 cases v<;>simp only[bm.mapOf]at hc⊢<;>(try(exact hc))
 rename_i r;cases hg:h.get r with
 |none=>simp[hg]at hc
 |some b=>rw[hl r b hg];rw[hg]at hc;exact hc
theorem hA.fH {h h':Hp} (hl:hA h h') {n:Option Nat} {x v:V} (hc:fH h n x=some v):fH h' n x=some v:=by
 cases x<;>simp only[Ev.fH]at hc⊢<;>(try(cases hc;done))
 rename_i a o;cases n with
 |none=>
  simp only at hc⊢;cases hg:h.cells a with
  |none=>simp[hg]at hc
  |some b=>rw[hl.cells hg];rw[hg]at hc;exact hc
 |some n=>
  simp only at hc⊢;cases hg:h.cl a o n with
  |none=>simp[hg]at hc
  |some b=>rw[hl.cl hg];rw[hg]at hc;exact hc
theorem hA.alloc {C:Cx} {U:AM} {Λ:Pa→Prop} {h:Hp} {ls:List LE} {w:World} (s:aP C U Λ h ls w) (b:al):hA h (h.alloc b):=by
 intro a c hg;simp only[bm.alloc,bm.get,T.gX];rw[pg]
 ·exact hg
 ·intro e;subst e;rw[s.fresh _ (B5 _)]at hg;cases hg
theorem ad4 {n N N':Nat} {lo hi:Option V} {l hh m:Nat} (h:eD n N lo hi none=some (l,hh,m)) (ac:N≤N'):∃m',eD n N' lo hi none=some (l,hh,m'):=by
 unfold eD at h⊢;have q1:∀d y,ee d y none=some d:=fun _ _=>rfl;simp only[q1]at h⊢;cases J:ee n N hi with
 |none=>rw[J]at h;cases h
 |some h'=>
  have kR:ee n N' hi=some h':=Lk J ac;rw[J]at h;simp only[kR];simp only at h;cases h3:ee 0 h' lo with
  |none=>rw[h3]at h;cases h
  |some l'=>rw[h3]at h;simp at h;exact⟨N',by simp[h]⟩
theorem hA.ext {h h':Hp} (hl:hA h h') (z:Nat) (a:Pa) (o:Nat):qy h z a o≤qy h' z a o:=by
 unfold qy;cases hg:h.get a with
 |none=>exact amu _
 |some b=>rw[hl a b hg];exact B5 _
theorem hA.uB {h h':Hp} (hl:hA h h') {z:Nat} {x:V} {lo hi:Option V} {v:V} (hv:uB h z x lo hi=some v):Ev.uB h' z x lo hi=some v:=by
 cases x<;>simp only[Ev.uB]at hv⊢<;>(try(cases hv;done))
 rename_i a o n c;cases c with
 |ex c=>simp at hv
 |un s=>
  simp only at hv⊢;cases pp:Nat.beq s z with
  |false=>simp[pp]at hv
  |true=>
   simp only[pp,E7]at hv⊢;cases ac:Nat.ble n (qy h z a o)with
   |false=>simp[ac]at hv
   |true=>
    simp only[ac,E7]at hv;have I:=hl.ext z a o;have J:Nat.ble n (qy h' z a o)=true:=aqm (aqb (ap5 ac) I);simp only[J,E7];cases hb:eD n (qy h z a o) lo hi none with
    |none=>simp[hb]at hv
    |some p=>
     obtain⟨l,hh,m⟩:=p;obtain⟨m',h3⟩:=ad4 hb I;rw[h3];rw[hb]at hv;exact hv
theorem hA.sC {h h':Hp} (hl:hA h h') {z:Nat} {x:V} {lo hi mx r:Option V} {v:V} (hv:sC h z x lo hi mx r=some v):Ev.sC h' z x lo hi mx r=some v:=by
 cases mx with
 |some m=>exact hv
 |none=>cases r with
  |some u=>exact hv
  |none=>exact hl.uB hv
theorem ad5 {o:Oper} {f:T V→Hp→Option V} (hc:cR P o.op=.pu f) {e:T V} {h h':Hp} (hl:hA h h') {v:V} (hv:f e h=some v):f e h'=some v:=by
 cases hk:ke o.op with
 |false=>rw[←hv];exact Cn hc (fun _ _=>rfl) (fun I=>by rw[hk]at I;cases I)
 |true=>
  cases aS:o.op<;>rw[aS]at hc hk<;>simp only[ke]at hk<;>(try(cases hk;done))<;>simp only[cR]at hc<;>(try(cases hc;done))
  case alloc t=>split at hc<;>cases hc
  case buildSlice t len ps=>repeat' (first|(cases hc;done)|split at hc)
  case makeMap t r=>cases r<;>cases hc
  case makeSlice t l c=>repeat' (first|(cases hc;done)|split at hc)
  case load t a=>
   split at hc
   ·cases hc;exact hl.fH hv
   ·cases hc
  case lookup t x i ok=>
   split at hc
   ·rename_i k el hu;split at hc
    ·rename_i z hz;cases hq:dJ (a7 P k)with
     |false=>rw[hq]at hc;cases hc
     |true=>
      rw[hq]at hc;cases hc;simp only[yY]at hv⊢;cases hm:h.mapOf ((cO x).ev e)with
      |none=>simp[hm]at hv
      |some es=>rw[hl.mapOf hm];rw[hm]at hv;exact hv
    ·cases hc
   ·cases hc
  case slice t x lo hi mx=>
   split at hc
   ·cases mx with
    |none=>
     simp only at hc;split at hc
     ·cases hc;exact hv
     ·cases hc
    |some m=>cases hc
   ·cases mx with
    |none=>cases hc;exact hv
    |some m=>cases hc
   ·split at hc
    ·cases hm:(mx.isSome&&hi.isNone)with
     |true=>rw[hm]at hc;cases hc
     |false=>rw[hm]at hc;cases hc;exact hl.sC hv
    ·cases hc
   ·cases hc
  case convert s d x=>
   unfold qD at hc;split at hc
   ·split at hc
    ·cases hc;exact hv
    ·cases hc
   ·split at hc
    ·cases hc;exact hv
    ·split at hc
     ·cases hc;simp only at hv⊢;split at hv
      ·rename_i a o n c hx;cases hm:h.cl a o n with
       |none=>simp[hm]at hv
       |some l=>rw[hl.cl hm];rw[hm]at hv;exact hv
      ·exact hv
      ·cases hv
     ·cases hc
    ·cases hc
   ·repeat' (first|(cases hc;done)|split at hc)
    all_goals (cases hb:Nat.beq s d<;>rw[hb]at hc<;>cases hc)
   ·cases hc
theorem jQ.grow {e:T V} {h h':Hp} {o:Oper} {d:Nat} {g:Option (Pa×Bool)} (hl:hA h h') (ha:jQ P e h o d g):jQ P e h' o d g:=by
 rcases ha with I|⟨I,⟨f,v,k1,k2,k3⟩|⟨f,b,mk,a,k1,k2,k3,k4⟩⟩
 ·exact .inl I
 ·exact .inr ⟨I,.inl ⟨f,v,k1,ad5 k1 hl k2,k3⟩⟩
 ·exact .inr ⟨I,.inr ⟨f,b,mk,a,k1,k2,k3,hl _ _ k4⟩⟩
theorem jQ.env {e e':T V} {h:Hp} {o:Oper} {d:Nat} {g:Option (Pa×Bool)} (hg:xb ops g o.guard) (hs:∀t∈eF ops o,e'.get (pa t)=e.get (pa t)) (hd:e'.get (pa d)=e.get (pa d))
 (ha:jQ P e h o d g):jQ P e' h o d g:=
 ha.move hg hs hd (fun _ _ _ h=>h) (fun _=>.inl rfl)
theorem jQ.any {e e':T V} {h h':Hp} {o:Oper} {d:Nat} {g:Option (Pa×Bool)} (hg:xb ops g o.guard) (hs:∀t∈eF ops o,e'.get (pa t)=e.get (pa t)) (hd:e'.get (pa d)=e.get (pa d))
 (hk:ke o.op=false) (ha:jQ P e h o d g):jQ P e' h' o d g:=
 ha.move hg hs hd (fun h=>by rw[hk]at h;cases h) (fun h=>by rw[hk]at h;cases h)
theorem qP.S {chks:List (RO al)} {U:AM} {e:T V} {h:Hp} {m j:Nat} (hp:qP P nt ops A U e h m j) (hk:∀oj,ops[j]? =some oj→ga P nt ops oj∈chks∨ke oj.op=false):
 lF P nt ops A chks U e h m j:=by
 obtain⟨o,d,g,hb,hg,ha⟩:=hp;exact⟨o,d,g,hb,hg,(hk o hb.at_).imp id fun h=>⟨h,ha⟩⟩
theorem lF.put {chks:List (RO al)} {U aA:AM} {e:T V} {h h':Hp} {m j:Nat} {o:Oper} (hp:lF P nt ops A chks U e h m j) (pY:∀oj t,ops[j]? =some oj→oj.dst=some t→o.dst≠some t)
 (hk:∀oj,ops[j]? =some oj→ga P nt ops oj∈chks∨(ke oj.op=false∧∀d,o.dst=some d→d∉eF ops oj)) (ge:∀a,a.toNat<h.next.toNat→U a=none→aA a=none) (hn:h.next.toNat≤h'.next.toNat) (v:V):
 lF P nt ops A chks aA (e.put v (o.dst.map pa)) h' m j:=by
 obtain⟨oj,d,g,hb,hg,ha⟩:=hp;have hd:(e.put v (o.dst.map pa)).get (pa d)=e.get (pa d):=by
  rw[sL,gY,pg (pY oj d hb.at_ hb.dst)]
 refine⟨oj,d,g,hb,hg.mono hd ge hn,?_⟩;rcases hk oj hb.at_ with I|⟨I,J⟩
 ·exact .inl I
 ·rcases ha with h3|⟨_,h3⟩
  ·exact .inl h3
  ·refine .inr ⟨I,h3.any hb.guard (fun t ht=>?_) hd I⟩;rw[sL,gY,pg (fun e1=>J t e1 ht)]
theorem lF.ok {chks:List (RO al)} {U:AM} {e:T V} {h:Hp} {m j:Nat} (hp:lF P nt ops A chks U e h m j) (hc:∀c∈chks,lu e h c=true):qP P nt ops A U e h m j:=by
 obtain⟨oj,d,g,hb,hg,ha⟩:=hp;refine⟨oj,d,g,hb,hg,?_⟩;rcases ha with I|⟨_,I⟩
 ·exact ad3 hb (hc _ I)
 ·exact I
theorem sM.put {e:T V} {p:Nat→Prop} (ha:sM P ops e p) {o:Oper} (pY:∀j oj t,p j→ops[j]? =some oj→oj.dst=some t→o.dst≠some t) (v:V):sM P ops (e.put v (o.dst.map pa)) p:=by
 intro i j oi oj ne eI i5 ma vi vj a hi hj dr I J h3 h4 h5 h6 h7 h8 h9;rw[sL,gY,pg (pY i oi ne hi I h3)]at h7;rw[sL,gY,pg (pY j oj eI hj J h4)]at h8;exact ha i j oi oj ne eI i5 ma vi vj a hi hj dr I J h3 h4 h5 h6 h7 h8 h9
theorem LH {o:RO al} {rs:List (RS al)} {e:T V} {h:Hp} (hw:fa e o.guard=.no):gW (.op o::rs) e h=gW rs (e.put dm o.dst) h:=by
 change (W3.rec (motive:=fun _=>OR) _ _ _ (fa e o.guard))=_;rw[hw];(try rfl)
theorem SB {o:RO al} {rs:List (RS al)} {e:T V} {h:Hp} (hw:fa e o.guard=.bad):gW (.op o::rs) e h=.bad 87:=by
 change (W3.rec (motive:=fun _=>OR) _ _ _ (fa e o.guard))=_;rw[hw]
theorem sN {o:RO al} {rs:List (RS al)} {e:T V} {h:Hp} (hw:fa e o.guard=.yes):gW (.op o::rs) e h=
 match o.sA with
 |.pu f=>match f e h with
  |some v=>gW rs (e.put v o.dst) h
  |none=>.bad 70
 |.dw f=>match f e with
  |some p=>gW rs (e.put (p.2 h.next) o.dst) (h.alloc p.1)
  |none=>.bad 71
 |.st f=>match f e h with
  |some p=>gW rs (e.put p.1 o.dst) p.2
  |none=>.bad 72
 |.ed f=>.uF (f e) o rs e h:=by
 change (W3.rec (motive:=fun _=>OR) _ _ _ (fa e o.guard))=_;rw[hw];obtain⟨d,s,g⟩:=o;cases s with
 |pu f=>simp only;cases f e h<;>rfl
 |dw f=>simp only;cases f e<;>rfl
 |st f=>simp only;cases f e h<;>rfl
 |ed f=>rfl
theorem LI {rs:List (RS al)} {e:T V} {h:Hp}:∀(chks:List (RO al)),(∃n,gW (chks.map .cf++rs) e h=.bad n)∨((∀c∈chks,lu e h c=true)∧gW (chks.map .cf++rs) e h=gW rs e h)
 |[]=>.inr ⟨fun c hc=>(by cases hc),rfl⟩
 |c::chks=>by
  have h0:gW ((c::chks).map .cf++rs) e h=Bool.rec (motive:=fun _=>OR) (.bad 92) (gW (chks.map .cf++rs) e h) (lu e h c):=rfl;cases hc:lu e h c with
  |false=>rw[hc]at h0;exact .inl ⟨_,h0⟩
  |true=>
   rw[hc]at h0;rcases LI (rs:=rs) (e:=e) (h:=h) chks with⟨n,I⟩|⟨I,J⟩
   ·exact .inl ⟨n,h0.trans I⟩
   ·exact .inr ⟨fun x hx=>by
     cases hx with
     |head=>exact hc
     |tail _ hx=>exact I x hx,h0.trans J⟩
structure Ext (m:Nat) (U aA:AM) (h h':Hp):Prop where
 le:U.le aA
 bR:∀a,a.toNat<m→U a=none→aA a=none
 next:h.next.toNat≤h'.next.toNat
theorem Ext.refl (m:Nat) (U:AM) (h:Hp):Ext m U U h h:=⟨AM.le_refl U,fun _ _ h=>h,B5 _⟩
theorem Ext.trans {m:Nat} {U β γ:AM} {h I J:Hp} (a:Ext m U β h I) (b:Ext m β γ I J):Ext m U γ h J:=
 ⟨AM.le_trans a.le b.le,fun x hx h=>b.bR x hx (a.bR x hx h),aqb a.next b.next⟩
structure nU (P:Program) (nt:Nat) (ops:Array Oper) (A:Nat→Prop) (m:Nat) (U:AM) (e:T V) (h:Hp) (tmps:Array Value) (o:RO al) (rs:List (RS al)) (i:Nat) (L:List Nat) (oi:Oper):Prop where
 size:nt≤tmps.size
 at_:ops[i]? =some oi
 ro:∃g,o=⟨oi.dst.map pa,cR P oi.op,g⟩
 lt:∀d,oi.dst=some d→d<nt
 rest:∃chks vy p,rs=chks.map .cf++vy∧jk P nt ops A vy L p∧(∀j,p j→lF P nt ops A chks U e h m j)∧sM P ops e p∧c8 U e tmps (pt ops p)∧
  (∀j oj t,p j→ops[j]? =some oj→oj.dst=some t→oi.dst≠some t)∧
  (∀j oj,p j→ops[j]? =some oj→ga P nt ops oj∈chks∨(ke oj.op=false∧∀d,oi.dst=some d→d∉eF ops oj))
section
variable(C:Cx) (nt:Nat) (ops:Array Oper) (A:Nat→Prop) (K:CK) (ds:List Deferred) (k:List Go.Item) (cs:List Frame) (ls:List LE) (m:Nat)
def ad6 (M:Machine) (U:AM) (h:Hp) (e':T V) (h':Hp):Prop:=
 ∃aA dh w' g8,Steps C.P M (lone (K.fr g8 k ds .run) cs w')∧Ext m U aA h h'∧aP C aA dh h' ls w'∧fJ aA e' g8∧nt≤g8.size
def ad7 (M:Machine) (U:AM) (h:Hp) (c:lj) (o:RO al) (rs:List (RS al)) (e':T V) (h':Hp):Prop:=
 (∃n,c=.bad n)∨∃aA dh w' g8 i L oi f,Steps C.P M (lone (K.fr g8 (.inRegion ops (i::L)::k) ds .run) cs w')∧Ext m U aA h h'∧aP C aA dh h' ls w'∧nU C.P nt ops A m aA e' h' g8 o rs i L oi∧
   cR C.P oi.op=.ed f∧c=f e'∧Region.wanted oi (yielded ops g8)=true∧∃e0,iC aA e0 (de g8)∧ic e0 e' oi.op.operands.toList
def qQ (M:Machine) (U:AM) (h:Hp):OR→Prop
 |.fin e' h'=>ad6 C nt K ds k cs ls m M U h e' h'
 |.uF c o rs e' h'=>ad7 C nt ops A K ds k cs ls m M U h c o rs e' h'
 |.bad _=>True
theorem qQ.of_steps {M M':Machine} {U aA:AM} {h h':Hp} {r:OR} (hs:Steps C.P M M') (hx:Ext m U aA h h') (hr:qQ C nt ops A K ds k cs ls m M' aA h' r):qQ C nt ops A K ds k cs ls m M U h r:=by
 cases r with
 |fin e1 I=>
  obtain⟨Hm,Hn,w1,t1,bs,a2,a3⟩:=hr;exact⟨Hm,Hn,w1,t1,hs.trans bs,hx.trans a2,a3⟩
 |uF c o rs e1 I=>
  rcases hr with hr|⟨Hm,Hn,w1,t1,i,L,oi,f,bs,a2,a3⟩
  ·exact .inl hr
  ·exact .inr ⟨Hm,Hn,w1,t1,i,L,oi,f,hs.trans bs,hx.trans a2,a3⟩
 |bad n=>trivial
end
end Go.Ev
namespace Go.Ev
variable{C:Cx} {nt:Nat} {ops:Array Oper} {A:Nat→Prop} {K:CK} {ds:List Deferred} {k:List Go.Item} {cs:List Frame} {ls:List LE} {m:Nat}
theorem qP.dst {P:Program} {U:AM} {e:T V} {h:Hp} {j:Nat} (hp:qP P nt ops A U e h m j) {o:Oper} (ho:ops[j]? =some o):
 ∃d g,Ct P nt ops A j o d g∧zb P U e h m o d∧jQ P e h o d g:=by
 obtain⟨o',d,g,hb,hg,ha⟩:=hp;have:=hb.at_;rw[ho]at this;cases this;exact⟨d,g,hb,hg,ha⟩
theorem Cu {P:Program} {o:Oper} (hc:∀f,cR P o.op≠.ed f):∀c,o.op≠.defer c:=by
 intro c aS;rw[aS]at hc;simp only[cR]at hc;split at hc
 ·exact hc _ rfl
 ·exact hc _ rfl
theorem SD {X:Nat→Prop} {o:Oper} (hn:∀t∈eF ops o,¬X t):(∀t,.tmp t∈o.op.operands.toList→¬X t)∧∀j b d,o.guard=some (j,b)→uD ops j=some d→¬X d:=
 ⟨fun t ht=>hn t (Sw ht),fun _ _ d I J=>hn d (Sx I J)⟩
theorem qP.put {P:Program} {U:AM} {e:T V} {h:Hp} {j:Nat} (hp:qP P nt ops A U e h m j) {d:Nat} {h':Hp} (hl:hA h h') (hn:h.next.toNat≤h'.next.toNat)
 (hd:∀oj,ops[j]? =some oj→oj.dst≠some d∧d∉eF ops oj) (v:V):qP P nt ops A U (e.put v (some (pa d))) h' m j:=by
 obtain⟨oj,eI,g,hb,hg,ha⟩:=hp;obtain⟨I,J⟩:=hd oj hb.at_;have bE:∀t,t≠d→(e.put v (some (pa d))).get (pa t)=e.get (pa t):=fun t ht=>by
  have:=sL e v (some d) (pa t);rw[ap0]at this;rw[this,gY,pg (by simpa using Ne.symm ht)]
 have pX:eI≠d:=fun e1=>I (by rw[hb.dst,e1]);refine⟨oj,eI,g,hb,hg.mono (bE eI pX) (fun _ _ h=>h) hn,?_⟩;exact(ha.env hb.guard (fun t ht=>bE t fun e1=>J (e1▸ht)) (bE eI pX)).grow hl
theorem kh (e:T V) (v:V) (d:Nat):(e.put v (some (pa d))).get (pa d)=some v:=by
 have:=sL e v (some d) (pa d);rw[ap0]at this;rw[this,gY,B4 rfl]
theorem ad8 {rs:List (RS al)} {L:List Nat} {p:Nat→Prop} (hw:jk C.P nt ops A rs L p):∀(U:AM) (Λ:Pa→Prop) (h:Hp) (w:World) (e:T V) (tmps:Array Value),
 aP C U Λ h ls w→m≤h.next.toNat→nt≤tmps.size→c8 U e tmps (pt ops p)→(∀j,p j→qP C.P nt ops A U e h m j)→sM C.P ops e p→
 qQ C nt ops A K ds k cs ls m (lone (K.fr tmps (.inRegion ops L::k) ds .run) cs w) U h (gW rs e h):=by
 induction hw with
 |done hp=>
  intro U Λ h w e tmps s hm bJ he i6 rC;exact⟨U,Λ,w,tmps,.one adV,Ext.refl m U h,s,he.all (fun t ⟨j,_,I,_⟩=>hp j I),bJ⟩
 |stop n d=>
  intro U Λ h w e tmps s hm bJ he i6 rC;rw[sN rfl];exact .inl ⟨n,rfl⟩
 | @ghost rs L p q i d o ho hN hd N1 rB hp Cs hq next ih=>
   intro U Λ h w e tmps s hm bJ he i6 rC;obtain⟨g,hb,z7⟩:=ad2 ho hN hd rB;have hX:∀t,pt ops p t∨t=d→pt ops q t:=by
    rintro t (⟨j,oj,I,J,h3⟩|rfl)
    ·exact⟨j,oj,(hq j).2 (.inr I),J,h3⟩
    ·exact⟨i,o,(hq i).2 (.inl rfl),ho,hd⟩
   have bE:∀v t,t≠d→(e.put v (some (pa d))).get (pa t)=e.get (pa t):=fun v t ht=>by
    have:=sL e v (some d) (pa t);rw[ap0]at this;rw[this,gY,pg (by simpa using Ne.symm ht)]
   have seen:∀v,∀t∈eF ops o,(e.put v (some (pa d))).get (pa t)=e.get (pa t):=fun v t ht=>bE v t fun e1=>N1 (e1▸ht);have aD:∀v h',hA h h'→h.next.toNat≤h'.next.toNat→∀j,p j→qP C.P nt ops A U (e.put v (some (pa d))) h' m j:=fun v h' hl hn j hj=>
    (i6 j hj).put hl hn (fun oj g9=>Cs j oj hj g9) v
   have Ho:∀v,(∀i5 vi a,cR C.P o.op=.dw i5→v=vi→qG vi=some a→∀j oj eI vj,p j→ops[j]? =some oj→oj.dst=some eI→(∃ma,cR C.P oj.op=.dw ma)→e.get (pa eI)=some vj→qG vj≠some a)→
    sM C.P ops (e.put v (some (pa d))) q:=by
    intro v m4 i' j' oi oj ne eI i5 ma vi vj a hi hj dr I J h3 h4 h5 h6 h7 h8 h9;rcases(hq i').1 hi with rfl|b8
    ·rw[ho]at I;cases I;rw[hd]at h3;cases h3;rw[kh]at h7;cases h7;have d7:=((hq j').1 hj).resolve_left (Ne.symm dr);have pX:eI≠d:=fun e1=>(Cs j' oj d7 J).1 (by rw[h4,e1]);rw[bE v eI pX]at h8;exact m4 i5 v a h5 rfl h9 j' oj eI vj d7 J h4 ⟨ma,h6⟩ h8
    ·have N2:ne≠d:=fun e1=>(Cs i' oi b8 I).1 (by rw[h3,e1]);rw[bE v ne N2]at h7;rcases(hq j').1 hj with rfl|d7
     ·rw[ho]at J;cases J;rw[hd]at h4;cases h4;rw[kh]at h8;cases h8;intro Hq;exact m4 ma v a h6 rfl Hq i' oi ne vi b8 I h3 ⟨i5,h5⟩ h7 h9
     ·have pX:eI≠d:=fun e1=>(Cs j' oj d7 J).1 (by rw[h4,e1]);rw[bE v eI pX]at h8;exact rC i' j' oi oj ne eI i5 ma vi vj a b8 d7 dr I J h3 h4 h5 h6 h7 h8 h9
   rw[hb.ro];cases j1:fa e g with
   |bad=>rw[SB j1];trivial
   |no=>
    rw[LH j1];refine ih U Λ h w _ tmps s hm bJ (he.ghost dm hX) (fun j hj=>?_) (Ho dm ?_)
    ·rcases(hq j).1 hj with rfl|d7
     ·refine⟨o,d,g,hb,fun f v a hf hv ha=>?_,.inl ⟨?_,kh e dm d⟩⟩
      ·rw[kh]at hv;cases hv;cases ha
      ·rw[(zd hb.guard (seen dm)).1];exact j1
     ·exact aD dm h (fun _ _ h=>h) (B5 _) j d7
    ·intro i5 vi a _ hv ha;subst hv;cases ha
   |yes=>
    rw[sN j1];simp only;rcases z7 with⟨f,hf⟩|⟨f,hf⟩
    ·rw[hf];simp only;cases Dt:f e h with
     |none=>trivial
     |some v=>
      simp only;refine ih U Λ h w _ tmps s hm bJ (he.ghost v hX) (fun j hj=>?_) (Ho v ?_)
      ·rcases(hq j).1 hj with rfl|d7
       ·refine⟨o,d,g,hb,fun f' v a xT hv ha=>?_,.inr ⟨?_,.inl ⟨f,v,hf,?_,kh e v d⟩⟩⟩
        ·rw[hf]at xT;cases xT
        ·rw[(zd hb.guard (seen v)).1];exact j1
        ·rw[Cn hf (zd hb.guard (seen v)).2 (fun _=>rfl)];exact Dt
       ·exact aD v h (fun _ _ h=>h) (B5 _) j d7
      ·intro i5 vi a l6;rw[hf]at l6;cases l6
    ·rw[hf];simp only;cases Dt:f e with
     |none=>trivial
     |some eb=>
      obtain⟨b,mk⟩:=eb;simp only;have b3:h.next.toNat<(h.alloc b).next.toNat:=by show _<h.next.succ.toNat;rw[Pa.iB];omega
      have hblk:=(LG hf Dt h.next).1;refine qQ.of_steps C nt ops A K ds k cs ls m (Steps.refl _ _) ⟨AM.le_refl U,fun _ _ h=>h,are b3⟩ ?_;refine ih U Λ _ w _ tmps (s.ghost b) (by omega) bJ (he.ghost (mk h.next) hX) (fun j hj=>?_) (Ho (mk h.next) ?_)
      ·rcases(hq j).1 hj with rfl|d7
       ·refine⟨o,d,g,hb,fun f' v a xT hv ha=>?_,.inr ⟨?_,.inr ⟨f,b,mk,h.next,hf,?_,kh e _ d,?_⟩⟩⟩
        ·rw[kh]at hv;cases hv;rw[hblk]at ha;cases ha;exact⟨s.lB,hm,b3⟩
        ·rw[(zd hb.guard (seen _)).1];exact j1
        ·rw[Fy hf (zd hb.guard (seen _)).2];exact Dt
        ·simp[bm.alloc,bm.get,T.gX]
       ·exact aD _ _ (hA.alloc s b) (are b3) j d7
      ·intro i5 vi a l6 hv ha j oj eI vj hj g9 pX oB Xo Hq;subst hv;rw[hblk]at ha;cases ha;obtain⟨d',g',jY,tw,_⟩:=(i6 j hj).dst g9;obtain⟨ma,Xp⟩:=oB;have:d'=eI:=by have:=jY.dst;rw[pX]at this;cases this;rfl
       subst this;have:=(tw ma vj h.next Xp Xo Hq).2.2;omega
 | @fill rs L p q i o ho hp hn hq next ih=>
   intro U Λ h w e tmps s hm bJ he i6 rC;obtain⟨d,g,hb,Xq,tz⟩:=(i6 i hp).dst ho;have hX:∀t∈eF ops o,¬pt ops p t:=fun t ht ⟨j,oj,I,J,h3⟩=>hn j oj t I J h3 ht;obtain⟨Du,Hr⟩:=SD hX;have Hs:∀t,pt ops p t→pt ops q t∨t=d:=by
    rintro t ⟨j,oj,I,J,h3⟩;by_cases vz:j=i
    ·subst vz;rw[ho]at J;cases J;rw[hb.dst]at h3;cases h3;exact .inr rfl
    ·exact .inl ⟨j,oj,(hq j).2 ⟨vz,I⟩,J,h3⟩
   have ap:d<tmps.size:=aqB hb.lt bJ;have Ht:sM C.P ops e q:=fun i' j' oi oj ne eI i5 ma vi vj a hi hj=>rC i' j' oi oj ne eI i5 ma vi vj a ((hq i').1 hi).2 ((hq j').1 hj).2;obtain⟨wy,Hu⟩:=Sv he hb.guard Hr;rcases tz with⟨I,J⟩|⟨I,⟨f,v,k1,k2,k3⟩|⟨f,b,mk,a,k1,k2,k3,k4⟩⟩
   ·refine qQ.of_steps C nt ops A K ds k cs ls m (.one (Ss ho (Hu I))) (Ext.refl m U h) ?_;rw[hb.dst];exact ih U Λ h w e _ s hm (by rw[Cp];exact bJ) (he.fill J (w9 U) ap Hs) (fun j hj=>i6 j ((hq j).1 hj).2) Ht
   ·obtain⟨e0,o1,o2⟩:=he.ops Du;have oC:f e0 h=some v:=by rw[Cn k1 o2 (fun _=>rfl)];exact k2
    obtain⟨c,r1,r2⟩:=R9 k1 C U Λ h ls w e0 _ v rfl s o1 oC;refine qQ.of_steps C nt ops A K ds k cs ls m (.one (Cr ho (wy I) (Cu (fun f' h'=>by rw[k1]at h';cases h')) r1 (.inl rfl))) (Ext.refl m U h) ?_;rw[hb.dst];exact ih U Λ h w e _ s hm (by rw[Cp];exact bJ) (he.fill k3 r2 ap Hs) (fun j hj=>i6 j ((hq j).1 hj).2) Ht
   ·obtain⟨e0,o1,o2⟩:=he.ops Du;have oC:f e0=some (b,mk):=by rw[Fy k1 o2];exact k2
    obtain⟨c,w',top,md,r1,r2,r3,r4,r5⟩:=Sd k1 U w e0 _ b mk o1 oC;have hblk:=(LG k1 k2 a).1;obtain⟨g1,g2,l8⟩:=Xq f _ a k1 k3 hblk;have ac:=AM.lA (U:=U) (a:=a) (L:=⟨w.heap.size,0,top,md⟩) g1;obtain⟨ci,eq⟩:=r5 (U.put a ⟨w.heap.size,0,top,md⟩) ls a ac (AM.kh _ _ _);have s':=s.fill (top:=top) (md:=md) g1 k4 r2 ci;refine qQ.of_steps C nt ops A K ds k cs ls m (.one (Cr ho (wy I) (Cu (fun f' h'=>by rw[k1]at h';cases h')) r1 (.inl rfl))) (aA:=U.put a ⟨w.heap.size,0,top,md⟩) (h':=h)
     ⟨ac,fun x hx pV=>?_,B5 _⟩ ?_
    ·have:x≠a:=fun e1=>by subst e1;omega
     simp[AM.put,this,pV]
    ·rw[hb.dst];refine ih _ _ h w' e _ s' hm (by rw[Cp];exact bJ) ((he.mono ac).fill k3 eq ap Hs) (fun j hj=>?_) Ht;obtain⟨vz,d7⟩:=(hq j).1 hj;obtain⟨oj,eI,Xr,Hv,Xs,Xt⟩:=i6 j d7;refine⟨oj,eI,Xr,Hv,fun f' v' a' xT Dv xO=>?_,Xt⟩;obtain⟨q1,q2,q3⟩:=Xs f' v' a' xT Dv xO;refine⟨?_,q2,q3⟩;have:a'≠a:=fun e1=>by
      subst e1;exact rC j i oj o eI d f' f v' (mk a') a' d7 hp vz Hv.at_ ho Hv.dst hb.dst xT k1 Dv k3 xO hblk
     simp[AM.put,this,q1]
 | @e7 rs chks L p i o ho hn hk next ih=>
   intro U Λ h w e tmps s hm bJ he i6 rC;have hX:∀t∈eF ops o,¬pt ops p t:=fun t ht ⟨j,oj,I,J,h3⟩=>(hn j oj t I J h3).1 ht;obtain⟨Du,Hr⟩:=SD hX;rcases St C.P nt ops o with⟨n,d',f5⟩|⟨g,f5,ap,vA⟩
   ·rw[f5,sN rfl];exact .inl ⟨n,rfl⟩
   ·rw[f5];obtain⟨wy,Hu⟩:=Sv he vA Hr;have tA:∀j,p j→lF C.P nt ops A chks U e h m j:=fun j hj=>(i6 j hj).S fun oj g9=>(hk j oj hj g9).imp id And.left;have pY:∀j oj t,p j→ops[j]? =some oj→oj.dst=some t→o.dst≠some t:=fun j oj t I J h3=>(hn j oj t I J h3).2;have after:∀(aA:AM) (dh:Pa→Prop) (h':Hp) (w':World) (v:V) (c:Value),Steps C.P (lone (K.fr tmps (.inRegion ops (i::L)::k) ds .run) cs w) (lone (K.fr (lE tmps o.dst c) (.inRegion ops L::k) ds .run) cs w')→
     aP C aA dh h' ls w'→U.le aA→(∀a,a.toNat<h.next.toNat→U a=none→aA a=none)→h.next.toNat≤h'.next.toNat→VR aA v c→
     qQ C nt ops A K ds k cs ls m (lone (K.fr tmps (.inRegion ops (i::L)::k) ds .run) cs w) U h (gW (chks.map .cf++rs) (e.put v (o.dst.map pa)) h'):=by
     intro aA dh h' w' v c aj s' ac xU b3 hv;rcases LI (rs:=rs) (e:=e.put v (o.dst.map pa)) (h:=h') chks with⟨n,j0⟩|⟨oD,oE⟩
     ·rw[j0];trivial
     ·rw[oE];refine qQ.of_steps C nt ops A K ds k cs ls m aj (aA:=aA) (h':=h') ⟨ac,fun a ha tB=>xU a (by omega) tB,b3⟩ ?_;refine ih aA dh h' w' _ _ s' (by omega) (by rw[Cp];exact bJ) ((he.mono ac).put hv (fun d hd=>aqB (ap d hd) bJ)) (fun j hj=>?_) (rC.put pY v);exact((tA j hj).put (fun oj t I J=>pY j oj t hj I J) (fun oj g9=>hk j oj hj g9) xU b3 v).ok oD
    cases j1:fa e g with
    |bad=>rw[SB j1];trivial
    |no=>
     rw[LH j1];exact after U Λ h w dm undef (.one (Ss ho (Hu j1))) s (AM.le_refl U) (fun _ _ h=>h) (B5 _) (w9 U)
    |yes=>
     rw[sN j1];simp only;obtain⟨e0,o1,o2⟩:=he.ops Du;cases hs:cR C.P o.op with
     |pu f=>
      simp only;cases hf:f e h with
      |none=>trivial
      |some v=>
       simp only;have oC:f e0 h=some v:=by rw[Cn hs o2 (fun _=>rfl)];exact hf
       obtain⟨c,r1,r2⟩:=R9 hs C U Λ h ls w e0 _ v rfl s o1 oC;exact after U Λ h w v c (.one (Cr ho (wy j1) (Cu (fun f' h'=>by rw[hs]at h';cases h')) r1 (.inl rfl))) s (AM.le_refl U) (fun _ _ h=>h) (B5 _) r2
     |dw f=>
      simp only;cases hf:f e with
      |none=>trivial
      |some eb=>
       obtain⟨b,mk⟩:=eb;simp only;have oC:f e0=some (b,mk):=by rw[Fy hs o2];exact hf
       obtain⟨c,w',top,md,r1,r2,r3,r4,r5⟩:=Sd hs U w e0 _ b mk o1 oC;have ac:=AM.lA (U:=U) (a:=h.next) (L:=⟨w.heap.size,0,top,md⟩) s.lB;obtain⟨ci,eq⟩:=r5 (U.put h.next ⟨w.heap.size,0,top,md⟩) ls h.next ac (AM.kh _ _ _);have s':=(s.ghost b).fill (top:=top) (md:=md) (a:=h.next) s.lB (by simp[bm.alloc,bm.get,T.gX]) r2 ci;refine after _ _ (h.alloc b) w' (mk h.next) c (.one (Cr ho (wy j1) (Cu (fun f' h'=>by rw[hs]at h';cases h')) r1 (.inl rfl))) s' ac (fun a ha tB=>?_) ?_ eq
       ·have:a≠h.next:=fun e1=>by subst e1;omega
        simp[AM.put,this,tB]
       ·show _≤h.next.succ.toNat;rw[Pa.iB];omega
     |st f=>
      simp only;cases hf:f e h with
      |none=>trivial
      |some Xu=>
       obtain⟨v,h'⟩:=Xu;simp only;have oC:f e0 h=some (v,h'):=by rw[adU hs o2];exact hf
       obtain⟨n,c,w',aA,dh,r1,r2,r3,r4,r5,zZ,vB⟩:=adS hs C U Λ h ls w e0 _ v h' rfl s o1 oC;refine after aA dh h' w' v c (.one (Cr ho (wy j1) (Cu (fun f' h'=>by rw[hs]at h';cases h')) r1 r2)) r4 r3 (fun a ha tB=>?_) vB r5;cases hx:aA a with
       |none=>rfl
       |some L=>exact absurd (zZ a tB (by rw[hx];simp)) (by omega)
     |ed f=>
      simp only;refine .inr ⟨U,Λ,w,tmps,i,L,o,f,Steps.refl _ _,Ext.refl m U h,s,⟨bJ,ho,⟨g,by rw[hs]⟩,ap,chks,rs,p,rfl,next,tA,rC,he,pY,hk⟩,hs,rfl,wy j1,e0,o1,o2⟩
end Go.Ev
namespace Go.Ev
variable{C:Cx} {nt:Nat} {ops:Array Oper} {K:CK} {ds:List Deferred} {ls:List LE} {m:Nat}
inductive qR (P:Program) (U:AM) (nt:Nat) (ce:List Nat):Item→Go.Item→Prop
 |code (c:Code):qR P U nt ce (.code (cS P nt ce c)) (.code c)
 |inBlock (id:Nat):qR P U nt ce (.inBlock id) (.inBlock id)
 |inLoop (c:Code):qR P U nt ce (.inLoop (cS P nt ce c)) (.inLoop c)
 |jh (l:Pa) (L:Loc) (h:U l=some L):qR P U nt ce (.jh l) (.inRangeFunc L.aw)
 |nT (l:Pa) (L:Loc) (h:U l=some L):qR P U nt ce (.nT l) (.endRangeFunc L.aw)
 |begin:qR P U nt ce .begin .beginRound
theorem qR.mono {P:Program} {U aA:AM} (ac:U.le aA) {nt:Nat} {ce:List Nat} {i:Item} {c:Go.Item} (h:qR P U nt ce i c):qR P aA nt ce i c:=by
 cases h with
 |code c=>exact .code c
 |inBlock id=>exact .inBlock id
 |inLoop c=>exact .inLoop c
 |jh l L h=>exact .jh l L (ac l L h)
 |nT l L h=>exact .nT l L (ac l L h)
 |begin=>exact .begin
inductive fL (P:Program) (U:AM) (nt:Nat) (ce:List Nat):List Item→List Go.Item→Prop
 |nil:fL P U nt ce [] []
 |cons {i:Item} {c:Go.Item} {k:List Item} {cQ:List Go.Item} (h:qR P U nt ce i c) (t:fL P U nt ce k cQ):fL P U nt ce (i::k) (c::cQ)
theorem fL.mono {P:Program} {U aA:AM} (ac:U.le aA) {nt:Nat} {ce:List Nat} {k:List Item} {cQ:List Go.Item} (h:fL P U nt ce k cQ):fL P aA nt ce k cQ:=by
 induction h with
 |nil=>exact .nil
 |cons h _ ih=>exact .cons (h.mono ac) ih
theorem LJ {P:Program} {U:AM} {nt:Nat} {ce:List Nat} {id:Nat}:∀{k:List Item} {cQ:List Go.Item},fL P U nt ce k cQ→(∀{k':List Item},exitTo id k=some k'→∃z8,Go.exitTo id cQ=some z8∧fL P U nt ce k' z8)∧
 (exitTo id k=none→Go.exitTo id cQ=none)
 |_,_,.nil=>⟨fun h=>by simp[exitTo]at h,fun _=>rfl⟩
 |_,_,.cons hi ht=>by
  have ih:=LJ (id:=id) ht;cases hi with
  |code c=>exact ih
  |inLoop c=>exact ih
  |jh l L h=>exact ih
  |nT l L h=>exact ih
  |begin=>exact ih
  |inBlock j=>
   simp only[exitTo];cases hb:Nat.beq j id with
   |true=>
    have:=apY hb;subst this;refine⟨fun h=>?_,fun h=>by simp at h⟩;simp only[E7,E8]at h;subst h;exact⟨_,by simp[Go.exitTo],ht⟩
   |false=>
    have bx:(j==id)=false:=by
     simp only[beq_eq_false_iff_ne];intro e;subst e;simp at hb
    simp only[KL];refine⟨fun h=>?_,fun h=>?_⟩
    ·obtain⟨z8,I,J⟩:=ih.1 h;exact⟨z8,by simp[Go.exitTo,bx,I],J⟩
    ·simp[Go.exitTo,bx,ih.2 h]
inductive fc (U:AM):List Def→List Deferred→Prop
 |nil:fc U [] []
 |call {f:Nat} {args:List V} {A:Array Value} {ds:List Def} {Ds:List Deferred} (bf:List Value) (ha:bd U args (A.toList++bf)) (h:fc U ds Ds):fc U (.call f args::ds) ({target:=.fn (.func f) ⟨bf⟩,args:=A}::Ds)
 |mark {a:Pa} {L:Loc} {A:Array Value} {ds:List Def} {Ds:List Deferred} (ha:U a=some L) (h:fc U ds Ds):fc U (.mark a::ds) ({target:=.collected L.aw,args:=A}::Ds)
theorem fc.mono {U aA:AM} (ac:U.le aA) {ds:List Def} {Ds:List Deferred} (h:fc U ds Ds):fc aA ds Ds:=by
 induction h with
 |nil=>exact .nil
 |call bf ha _ ih=>exact .call bf (bd.mono ac ha) ih
 |mark ha _ ih=>exact .mark (ac _ _ ha) ih
def FD (U:AM):Option Pa→Option Nat→Prop
 |none,r=>r=none
 |some l,r=>∃L,U l=some L∧r=some L.aw
theorem FD.mono {U aA:AM} (ac:U.le aA) {a:Option Pa} {r:Option Nat} (h:FD U a r):FD aA a r:=by
 cases a with
 |none=>exact h
 |some l=>obtain⟨L,I,J⟩:=h;exact⟨L,ac _ _ I,J⟩
structure KR (U:AM) (k:FK) (K:CK):Prop where
 fn:k.fn=K.fn
 kind:K.kind=if k.deferred then .deferred else .normal
 round:FD U k.round K.round
theorem KR.mono {U aA:AM} (ac:U.le aA) {k:FK} {K:CK} (h:KR U k K):KR aA k K:=⟨h.fn,h.kind,h.round.mono ac⟩
inductive uO (U:AM):Mode→FrameMode→Prop
 |ret:uO U .returning .returning
 |pw {v:V} {c:Value} (r:Bool) (h:VR U v c):uO U (.panicking v r) (.panicking [{v:=c,recovered:=r,goexit:=false}])
theorem uO.mono {U aA:AM} (ac:U.le aA) {m:Mode} {c:FrameMode} (h:uO U m c):uO aA m c:=by
 cases h with
 |ret=>exact .ret
 |pw r h=>exact .pw r (h.mono ac)
def kA (P:Program) (f:Nat) (t:Nat):Prop:=t∉b1 P f
theorem c8.LK {U:AM} {e:T V} {tmps:Array Value} {X Y:Nat→Prop} (h:c8 U e tmps X) (Xv:∀t,X t→Y t):c8 U e tmps Y:=fun p v hp hy=>h p v hp fun hx=>hy (Xv _ hx)
theorem fJ.X {U:AM} {e:T V} {tmps:Array Value} (h:fJ U e tmps) (X:Nat→Prop):c8 U e tmps X:=fun p v hp _=>h p v hp
inductive sO (P:Program) (U:AM) (h:Hp) (m:Nat):Fr→Frame→Prop
 |run {k:FK} {K:CK} {e:T V} {tmps:Array Value} {todo:List Item} {bg:List Go.Item} {ds:List Def} {Ds:List Deferred} (hk:KR U k K) (hd:fc U ds Ds)
   (he:fJ U e tmps) (hs:k.nt≤tmps.size) (ht:fL P U k.nt (b1 P k.fn) todo bg):sO P U h m ⟨k,e,todo,ds,.run⟩ (K.fr tmps bg Ds .run)
 |dc {k:FK} {K:CK} {e:T V} {tmps:Array Value} {todo:List Item} {bg:List Go.Item} {ds:List Def} {Ds:List Deferred} {ops:Array Oper} {chks:List (RO al)} {rs:List (RS al)} {L:List Nat}
   {p:Nat→Prop} (hk:KR U k K) (hd:fc U ds Ds) (hw:jk P k.nt ops (kA P k.fn) rs L p) (hp:∀j,p j→lF P k.nt ops (kA P k.fn) chks U e h m j) (ha:sM P ops e p)
   (he:c8 U e tmps (pt ops p)) (hs:k.nt≤tmps.size) (ht:fL P U k.nt (b1 P k.fn) todo bg):
   sO P U h m ⟨k,e,.dc (chks.map .cf++rs)::todo,ds,.run⟩ (K.fr tmps (.inRegion ops L::bg) Ds .run)
 |out {k:FK} {K:CK} {e:T V} {tmps:Array Value} {todo:List Item} {bg:List Go.Item} {ds:List Def} {Ds:List Deferred} {md:Mode} {mb:FrameMode} (hk:KR U k K) (hd:fc U ds Ds)
   (he:c8 U e tmps (kA P k.fn)) (hm:uO U md mb):sO P U h m ⟨k,e,todo,ds,md⟩ (K.fr tmps bg Ds mb)
inductive uP (P:Program) (U:AM) (h:Hp) (m:Nat):Bool→Fr→Frame→Prop
 |wait {k:FK} {K:CK} {e:T V} {tmps:Array Value} {todo:List Item} {bg:List Go.Item} {ds:List Def} {Ds:List Deferred} {ops:Array Oper} {o:RO al} {rs:List (RS al)} {i:Nat} {L:List Nat} {oi:Oper}
   (hk:KR U k K) (hd:fc U ds Ds) (hw:nU P k.nt ops (kA P k.fn) m U e h tmps o rs i L oi) (ht:fL P U k.nt (b1 P k.fn) todo bg):
   uP P U h m false ⟨k,e,.dc (.op o::rs)::todo,ds,.run⟩ (K.fr tmps (.inRegion ops (i::L)::bg) Ds .run)
 |Cv {k:FK} {K:CK} {e:T V} {tmps:Array Value} {todo:List Item} {bg:List Go.Item} {ds:List Def} {Ds:List Deferred} {l:Pa} {L:Loc} (hk:KR U k K) (hd:fc U ds Ds)
   (he:fJ U e tmps) (hs:k.nt≤tmps.size) (ht:fL P U k.nt (b1 P k.fn) todo bg) (hl:U l=some L):
   uP P U h m false ⟨k,e,.jh l::todo,ds,.run⟩ (K.fr tmps (.inRangeFunc L.aw::bg) Ds .run)
 |out {k:FK} {K:CK} {e:T V} {tmps:Array Value} {todo:List Item} {bg:List Go.Item} {ds:List Def} {Ds:List Deferred} {md:Mode} {mb:FrameMode} (hk:KR U k K) (hd:fc U ds Ds)
   (he:c8 U e tmps (kA P k.fn)) (hm:uO U md mb):uP P U h m true ⟨k,e,todo,ds,md⟩ (K.fr tmps bg Ds mb)
inductive gA (P:Program) (U:AM) (bh:List Frame) (f0:Nat):Nat→Bool→Nat→List Fr→List Frame→Prop
 |nil (m:Nat):gA P U bh f0 m false f0 [] bh
 |cons {m m':Nat} {d:Bool} {f:Nat} {c:Fr} {cc:Frame} {cs:List Fr} {ccs:List Frame} (h0:Hp) (hc:uP P U h0 m' d c cc) (I:m'≤h0.next.toNat) (J:h0.next.toNat≤m)
   (hs:gA P U bh f0 m' c.k.deferred c.k.fn cs ccs):gA P U bh f0 m d f (c::cs) (cc::ccs)
variable{A:Nat→Prop}
theorem lF.mono {P:Program} {chks:List (RO al)} {U aA:AM} {e:T V} {h:Hp} {m j:Nat} (hp:lF P nt ops A chks U e h m j) (ge:∀a,a.toNat<h.next.toNat→U a=none→aA a=none):lF P nt ops A chks aA e h m j:=by
 obtain⟨oj,d,g,hb,hg,ha⟩:=hp;exact⟨oj,d,g,hb,hg.mono rfl ge (B5 _),ha⟩
theorem nU.mono {P:Program} {U aA:AM} (ac:U.le aA) {e:T V} {h:Hp} {tmps:Array Value} {o:RO al} {rs:List (RS al)} {i:Nat} {L:List Nat} {oi:Oper} (ge:∀a,a.toNat<h.next.toNat→U a=none→aA a=none)
 (hw:nU P nt ops A m U e h tmps o rs i L oi):nU P nt ops A m aA e h tmps o rs i L oi:=by
 obtain⟨chks,vy,p,I,J,h3,h4,h5,h6⟩:=hw.rest;exact⟨hw.size,hw.at_,hw.ro,hw.lt,chks,vy,p,I,J,fun j hj=>(h3 j hj).mono ge,h4,h5.mono ac,h6⟩
theorem SE {P:Program} {chks:List (RO al)} {U:AM} {e:T V} {h:Hp} {tmps:Array Value} {p:Nat→Prop} (hp:∀j,p j→lF P nt ops A chks U e h m j) (he:c8 U e tmps (pt ops p)):c8 U e tmps A:=
 he.LK fun t ⟨j,oj,I,J,h3⟩=>by
  obtain⟨o,d,g,hb,_⟩:=hp j I;have e1:=hb.at_;rw[J]at e1;cases e1;have e2:=hb.dst;rw[h3]at e2;cases e2;exact hb.may
theorem uP.mono {P:Program} {U aA:AM} (ac:U.le aA) {h:Hp} {d:Bool} {c:Fr} {cc:Frame} (ge:∀a,a.toNat<h.next.toNat→U a=none→aA a=none) (hc:uP P U h m d c cc):uP P aA h m d c cc:=by
 cases hc with
 |wait hk hd hw ht=>exact .wait (hk.mono ac) (hd.mono ac) (hw.mono ac ge) (ht.mono ac)
 |Cv hk hd he hs ht hl=>exact .Cv (hk.mono ac) (hd.mono ac) (he.mono ac) hs (ht.mono ac) (ac _ _ hl)
 |out hk hd he hm=>exact .out (hk.mono ac) (hd.mono ac) (he.mono ac) (hm.mono ac)
theorem gA.mono {P:Program} {U aA:AM} {bh:List Frame} {f0:Nat} (ac:U.le aA):∀{m:Nat} {d:Bool} {f:Nat} {cs:List Fr} {ccs:List Frame},(∀a,a.toNat<m→U a=none→aA a=none)→
 gA P U bh f0 m d f cs ccs→gA P aA bh f0 m d f cs ccs
 |_,_,_,_,_,_,.nil m=>.nil m
 |_,_,_,_,_,ge,.cons h0 hc I J hs=>.cons h0 (hc.mono ac fun a ha hn=>ge a (by omega) hn) I J (gA.mono ac (fun a ha hn=>ge a (by omega) hn) hs)
structure Rel (C:Cx) (bh:List Frame) (f0:Nat) (fr:Fr) (cs:List Fr) (h:Hp) (ls:List LE) (M:Machine):Prop where
 it:∃U Λ w m dQ ccs,M=lone dQ ccs w∧aP C U Λ h ls w∧m≤h.next.toNat∧sO C.P U h m fr dQ∧gA C.P U bh f0 m fr.k.deferred fr.k.fn cs ccs
def fe (C:Cx) (bh:List Frame) (f0:Nat) (M:Machine):Nx→Prop
 |.go fr cs h ls=>∃M',Steps C.P M M'∧Rel C bh f0 fr cs h ls M'
 |.done v h=>∃dQ w c U Λ ls,Steps C.P M (lone dQ bh w)∧dQ.fn=f0∧dQ.leaving C.P w (.returned c)∧aP C U Λ h ls w∧VR U v c
 |.bad _ _=>True
theorem fe.of_steps {bh:List Frame} {f0:Nat} {M M':Machine} {n:Nx} (hs:Steps C.P M M') (h:fe C bh f0 M' n):fe C bh f0 M n:=by
 cases n with
 |go fr cs h ls=>obtain⟨Xw,I,J⟩:=h;exact⟨Xw,hs.trans I,J⟩
 |done v h=>obtain⟨a,b,c,d,e,f,I,J⟩:=h;exact⟨a,b,c,d,e,f,hs.trans I,J⟩
 |bad a b=>trivial
section ad9
variable{P:Program} {tmps:Array Value} {k:List Go.Item} {cs:List Frame} {w:World}
theorem SF:Go.step P (lone (K.fr tmps (.code .skip::k) ds .run) cs w)=.next (lone (K.fr tmps k ds .run) cs w):=
 step_lone_go (by simp[stepG,stepG.exec,CK.fr])
theorem SG {l:Nat}:Go.step P (lone (K.fr tmps (.code (.label l)::k) ds .run) cs w)=.next (lone (K.fr tmps k ds .run) cs w):=
 step_lone_go (by simp[stepG,stepG.exec,CK.fr])
theorem aea {id:Nat}:Go.step P (lone (K.fr tmps (.inBlock id::k) ds .run) cs w)=.next (lone (K.fr tmps k ds .run) cs w):=
 step_lone_go (by simp[stepG,stepG.exec,CK.fr])
theorem SI {x y:Code}:Go.step P (lone (K.fr tmps (.code (.seq x y)::k) ds .run) cs w)=.next (lone (K.fr tmps (.code x::.code y::k) ds .run) cs w):=
 step_lone_go (by simp[stepG,stepG.exec,CK.fr])
theorem aeb {c:Operand} {x y:Code} {t:Bool} (h:de tmps c=.bool t):
 Go.step P (lone (K.fr tmps (.code (.cond c x y)::k) ds .run) cs w)=.next (lone (K.fr tmps (.code (if t then x else y)::k) ds .run) cs w):=
 step_lone_go (by
  have he:=CK.eval K tmps (.code (.cond c x y)::k) ds .run;simp only[CK.fr]at he;simp[stepG,stepG.exec,CK.fr,he,h])
theorem aec {id:Nat} {c:Code}:Go.step P (lone (K.fr tmps (.code (.block id c)::k) ds .run) cs w)=.next (lone (K.fr tmps (.code c::.inBlock id::k) ds .run) cs w):=
 step_lone_go (by simp[stepG,stepG.exec,CK.fr])
theorem aed {c:Code}:Go.step P (lone (K.fr tmps (.code (.loop c)::k) ds .run) cs w)=.next (lone (K.fr tmps (.code c::.inLoop c::k) ds .run) cs w):=
 step_lone_go (by simp[stepG,stepG.exec,CK.fr])
theorem aee {c:Code}:Go.step P (lone (K.fr tmps (.inLoop c::k) ds .run) cs w)=.next (lone (K.fr tmps (.code c::.inLoop c::k) ds .run) cs w):=
 step_lone_go (by simp[stepG,stepG.exec,CK.fr])
theorem aef {id:Nat} {k':List Go.Item} (h:Go.exitTo id k=some k'):Go.step P (lone (K.fr tmps (.code (.exit id)::k) ds .run) cs w)=.next (lone (K.fr tmps k' ds .run) cs w):=
 step_lone_go (by simp[stepG,stepG.exec,CK.fr,h])
theorem aeg (hr:K.round=none):Go.step P (lone (K.fr tmps (.code .ret::k) ds .run) cs w)=.next (lone (K.fr tmps (.code .ret::k) ds .returning) cs w):=
 step_lone_go (by simp[stepG,stepG.exec,CK.fr,hr])
theorem aeh (hr:K.round=none):Go.step P (lone (K.fr tmps [] ds .run) cs w)=.next (lone (K.fr tmps [] ds .returning) cs w):=
 step_lone_go (by simp[stepG,stepG.exec,CK.fr,hr])
theorem aei {id:Nat} {ops:Array Oper}:Go.step P (lone (K.fr tmps (.code (.region id ops false)::k) ds .run) cs w)=.next (lone (K.fr tmps (.inRegion ops (List.range ops.size)::k) ds .run) cs w):=
 step_lone_go (by simp[stepG,stepG.exec,CK.fr])
theorem aej {id:Nat} {ops:Array Oper}:Go.step P (lone (K.fr tmps (.code (.region id ops true)::k) ds .run) cs w)=
 .next (lone (K.fr tmps (.inRegion ops (Region.schedule (P.follows .mixedOrders) ops (w.tape w.drawn (.order K.fn id)))::k) ds .run) cs {w with drawn:=w.drawn+1}):=
 step_lone_go (by simp[stepG,stepG.exec,CK.fr,choose,Sem.run,Question.forced,Question.cut])
end ad9
theorem SJ {P:Program} {nt:Nat} {ops:Array Oper} {A:Nat→Prop}:∀(l:List Oper) (i:Nat),(∀(j:Nat) o,l[j]? =some o→ops[i+j]? =some o)→
 jk P nt ops A (l.map fun o=>.op (ga P nt ops o)) (List.range' i l.length) (fun _=>False)
 |[],i,_=>.done (fun _ h=>h)
 |o::l,i,h=>by
  have ih:=SJ (P:=P) (nt:=nt) (ops:=ops) (A:=A) l (i+1) (fun j o' hj=>by have:=h (j+1) o' (by simpa using hj);rw[←this];congr 1;omega);have:=jk.e7 (P:=P) (nt:=nt) (ops:=ops) (A:=A) (chks:=[]) i o (h 0 o (by simp)) (fun _ _ _ h=>h.elim) (fun _ _ h=>h.elim) ih;simpa[List.range'_succ]using this
theorem aek {P:Program} {nt:Nat} {ops:Array Oper} {A:Nat→Prop}:jk P nt ops A (ops.toList.map fun o=>.op (ga P nt ops o)) (List.range ops.size) (fun _=>False):=by
 have:=SJ (P:=P) (nt:=nt) (ops:=ops) (A:=A) ops.toList 0 (fun j o h=>by simpa using h);rw[List.range_eq_range'];simpa using this
def Cw (P:Program):Prop:=∀(nt:Nat) (ce:List Nat) (ops:Array Oper) (rs:List (RS al)) (t:Nat),drawn P nt ce ops (e8 P nt ops ops.toList 0 [])=.region rs→
 jk P nt ops (fun t=>t∉ce) rs (Region.schedule (P.follows .mixedOrders) ops t) (fun _=>False)
variable{bh:List Frame} {f0:Nat}
theorem SK {P:Program} {nt:Nat} {ops:Array Oper} {U:AM} {e:T V} {h:Hp} {tmps:Array Value} (he:fJ U e tmps):
 (∀j,(fun _=>False) j→lF P nt ops A [] U e h m j)∧sM P ops e (fun _=>False)∧c8 U e tmps (pt ops fun _=>False):=
 ⟨fun _ h=>h.elim,fun _ _ _ _ _ _ _ _ _ _ _ h=>h.elim,fun p v hp _=>he p v hp⟩
theorem LL (dE:Cw C.P) {U:AM} {Λ:Pa→Prop} {h:Hp} {fk:FK} {e:T V} {tmps:Array Value} {defs:List Def} (hk:KR U fk K) (hd:fc U defs ds) (he:fJ U e tmps) (hs:fk.nt≤tmps.size) {ccs:List Frame}:
 ∀(c:Code) (k:List Item) (cQ:List Go.Item) (w:World),aP C U Λ h ls w→fL C.P U fk.nt (b1 C.P fk.fn) k cQ→
  ∃dQ w',Steps C.P (lone (K.fr tmps (.code c::cQ) ds .run) ccs w) (lone dQ ccs w')∧aP C U Λ h ls w'∧sO C.P U h m ⟨fk,e,fI (cS C.P fk.nt (b1 C.P fk.fn) c) k,defs,.run⟩ dQ
 |.skip,k,cQ,w,s,ht=>⟨_,w,.one SF,s,.run hk hd he hs ht⟩
 |.label l,k,cQ,w,s,ht=>⟨_,w,.one SG,s,.run hk hd he hs ht⟩
 |.seq a b,k,cQ,w,s,ht=>by
  obtain⟨dQ,w',I,J,h3⟩:=LL dE (ccs:=ccs) hk hd he hs a (.code (cS C.P fk.nt (b1 C.P fk.fn) b)::k) (.code b::cQ) w s (.cons (.code b) ht);exact⟨dQ,w',.head SI I,J,h3⟩
 |.region id ops draw,k,cQ,w,s,ht=>by
  cases draw with
  |false=>
   obtain⟨n1,n2,n3⟩:=SK (P:=C.P) (nt:=fk.nt) (ops:=ops) (A:=kA C.P fk.fn) (m:=m) (h:=h) he;have hc:cS C.P fk.nt (b1 C.P fk.fn) (.region id ops false)=.region (ops.toList.map fun o=>.op (ga C.P fk.nt ops o)):=rfl;rw[hc];exact⟨_,w,.one aei,s,.dc (chks:=[]) hk hd aek n1 n2 n3 hs ht⟩
  |true=>
   have hc:cS C.P fk.nt (b1 C.P fk.fn) (.region id ops true)=drawn C.P fk.nt (b1 C.P fk.fn) ops (e8 C.P fk.nt ops ops.toList 0 []):=rfl;have mc:(∃rs,drawn C.P fk.nt (b1 C.P fk.fn) ops (e8 C.P fk.nt ops ops.toList 0 [])=.region rs)∨drawn C.P fk.nt (b1 C.P fk.fn) ops (e8 C.P fk.nt ops ops.toList 0 [])=.bad:=by
    unfold drawn;cases (C.P.follows .mixedOrders&&(y7 ops (e8 C.P fk.nt ops ops.toList 0 [])&&Cg (b1 C.P fk.fn) (e8 C.P fk.nt ops ops.toList 0 [])))with
    |true=>exact .inl ⟨_,rfl⟩
    |false=>exact .inr rfl
   rcases mc with⟨rs,hr⟩|hr
   ·rw[hc,hr];obtain⟨n1,n2,n3⟩:=SK (P:=C.P) (nt:=fk.nt) (ops:=ops) (A:=kA C.P fk.fn) (m:=m) (h:=h) he;exact⟨_,_,.one aej,s.same rfl ⟨rfl,rfl,rfl,aqF _⟩,.dc (chks:=[]) hk hd (dE fk.nt _ ops rs _ hr) n1 n2 n3 hs ht⟩
   ·have hp:fI (cS C.P fk.nt (b1 C.P fk.fn) (.region id ops true)) k=.code (cS C.P fk.nt (b1 C.P fk.fn) (.region id ops true))::k:=by rw[hc,hr];(try rfl)
    rw[hp];exact⟨_,w,.refl _ _,s,.run hk hd he hs (.cons (.code _) ht)⟩
 |.cond c a b,k,cQ,w,s,ht=>⟨_,w,.refl _ _,s,.run hk hd he hs (.cons (.code (.cond c a b)) ht)⟩
 |.block id b,k,cQ,w,s,ht=>⟨_,w,.refl _ _,s,.run hk hd he hs (.cons (.code (.block id b)) ht)⟩
 |.loop b,k,cQ,w,s,ht=>⟨_,w,.refl _ _,s,.run hk hd he hs (.cons (.code (.loop b)) ht)⟩
 |.exit id,k,cQ,w,s,ht=>⟨_,w,.refl _ _,s,.run hk hd he hs (.cons (.code (.exit id)) ht)⟩
 |.ret,k,cQ,w,s,ht=>⟨_,w,.refl _ _,s,.run hk hd he hs (.cons (.code .ret) ht)⟩
 |.scope b,k,cQ,w,s,ht=>⟨_,w,.refl _ _,s,.run hk hd he hs (.cons (.code (.scope b)) ht)⟩
 |.goto l,k,cQ,w,s,ht=>⟨_,w,.refl _ _,s,.run hk hd he hs (.cons (.code (.goto l)) ht)⟩
 |.refuse y,k,cQ,w,s,ht=>⟨_,w,.refl _ _,s,.run hk hd he hs (.cons (.code (.refuse y)) ht)⟩
 |.rangeFunc f ps a b,k,cQ,w,s,ht=>by
  have:fI (cS C.P fk.nt (b1 C.P fk.fn) (.rangeFunc f ps a b)) k=.code (cS C.P fk.nt (b1 C.P fk.fn) (.rangeFunc f ps a b))::k:=by
   simp only[cS];cases (ps.toList.all fun t=>Nat.blt t fk.nt)<;>rfl
  rw[this];exact⟨_,w,.refl _ _,s,.run hk hd he hs (.cons (.code (.rangeFunc f ps a b)) ht)⟩
end Go.Ev
