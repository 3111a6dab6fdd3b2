/- A part of the proof of glacislaw13.LiveOnce. -/
import Derived.Test.YtebhegkangheiaaGreatDoorOB
import Derived.Calls
import GoSem.Machine.Exec
namespace Go.Ev
variable{C:Cx} {U:AM} {Λ:Pa->Prop} {h:Hp} {ls:List LE} {w:World} {e:T V} {ρ:Operand->Value}
variable{P:Program} {I:Oper}
theorem yf (d:Nat):∀(r c:Nat),c<=2*d+768->Builtin.growBy d r c<=2*d+768
 |0,c,h=>h
 |r+1,c,h=>by
  simp only[Builtin.growBy];split
  ·exact h
  ·exact yf d r _ (by omega)
theorem yh (d aC:Nat) (h:aC<d):Builtin.nextslicecap d aC<=2*d+768:=by
 unfold Builtin.nextslicecap;split
 ·omega
 ·split
  ·omega
  ·exact yf d 4 aC (by omega)
theorem EB {aC new rest:Array Value} {j:Nat} {c:Value} (h:(aC.toList++new.toList)[j]? =some c):(aC++new++rest)[j]? =some c:=by
 have hj:j<(aC.toList++new.toList).length:=(dS.1 h).1;rw[p7 (by simpa using hj)];rw[<-p9];simpa using h
theorem aS.row (s:aS C U Λ h ls w) {l:List V} {d:List Value} (hl:bd U l d) {rest:Array Value} {aC new:Array Value} (he:aC.toList++new.toList=d) {el:TypeId} (_hsc:aY l=true)
 {n am cap:Nat} (hn:n<=cap) (D:(aC++new++rest).size=cap*am) {w':World} (hw:w'.heap=w.heap.push (.cells (aC++new++rest) el)) (B:jy w w'):
 aS C (U.put h.next ⟨w.heap.size,0,cap*am,false⟩) (fun x=>Λ x\/x=h.next) (h.alloc (.cells l false)) ls w'/\
  VR (U.put h.next ⟨w.heap.size,0,cap*am,false⟩) (.sl h.next 0 n (.un am)) (.slice (some ⟨w.heap.size,0,none⟩) n cap):=by
 have g:=s.ghost (.cells l false);have j:=s.iP;have A:=AM.iO (U:=U) (a:=h.next) (L:=⟨w.heap.size,0,cap*am,false⟩) j;refine⟨g.fill (a:=h.next) (b:=.cells l false) (top:=cap*am) j (by simp[bn.alloc,bn.get,T.ft]) ⟨by rw[hw];simp,fun i hi=>by rw[hw,Array.getElem?_push,ab (by omega)],B⟩ ?_,?_⟩
 ·refine⟨aC++new++rest,el,(0,0),by rw[hw];simp,D,.inl rfl,⟨?_,fun i v hv=>?_⟩,fun _=>aB 0⟩
  ·have o:=hl.length;have aj:(aC.toList++new.toList).length=d.length:=by rw[he]
   simp only[c2,Array.length_toList]at aj;simp only[rT];omega
  ·obtain⟨c,o,aj⟩:=hl.get hv;refine⟨c,?_,aj.mono A⟩;show(aC++new++rest)[0+i]? =some c;rw[eV];exact EB (by rw[he];exact o)
 ·exact .sl h.next 0 n (.un am) _ cap (AM.h2 _ _ _) hn (by simp[iN])
theorem aS.yi (s:aS C U Λ h ls w) {a:Pa} {L:Loc} {l:List V} (ha:U a=some L) (S:h.get a=some (.cells l false)) {w':World} (hw:gx w w' L.aw) {base:Nat} {m:List V} {dm:Bool}
 (ai:BR C.P (U.put h.next ⟨L.aw,base,L.top,dm⟩) ls h.next (.cells m false) ⟨L.aw,base,L.top,dm⟩ w'):
 aS C (U.put h.next ⟨L.aw,base,L.top,dm⟩) (fun x=>(Λ x/\x≠a)\/x=h.next) ((h.put a (.cells l true)).alloc (.cells m false)) ls w':=by
 have W:=s.iP;have G:Λ a:=by
  rcases s.live a L _ ha S with o|⟨m,o⟩
  ·exact o
  ·cases o
 have al:a≠h.next:=fun e=>by subst e;rw[W]at ha;cases ha
 have hN:C.N0<=L.aw:=s.wr a L _ ha G S rfl;have B:∀x,((h.put a (.cells l true)).alloc (.cells m false)).get x=if h.next=x then some (.cells m false)else if a=x then some (.cells l true)else h.get x:=fun x=>by
  simp[bn.alloc,bn.put,bn.get,T.ft]
 have I:((h.put a (.cells l true)).alloc (.cells m false)).next.toNat=h.next.toNat+1:=Pa.gm _;have aC:∀x M,(U.put h.next ⟨L.aw,base,L.top,dm⟩) x=some M->x≠h.next->U x=some M:=fun x M hx F=>by simpa[AM.put,F]using hx
 have new:∀M,(U.put h.next ⟨L.aw,base,L.top,dm⟩) h.next=some M->M=⟨L.aw,base,L.top,dm⟩:=fun M Q=>by simp[AM.put]at Q;exact Q.symm
 have ak:=AM.iO (U:=U) (a:=h.next) (L:=⟨L.aw,base,L.top,dm⟩) W;refine⟨fun x M hx=>?_,fun x M hx D=>?_,fun x y M K hx O D Y e R=>?_,fun x M c hx j=>?_,fun x M c hx D j hr=>?_,fun i hi=>?_,by rw[hw.1];exact s.size,s.still.trans hw.2.2,fun x hx=>?_,fun x y hx=>?_⟩
 ·rw[I];by_cases d:x=h.next
  ·subst d;omega
  ·exact nT (s.fQ x M (aC x M hx d))
 ·by_cases d:x=h.next
  ·subst d;rw[new M hx];exact⟨_,by rw[B];simp,ai⟩
  ·obtain⟨o,aj⟩:=D.resolve_right d;obtain⟨c,ag,ah⟩:=s.aw x M (aC x M hx d) o;refine⟨c,by rw[B,ab (Ne.symm d),ab (Ne.symm aj)];exact ag,ah.mono ak (fun _ _ h=>h) (hw.2.1 _ fun e=>?_)⟩;exact aj (s.inj a x L M ha (aC x M hx d) G o e.symm hN).symm
 ·by_cases d:x=h.next
  ·by_cases A:y=h.next
   ·rw[d,A]
   ·exfalso;obtain⟨o,aj⟩:=Y.resolve_right A;subst d;rw[new M hx]at e;exact aj (s.inj a y L K ha (aC y K O A) G o e hN).symm
  ·by_cases A:y=h.next
   ·exfalso;obtain⟨o,aj⟩:=D.resolve_right d;subst A;rw[new K O]at e;exact aj (s.inj x a M L (aC x M hx d) ha o G e R)
   ·exact s.inj x y M K (aC x M hx d) (aC y K O A) (D.resolve_right d).1 (Y.resolve_right A).1 e R
 ·by_cases d:x=h.next
  ·exact .inl (.inr d)
  ·by_cases F:x=a
   ·subst F;rw[B,ab (Ne.symm d),ae rfl]at j;exact .inr ⟨l,(rU j).symm⟩
   ·rw[B,ab (Ne.symm d),ab (Ne.symm F)]at j;rcases s.live x M c (aC x M hx d) j with o|o
    ·exact .inl (.inl ⟨o,F⟩)
    ·exact .inr o
 ·by_cases d:x=h.next
  ·subst d;rw[new M hx];exact hN
  ·obtain⟨o,aj⟩:=D.resolve_right d;rw[B,ab (Ne.symm d),ab (Ne.symm aj)]at j;exact s.wr x M c (aC x M hx d) o j hr
 ·rw[hw.2.1 i (by omega)];exact s.low i hi
 ·rw[I]at hx;have Z:h.next≠x:=fun e=>by subst e;omega
  have ac:a≠x:=fun e=>by subst e;have:=s.fQ a L ha;omega
  rw[B,ab Z,ab ac];exact s.fresh x (by omega)
 ·rw[I];exact nT (s.gS x y hx)
structure uW (P:Program) (w:World) (am n:Nat) (el:TypeId) (d9:Array Value) (sc:Value) (run:Result Value):Prop where
 place:∀base ca dR,sc=.slice base ca dR->ca+n<=dR->
  run=((match base with|some a=>storeCells (a.add (ca*am)) d9.toList|none=>(pure ():Sem Unit)).run P w).andThen fun _ w'=>.ok (.slice base (ca+n) dR) w'
 grow:∀base ca dR aC,sc=.slice base ca dR->dR<ca+n->ca+n<=1073741824->(Builtin.firstCells am ca sc).run P {w with drawn:=w.drawn+1}=.ok aC {w with drawn:=w.drawn+1}->
  ∃cap rest,ca+n<=cap/\rest.size=(cap-(ca+n))*am/\
   run=.ok (.slice (some ⟨w.heap.size,0,none⟩) (ca+n) cap) {w with drawn:=w.drawn+1,heap:=w.heap.push (.cells (aC++d9++rest) el)}
theorem EC {a b:List V} (h:aY (a++b)=true):aY b=true:=by
 induction a with
 |nil=>exact h
 |cons v a d=>
  simp only[k3,aY]at h;cases hv:isScalar v with
  |false=>simp[hv]at h
  |true=>simp only[hv,aE]at h;exact d h
theorem yj (s:aS C U Λ h ls w) {am n:Nat} {el:TypeId} {xs:List V} {xc:List Value} (hx:bd U xs xc) (aH:xc.length=n*am) (aR:0<am) {aK v:V} {sc:Value} (hs:VR U aK sc)
 {h':Hp} (hv:jX h am n xs aK=some (v,h')) {run:Result Value} (hr:uW P w am n el xc.toArray sc run):
 ∃c w' ac aM,run=.ok c w'/\U.le ac/\aS C ac aM h' ls w'/\VR ac v c/\(∀a,U a=none->ac a≠none->h.next.toNat<=a.toNat)/\h.next.toNat<=h'.next.toNat:=by
 have aZ:∀{L:Loc} (a:Pa),U a=none->(U.put h.next L) a≠none->h.next.toNat<=a.toNat:=by
  intro L a o aj;by_cases hn:a=h.next
  ·subst hn;exact aB _
  ·exact absurd (by simp[AM.put,hn,o]) aj
 have a1:∀{b:ak} {h0:Hp},h0.next=h.next->h.next.toNat<=(h0.alloc b).next.toNat:=by
  intro b h0 e;show _<=h0.next.succ.toNat;rw[Pa.gm,e];omega
 have grow:∀{h0:Hp} {base:Option Addr} {ca dR:Nat} {aC:List V} {oc:List Value},aS C U Λ h0 ls w->h0.next=h.next->sc=.slice base ca dR->dR<ca+n->bd U aC oc->oc.length=ca*am->
  (∀D:World,D.heap=w.heap->(Builtin.firstCells am ca sc).run P D=.ok oc.toArray D)->mc h0 am (ca+n) (aC++xs)=some (v,h')->
  ∃c w' ac aM,run=.ok c w'/\U.le ac/\aS C ac aM h' ls w'/\VR ac v c/\(∀a,U a=none->ac a≠none->h.next.toNat<=a.toNat)/\h.next.toNat<=h'.next.toNat:=by
  intro h0 base ca dR aC oc a6 aU aW bi hold aV be R;unfold mc at R;cases B:Nat.ble (ca+n) 1073741824 with
  |false=>simp[B]at R
  |true=>
   simp only[B,aE]at R;cases I:aY (aC++xs)with
   |false=>simp[I]at R
   |true=>
    simp only[I,aE,aL,dH]at R;obtain⟨rfl,rfl⟩:=R;obtain⟨cap,rest,Q,W,a8⟩:=hr.grow base ca dR oc.toArray aW bi (eT B) (be _ rfl);have bk:(oc.toArray++xc.toArray++rest).size=cap*am:=by
     simp only[rT,List.size_toArray,aV,aH,W];rw[<-iH,<-iH];congr 1;omega
    obtain⟨bs,bt⟩:=a6.row (rest:=rest) (aC:=oc.toArray) (new:=xc.toArray) (el:=el) (hold.append hx) (by simp) I Q bk (w':={w with drawn:=w.drawn+1,heap:=w.heap.push (.cells (oc.toArray++xc.toArray++rest) el)}) rfl ⟨rfl,rfl,rfl,ks _⟩;exact⟨_,_,_,_,a8,AM.iO a6.iP,bs,bt,by rw[aU];exact aZ,a1 aU⟩
 unfold jX at hv;cases aK<;>simp only at hv<;>(try(cases hv;done))
 ·rename_i a off m av;cases B:Nat.beq n 0 with
  |true=>
   have:=dG B;subst this;simp only[B,aE,aL,dH]at hv;obtain⟨rfl,rfl⟩:=hv;have aF:xc=[]:=e8 (by simpa using aH);subst aF;cases hs with
   |sl _ _ _ _ L capC ha o aj=>
    refine⟨_,w,U,Λ,?_,AM.le_refl U,s,.sl a off m av L capC ha o aj,fun a o aj=>absurd o aj,aB _⟩;rw[hr.place _ _ _ rfl (by omega)];simp[storeCells]
   |de _ _ _ bV j=>
    refine⟨_,w,U,Λ,?_,AM.le_refl U,s,.de a off av bV j,fun a o aj=>absurd o aj,aB _⟩;rw[hr.place _ _ _ rfl (by omega)];simp[storeCells]
  |false=>
   have aT:n≠0:=by intro an;subst an;simp at B
   simp only[B,bw]at hv;have bz:0<n*am:=Nat.mul_pos (Nat.pos_of_ne_zero aT) aR;have first:∀{aC:List V},h.b1 a off (m*am)=some aC->∃oc:List Value,bd U aC oc/\oc.length=m*am/\∀D:World,D.heap=w.heap->(Builtin.firstCells am m sc).run P D=.ok oc.toArray D:=by
    intro aC hold;cases hs with
    |sl _ _ _ _ L capC ha o aj=>
     obtain⟨cs,ag,k2,S⟩:=s.uD (P:=P) ha hold;exact⟨cs,k2,ag,S⟩
    |de _ _ _ bV j=>
     have bh:aC=[]:=by
      unfold bn.b1 at hold;cases aQ:h.cells a with
      |none=>simp[aQ]at hold
      |some m=>simp[aQ,takeN]at hold;exact hold
     subst bh;exact⟨[],.nil,by simp,fun D _=>by simp[Builtin.firstCells,loadCells,loadCellsFrom]⟩
   have aW:∃base capC,sc=.slice base m capC:=by cases hs<;>exact⟨_,_,rfl⟩
   cases av with
   |ex c=>
    simp only at hv;cases Y:Nat.ble (m+n) c with
    |true=>
     simp only[Y,aE]at hv;have G:=eT Y;cases M:h.cG a (off+m*am) xs with
     |none=>simp[M,oH]at hv
     |some o=>
      simp only[M,oH,aL,dH]at hv;obtain⟨rfl,rfl⟩:=hv;cases hs with
      |sl _ _ _ _ L capC ha ay aj=>
       simp only[iN]at aj;subst aj;obtain⟨w',ah,ai,al⟩:=s.cG (P:=P) ha hx M;refine⟨_,w',U,Λ,?_,AM.le_refl U,ai,.sl a off (m+n) (.ex capC) L capC ha G rfl,fun a o aj=>absurd o aj,by rw[al];exact aB _⟩;rw[hr.place _ _ _ rfl G];simp only[lu,gg];rw[ah];(try rfl)
      |de _ _ _ bV j=>
       have:=r4 j;omega
    |false=>
     simp only[Y,bw]at hv;have bg:c<m+n:=by
      rcases kr c (m+n)with o|o
      ·exact o
      ·rw[hA o]at Y;cases Y
     cases Z:h.b1 a off (m*am)with
     |none=>simp[Z]at hv
     |some aC=>
      simp only[Z]at hv;obtain⟨oc,ao,ap,ar⟩:=first Z
      have j:∃base,sc=.slice base m c:=by
       cases hs with
       |sl _ _ _ _ L capC ha ay aj=>simp only[iN]at aj;subst aj;exact⟨_,rfl⟩
       |de _ _ _ bV j=>have:=r4 j;subst this;exact⟨_,rfl⟩
      obtain⟨base,bj⟩:=j;exact grow s rfl bj bg ao ap ar hv
   |un A=>
    simp only at hv;cases aA:Nat.beq A am with
    |false=>simp[aA]at hv
    |true=>
     have:=dG aA;subst this;simp only[aA,aE]at hv;cases F:h.get a with
     |none=>simp[F]at hv
     |some b=>
      simp only[F]at hv;cases b<;>simp only at hv<;>(try(cases hv;done))
      rename_i l d;cases d with
      |true=>simp at hv
      |false=>
       simp only[bw]at hv;have bc:h.cells a=some l:=by simp[bn.cells,F]
       have aw:∀{L:Loc},U a=some L->∃cs O fr,w.heap[L.aw]? =some (.cells cs O fr)/\cs.size=L.top/\quietAt cs.size fr/\ky U l cs L.base/\uB L.dm fr:=by
        intro L ha;have bm:Λ a:=by
         rcases s.live a L _ ha F with o|⟨m,o⟩
         ·exact o
         ·cases o
        obtain⟨b',o,aj⟩:=s.aw a L ha bm;rw[F]at o;cases o;exact aj
       cases az:Nat.ble (off+(m+n)*A) l.length with
       |true=>
        simp only[az,aE]at hv;have G:=eT az;cases M:h.cG a (off+m*A) xs with
        |none=>simp[M,oH]at hv
        |some o=>
         simp only[M,oH,aL,dH]at hv;obtain⟨rfl,rfl⟩:=hv;cases hs with
         |sl _ _ _ _ L capC ha ay aj=>
          have aO:=aj;simp only[iN]at aO;obtain⟨cs,O,fr,ag,k2,S,⟨aX,_⟩,_⟩:=aw ha;have j:m+n<=capC:=by
           have:(m+n)*A<=capC*A:=by have:=aO.1;omega
           exact Nat.le_of_mul_le_mul_right this aR
          obtain⟨w',ah,ai,al⟩:=s.cG (P:=P) ha hx M;refine⟨_,w',U,Λ,?_,AM.le_refl U,ai,.sl a off (m+n) (.un A) L capC ha j aj,fun a o aj=>absurd o aj,by rw[al];exact aB _⟩;rw[hr.place _ _ _ rfl j];simp only[lu,gg];rw[ah];(try rfl)
         |de _ _ _ bV j=>
          exfalso;rcases j with j|⟨s',L,an,a7,bv⟩
          ·cases j
          ·obtain⟨cs,O,fr,ag,k2,S,⟨aX,_⟩,_⟩:=aw a7;rw[eV]at G;omega
       |false=>
        simp only[az,bw]at hv;cases au:takeN (m*A) (k8 off l)with
        |none=>simp[au]at hv
        |some aC=>
         simp only[au]at hv;have Z:h.b1 a off (m*A)=some aC:=by simp[bn.b1,bc,au]
         obtain⟨oc,ao,ap,ar⟩:=first Z
         cases hs with
         |de _ _ _ bV j=>
          exact grow (s.again F) rfl rfl (by omega) ao ap ar hv
         |sl _ _ _ _ L capC ha ay aj=>
          by_cases aD:m+n<=capC
          ·simp only[iN]at aj;obtain⟨cs,O,fr,ag,k2,S,⟨aX,bo⟩,bp⟩:=aw ha;obtain⟨aj,ba⟩:=aj;unfold mc at hv;cases aP:Nat.ble (m+n) 1073741824 with
           |false=>simp[aP]at hv
           |true=>
            simp only[aP,aE]at hv;cases I:aY (aC++xs)with
            |false=>simp[I]at hv
            |true=>
             simp only[I,aE,aL,dH]at hv;obtain⟨rfl,rfl⟩:=hv;have bl:aY xs=true:=EC I;have hmul:(m+n)*A<=capC*A:=o6 A aD;rw[iH]at hmul;obtain⟨w',cs',ah,ai,al,aJ,br⟩:=uU (P:=P) L.aw (L.base+off+m*A) O fr xs xc 0 w cs hx bl ag S (by omega);have G:=AM.iO (U:=U) (a:=h.next) (L:=⟨L.aw,L.base+off,L.top,L.dm⟩) s.iP;obtain⟨a2,aI⟩:=od au;rw[lq]at a2 aI;have aV:aC.length=m*A:=by rw[aI];simp at a2⊢;omega
             have bb:BR C.P (U.put h.next ⟨L.aw,L.base+off,L.top,L.dm⟩) ls h.next (.cells (aC++xs) false) ⟨L.aw,L.base+off,L.top,L.dm⟩ w':=by
              refine⟨cs',O,fr,ai,by rw[aJ];exact k2,by rw[aJ];exact S,⟨?_,fun i v hv=>?_⟩,bp⟩
              ·have:=hx.length;simp only[c2];rw[aJ];show L.base+off+(aC.length+xs.length)<=cs.size;omega
              ·show∃c,cs'[L.base+off+i]? =some c/\_;rw[br];by_cases hi:i<aC.length
               ·rw[ab (by omega)];rw[dt hi,aI,rM (by omega),gJ]at hv;obtain⟨c,Q,W⟩:=bo _ _ hv;exact⟨c,by rw[gg];exact Q,W.mono G⟩
               ·rw[db (by omega)]at hv;obtain⟨c,Q,W⟩:=hx.get hv;have bx:i-aC.length<xc.length:=(dS.1 Q).1;rw[ae (by omega)];have:L.base+off+i-(L.base+off+m*A+0)=i-aC.length:=by omega
                rw[this];exact⟨c,Q,W.mono G⟩
             refine⟨.slice (some ⟨L.aw,L.base+off,none⟩) (m+n) capC,w',_,_,?_,G,s.yi ha F al bb,?_,aZ,?_⟩
             ·rw[hr.place _ _ _ rfl aD];simp only[lu];rw[ah];(try rfl)
             ·have:=VR.sl (U:=U.put h.next ⟨L.aw,L.base+off,L.top,L.dm⟩) h.next 0 (m+n) (.un A) ⟨L.aw,L.base+off,L.top,L.dm⟩ capC (AM.h2 _ _ _) aD (by simp only[iN];exact⟨by omega,ba⟩);exact this
             ·exact a1 rfl
          ·exact grow (s.again F) rfl rfl (by omega) ao ap ar hv
 ·rename_i q;cases q<;>simp only at hv<;>(try(cases hv;done))
  cases hs;cases B:Nat.beq n 0 with
  |true=>
   have:=dG B;subst this;simp only[B,aE,aL,dH]at hv;obtain⟨rfl,rfl⟩:=hv;have aF:xc=[]:=e8 (by simpa using aH);subst aF;refine⟨_,w,U,Λ,?_,AM.le_refl U,s,.pv,fun a o aj=>absurd o aj,aB _⟩;rw[hr.place _ _ _ rfl (aB 0)];simp
  |false=>
   have aT:n≠0:=by intro an;subst an;simp at B
   simp only[B,bw]at hv;exact grow (aC:=[]) (oc:=[]) s rfl rfl (by omega) .nil (by simp) (fun D _=>by simp[Builtin.firstCells]) (by simpa using hv)
theorem uX (z:Array Value) (n:Nat):(Builtin.zeroCells z n).size=n*z.size:=by simp[Builtin.zeroCells]
theorem ED {c:Call} {t el:TypeId} {i:TypeInfo} {D sc B:Value} {n:Nat} {d9:Array Value} (ht:c.argTypes[0]? =some t) {j:TypeDesc} {L:TypeId} (I:c.argTypes[1]? =some L)
 (G:P.underlying L=some j) (U:∀k,j≠.int k) (hu:P.underlying t=some (.slice el)) (h:P.info? el=some i) (hz:i.zero=some D) (Y:D.cells.size=i.size) (M:i.bytes<=65536) (_hsz:0<i.size)
 (hn:∀d:World,d.heap=w.heap->(Builtin.lenOf B).run P d=.ok n d) (hx:∀d:World,d.heap=w.heap->(Builtin.firstCells i.size n B).run P d=.ok d9 d) (ty:TypeId):
 uW P w i.size n el d9 sc ((Builtin.append_ c.argTypes ty #[sc,B]).run P w):=by
 have hm:(match j with|.int _=>true|_=>false)=false:=by
  cases j<;>first|rfl|exact absurd rfl (U _)
 constructor
 ·intro base ca dR A R;subst A;simp only[Builtin.append_,ht,I,mW,gd,dF,Sem.run_bind,bk hu,Result.andThen_ok,fv h,bk G,Sem.run_pure,
   l1,if_false,hn w rfl,ae R,Bool.not_false,if_true,hx w rfl]
  cases base<;>simp
 ·intro base ca dR aC A S ag hold;subst A;have W:¬(ca+n<=dR):=by omega
  have o:¬(((ca+n:Nat):Int)>IntKind.i64.max/\(False\/i.bytes=0)):=by
   intro Q;have:IntKind.i64.max=9223372036854775807:=by decide
   rw[this]at Q;omega
  have aj:¬(Builtin.nextslicecap (ca+n) dR*i.bytes>2^48):=by
   have Z:=yh (ca+n) dR S;have ac:Builtin.nextslicecap (ca+n) dR*i.bytes<=2147484416*65536:=nW (by omega) M;omega
  simp only[Builtin.append_,ht,I,mW,gd,dF,Sem.run_bind,bk hu,Result.andThen_ok,fv h,bk G,Sem.run_pure,
   l1,if_false,hn w rfl,ab W,Bool.not_false,if_true,nq h]
  obtain⟨cap,F⟩:∃cap,cap=(Question.appendCap (ca+n) dR el).cut (w.tape w.drawn (.appendCap (ca+n) dR el)):=⟨_,rfl⟩
  have O:ca+n<=cap:=by rw[F];exact qe _ _
  refine⟨cap,Builtin.zeroCells D.cells (cap-(ca+n)),O,by rw[uX,Y],?_⟩;rw[ab o];simp only[Sem.run_bind,nq h,Result.andThen_ok,ab aj];rw[uT _ rfl,<-F];simp only[Result.andThen_ok,run_askRoom,hold];rw[hx {w with drawn:=w.drawn+1} rfl];simp only[Result.andThen_ok,iR h hz,oh,Sem.run_pure]
theorem EE {c:Call} {t el:TypeId} {i:TypeInfo} {h sc:Value} {k2:IntKind} {n:Nat} (ht:c.argTypes[0]? =some t) {R:IntKind} {Q:TypeId} (M:c.argTypes[1]? =some Q)
 (I:P.underlying Q=some (.int R)) (hu:P.underlying t=some (.slice el)) (d:P.info? el=some i) (hz:i.zero=some h) (ah:h.cells.size=i.size) (F:i.bytes<=65536) (_hby0:0<i.bytes)
 (am:0<i.size) (hn:n<=1073741824) (ty:TypeId):
 uW P w i.size n el (Builtin.zeroCells h.cells n) sc ((Builtin.append_ c.argTypes ty #[sc,.int k2 (.ofNat n)]).run P w):=by
 have hw:IntKind.i64.wrap (Int.ofNat n)=Int.ofNat n:=r6 .i64 n (show n<=9223372036854775807 by omega);have L:¬(Int.ofNat n<0):=by simp
 have D:¬(Int.ofNat n*(i.bytes:Int)>2^48):=by
  have o:n*i.bytes<=1073741824*65536:=nW hn F;have S:Int.ofNat n*(i.bytes:Int)=((n*i.bytes:Nat):Int):=(Int.natCast_mul _ _).symm;rw[S];omega
 have O:(Int.ofNat n).toNat=n:=rfl;have B:∀A:World,(if n*i.size=0 then(pure #[]:Sem (Array Value))else do pure (Builtin.zeroCells (<-zeroValue el).cells n)).run P A=.ok (Builtin.zeroCells h.cells n) A:=by
  intro A;by_cases h0:n*i.size=0
  ·have ac:n=0:=by
    rcases Nat.mul_eq_zero.1 h0 with o|o
    ·exact o
    ·omega
   subst ac;rw[ae (by simp)];simp[Builtin.zeroCells]
  ·rw[ab h0];simp[iR d hz]
 constructor
 ·intro base ca dR j Y;subst j;simp only[Builtin.append_,ht,M,mW,gd,dF,Sem.run_bind,bk hu,Result.andThen_ok,fv d,bk I,Sem.run_pure,if_true,asInt,asIntOf,hw,
   ab L,nq d,ab D,O,ae Y,l5,l1,if_false,B]
  cases base<;>simp
 ·intro base ca dR aC j Z al hold;subst j;have ag:¬(ca+n<=dR):=by omega
  have o:¬(((ca+n:Nat):Int)>IntKind.i64.max/\(True\/i.bytes=0)):=by
   intro W;have:IntKind.i64.max=9223372036854775807:=by decide
   rw[this]at W;omega
  have aj:¬(Builtin.nextslicecap (ca+n) dR*i.bytes>2^48):=by
   have ai:=yh (ca+n) dR Z;have ak:Builtin.nextslicecap (ca+n) dR*i.bytes<=2147484416*65536:=nW (by omega) F;omega
  obtain⟨cap,G⟩:∃cap,cap=(Question.appendCap (ca+n) dR el).cut (w.tape w.drawn (.appendCap (ca+n) dR el)):=⟨_,rfl⟩
  have U:ca+n<=cap:=by rw[G];exact qe _ _
  refine⟨cap,Builtin.zeroCells h.cells (cap-(ca+n)),U,by rw[uX,ah],?_⟩;simp only[Builtin.append_,ht,M,mW,gd,dF,Sem.run_bind,bk hu,Result.andThen_ok,fv d,bk I,Sem.run_pure,if_true,asInt,asIntOf,hw,
   ab L,nq d,ab D,O,ab ag,l5,l1,if_false]
  rw[ab o];simp only[Sem.run_bind,nq d,Result.andThen_ok,ab aj];rw[uT _ rfl,<-G];simp only[Result.andThen_ok,run_askRoom,hold,B,iR d hz,oh,Sem.run_pure]
end Go.Ev
namespace Go.Ev
variable{C:Cx} {U:AM} {Λ:Pa->Prop} {h:Hp} {ls:List LE} {w:World} {e:T V} {ρ:Operand->Value}
variable{P:Program} {I:Oper}
theorem EF {c:Call} {y z:Operand} {t L:TypeId} {i:TypeInfo} {B:TypeDesc} {j:Value} (ho:I.op=.call c) (hc:c.callee=.builtin .append) (ha:c.args.toList=[y,z]) (ht:c.argTypes[0]? =some t)
 (hi:elemOf? P t=some i) (Y:c.argTypes[1]? =some L) (Q:P.underlying L=some B) (W:∀k,B≠.int k) (hz:i.zero=some j) (Z:(dd j).cells.length=i.size) (O:i.bytes<=65536) (D:0<i.size):
 lA P I fun e h=>pj h i.size ((cO y).ev e) ((cO z).ev e):=by
 intro C U Λ h ls w e ρ v h' au s F hv;dsimp only at hv;obtain⟨el,hu,R⟩:=sj hi;have hx:=F y;have hw:=F z;generalize (cO y).ev e=d at hx hv;generalize (cO z).ev e=G at hw hv;unfold pj at hv;cases hk:hU G with
 |none=>simp[hk]at hv
 |some n=>
  simp only[hk]at hv;cases o:iK h i.size n G with
  |none=>simp[o]at hv
  |some xs=>
   simp only[o]at hv;have ab:j.cells.size=i.size:=by
    have:=(lz (U:=U) j).length;rw[Z]at this;simpa using this.symm
   obtain⟨xc,ae,ag,ah⟩:=ye (P:=P) s hw o (fun a' aw m' ar M=>by subst M;simp[hU]at hk;subst hk;exact aB _);have run:=ED (P:=P) (w:=w) (sc:=ρ y) ht Y Q W hu R hz ab O D (fun ao _=>yd (P:=P) (w:=ao) hw hk) ah I.type;obtain⟨A,w',ac,ap,ai,aj,ak,al,am,an⟩:=yj s ae ag D hx hv run;refine⟨.value A,A,w',ac,ap,?_,.inl rfl,aj,ak,al,am,an⟩;simp only[execOp,ho];obtain⟨av,S⟩:=ns (P:=P) (w:=w) (ρ:=ρ) (ty:=I.type) hc;rw[S,uV ha];simp only[builtin,l4,eD,l6];exact b5 ai
theorem EG {c:Call} {y z:Operand} {t O:TypeId} {i:TypeInfo} {Q:IntKind} {j:Value} (ho:I.op=.call c) (hc:c.callee=.builtin .append) (ha:c.args.toList=[y,z]) (ht:c.argTypes[0]? =some t)
 (hi:elemOf? P t=some i) (ab:c.argTypes[1]? =some O) (W:P.underlying O=some (.int Q)) (hz:i.zero=some j) (G:(dd j).cells.length=i.size) (R:i.bytes<=65536) (S:0<i.bytes) (F:0<i.size):
 lA P I fun e h=>pk h i.size (dd j).cells ((cO y).ev e) ((cO z).ev e):=by
 intro C U Λ h ls w e ρ v h' an s L hv;dsimp only at hv;obtain⟨el,hu,Y⟩:=sj hi;have hx:=L y;have hw:=L z;generalize (cO y).ev e=d at hx hv;generalize (cO z).ev e=M at hw hv;unfold pk at hv;cases hk:gj M with
 |none=>simp[hk]at hv
 |some n=>
  simp only[hk]at hv;cases o:Nat.ble n 1073741824 with
  |false=>simp[o]at hv
  |true=>
   simp only[o,aE]at hv;have A:j.cells.size=i.size:=by
    have:=(lz (U:=U) j).length;rw[G]at this;simpa using this.symm
   have D:=si (lz (U:=U) j) n;obtain⟨k2,ae⟩:∃k2,ρ z=.int k2 (.ofNat n):=by
    cases M<;>simp only[gj]at hk<;>(try(cases hk;done))
    rename_i k m;cases m<;>simp at hk
    subst hk;generalize ρ z=ec at hw;cases hw;exact⟨k,rfl⟩
   have run:=EE (P:=P) (w:=w) (sc:=ρ y) (k2:=k2) (n:=n) ht ab W hu Y hz A R S F (eT o) I.type;rw[G]at D;obtain⟨B,w',ac,am,ag,ah,ai,aj,ak,al⟩:=yj s (xc:=(Builtin.zeroCells j.cells n).toList) (by simpa[Builtin.zeroCells,A]using D) (by simp[uX,A]) F hx hv (by simpa using run);refine⟨.value B,B,w',ac,am,?_,.inl rfl,ah,ai,aj,ak,al⟩;simp only[execOp,ho];obtain⟨ao,Z⟩:=ns (P:=P) (w:=w) (ρ:=ρ) (ty:=I.type) hc;rw[Z,uV ha];simp only[builtin,l4,eD,l6,ae];exact b5 ag
theorem uY {b:Nat} {es:Array MapEntry} {k:Nat} (d:w.heap[b]? =some (.map es k)):(getObj b).run P w=.ok (.map es k) w:=by simp[getObj,Sem.run,d]
theorem uZ (s:aS C U Λ h ls w) {m:V} {c:Value} (hm:VR U m c) {r:Pa} {es:List (V×V×Nat)} {clock:Nat} (aj:h.jY m=some (r,es,clock)):
 ∃L j,U r=some L/\Λ r/\h.get r=some (.map es clock)/\c=.map (some L.aw)/\w.heap[L.aw]? =some (.map j clock)/\hJ U es j.toList:=by
 cases m<;>simp only[bn.jY]at aj<;>(try(cases aj;done))
 rename_i a;cases d:h.get a with
 |none=>simp[d]at aj
 |some b=>
  simp only[d]at aj;cases b<;>simp only at aj<;>(try(cases aj;done))
  cases aj;cases hm with
  |map _ L ha=>
   have B:Λ r:=by
    rcases s.live r L _ ha d with o|⟨m,o⟩
    ·exact o
    ·cases o
   obtain⟨b',A,I⟩:=s.aw r L ha B;rw[d]at A;cases A;obtain⟨j,D,F,G⟩:=I;refine⟨L,j,ha,B,d,rfl,D,by simpa using F,fun i t ht=>?_⟩;obtain⟨x,M,k2⟩:=G i t ht;exact⟨x,by simpa using M,k2⟩
theorem u0 (w:World) {b:Nat} {es:Array MapEntry} {k:Nat} {y:Obj} (d:w.heap[b]? =some (.map es k)):∃w',(setObj b y).run P w=.ok () w'/\gx w w' b/\w'.heap[b]? =some y:=by
 have h:=(gI.1 d).1;have hr:(setObj b y).run P w=.ok () {w with heap:=w.heap.setIfInBounds b y}:=by
  simp[setObj,Sem.run,d]
 refine⟨_,hr,⟨by simp,fun i hi=>kZ (Ne.symm hi),rfl,rfl,rfl,aB _⟩,?_⟩
 ·exact mU h
theorem hJ.push {es:List (V×V×Nat)} {d:Array MapEntry} (he:hJ U es d.toList) {k x:V} {j xc:Value} (hk:VR U k j) (hx:VR U x xc) (n:Nat):
 hJ U (es++[(k,x,n)]) (d.push {key:=j,val:=xc,born:=n}).toList:=by
 obtain⟨o,aj⟩:=he;refine⟨by simp at o⊢;exact o,fun i t ht=>?_⟩;by_cases hi:i<es.length
 ·rw[dt hi]at ht;obtain⟨y,A,k2⟩:=aj i t ht;exact⟨y,by rw[Array.toList_push,dt (by omega)];exact A,k2⟩
 ·rw[db (by omega)]at ht;have h:i-es.length=0:=by
   have:=(dS.1 ht).1;simp at this;omega
  rw[h]at ht;simp at ht;subst ht;exact⟨_,by rw[Array.toList_push,db (by omega),o,h];(try rfl),hk,hx,rfl⟩
theorem u1 (s:aS C U Λ h ls w) {r:Pa} {L:Loc} {es o:List (V×V×Nat)} {clock j:Nat} (ha:U r=some L) (D:Λ r) (B:h.get r=some (.map es clock)) {d:Array MapEntry} {w':World}
 (hw:gx w w' L.aw) (A:w'.heap[L.aw]? =some (.map d j)) (he:hJ U o d.toList):aS C U Λ (h.put r (.map o j)) ls w':=by
 refine s.oe ha D B rfl rfl hw ⟨d,A,by simpa using he.1,fun i t ht=>?_⟩;obtain⟨x,F,k2⟩:=he.2 i t ht;exact⟨x,by simpa using F,k2⟩
theorem EH {t d el:TypeId} {m k x:Operand} (ho:I.op=.mapUpdate t m k x) (ht:P.underlying t=some (.map d el)) (hq:c6 (a7 P d)=true):
 lA P I fun e h=>match h.jY ((cO m).ev e)with
  |some (r,es,clock)=>match(bif fits (a7 P d) ((cO k).ev e)then gw (a7 P d) ((cO k).ev e) es 0 else none)with
   |some f=>match f with
    |some _=>none
    |none=>some (cV,h.put r (.map (es++[((cO k).ev e,(cO x).ev e,clock)]) (clock+1)))
   |none=>none
  |none=>none:=by
 intro C U Λ h ls w e ρ v h' ac s A hv;dsimp only at hv;have hk:=A k;generalize (cO k).ev e=D at hk hv;cases hm:h.jY ((cO m).ev e)with
 |none=>simp[hm]at hv
 |some q=>
  obtain⟨r,es,clock⟩:=q;simp only[hm]at hv;cases j:fits (a7 P d) D with
  |false=>simp[j]at hv
  |true=>
   simp only[j,aE]at hv;cases hr:gw (a7 P d) D es 0 with
   |none=>simp[hr]at hv
   |some f=>
    cases f with
    |some f=>simp[hr]at hv
    |none=>
     simp only[hr,aL,dH]at hv;obtain⟨rfl,rfl⟩:=hv;obtain⟨L,G,ha,W,Q,R,B,he⟩:=uZ s (A m) hm;obtain⟨F,M,O⟩:=uR (P:=P) (w:=w) hk he hr hq;have S:F=none:=by cases F with|none=>rfl|some p=>exact O.elim
     subst S;have bX:∀b,(Instr.checkKey b 10000 d (ρ k)).run P w=.ok () w:=fun b=>uS hk j b;obtain⟨w',Y,Z,ab⟩:=u0 (P:=P) w (y:=.map (G.push {key:=ρ k,val:=ρ x,born:=clock}) (clock+1)) B;refine⟨.skip,undef,w',U,Λ,?_,.inr ⟨rfl,rfl⟩,AM.le_refl U,u1 s ha W Q Z ab (he.push hk (A x) clock),om U,fun a o aj=>absurd o aj,aB _⟩;simp only[execOp,ho];refine uI ?_;simp only[Instr.mapUpdate,R,Sem.run_bind,bk ht,Result.andThen_ok,uY B,bX,M,Y]
theorem EI {t d el:TypeId} {m k:Operand} {z:V} (ho:I.op=.mapEntry t m k) (ht:P.underlying t=some (.map d el)) (hz:hF P el=some z) (hq:c6 (a7 P d)=true):
 lA P I fun e h=>match h.jY ((cO m).ev e)with
  |some (r,es,clock)=>match(bif fits (a7 P d) ((cO k).ev e)then gw (a7 P d) ((cO k).ev e) es 0 else none)with
   |some f=>match f with
    |some _=>none
    |none=>some (.aN [z,.int .i64 (.ofNat clock)],h.put r (.map (es++[((cO k).ev e,z,clock)]) (clock+1)))
   |none=>none
  |none=>none:=by
 intro C U Λ h ls w e ρ v h' ag s D hv;dsimp only at hv;obtain⟨i,j,hi,Y,rfl⟩:=pw hz;have hk:=D k;generalize (cO k).ev e=F at hk hv;cases hm:h.jY ((cO m).ev e)with
 |none=>simp[hm]at hv
 |some q=>
  obtain⟨r,es,clock⟩:=q;simp only[hm]at hv;cases A:fits (a7 P d) F with
  |false=>simp[A]at hv
  |true=>
   simp only[A,aE]at hv;cases hr:gw (a7 P d) F es 0 with
   |none=>simp[hr]at hv
   |some f=>
    cases f with
    |some f=>simp[hr]at hv
    |none=>
     simp only[hr,aL,dH]at hv;obtain⟨rfl,rfl⟩:=hv;obtain⟨L,M,ha,Z,R,S,B,he⟩:=uZ s (D m) hm;obtain⟨G,O,Q⟩:=uR (P:=P) (w:=w) hk he hr hq;have W:G=none:=by cases G with|none=>rfl|some p=>exact Q.elim
     subst W;have bX:∀b,(Instr.checkKey b 10000 d (ρ k)).run P w=.ok () w:=fun b=>uS hk A b;obtain⟨w',ab,ac,ae⟩:=u0 (P:=P) w (y:=.map (M.push {key:=ρ k,val:=j,born:=clock}) (clock+1)) B;refine⟨.value (.tuple #[j,goInt clock]),.tuple #[j,goInt clock],w',U,Λ,?_,.inl rfl,AM.le_refl U,u1 s ha Z R ac ae (he.push hk (qC U j) clock),
      .aN _ _ (.cons _ _ _ _ (qC U j) (.cons _ _ _ _ (.int _ _) .nil)),fun a o aj=>absurd o aj,aB _⟩
     simp only[execOp,ho];refine b5 ?_;simp only[Instr.mapEntry,S,Sem.run_bind,bk ht,Result.andThen_ok,uY B,bX,O,ab,iR hi Y,Sem.run_pure]
theorem findIdx_eq {b:Nat}:∀{es:List (V×V×Nat)} {d:List MapEntry},hJ U es d->d.findIdx? (fun e=>(e.born:Int)==Int.ofNat b)=es.findIdx? (fun t=>Nat.beq t.2.2 b)
 |[],d,he=>by
  have:d=[]:=e8 (by simpa using he.1);subst this;rfl
 |t::es,d,he=>by
  obtain⟨x,r,rfl,o,aj,h,j⟩:=he.cons;simp only[List.findIdx?_cons,findIdx_eq j];have:((x.born:Int)==Int.ofNat b)=Nat.beq t.2.2 b:=by
   rw[h,kp,Nat.beq_eq];simp only[beq_iff_eq];exact Int.ofNat_inj
  rw[this]
theorem hJ.modify {es:List (V×V×Nat)} {d:Array MapEntry} (he:hJ U es d.toList) {x:V} {xc:Value} (hx:VR U x xc) (i:Nat):
 hJ U (es.modify i fun t=>(t.1,x,t.2.2)) (d.modify i fun e=>{e with val:=xc}).toList:=by
 obtain⟨o,aj⟩:=he;refine⟨by simp at o⊢;exact o,fun j t ht=>?_⟩;rw[rO]at ht;rw[p9,mX];cases hj:es[j]? with
 |none=>rw[hj]at ht;simp at ht
 |some u=>
  obtain⟨y,A,k2,D,B⟩:=aj j u hj;rw[p9]at A;rw[hj]at ht;rw[A];by_cases h:i=j
  ·simp[h]at ht⊢;subst ht;exact⟨k2,hx,B⟩
  ·simp[h]at ht⊢;subst ht;exact⟨k2,D,B⟩
theorem EJ {t:TypeId} {m s x:Operand} (ho:I.op=.entryStore t m s x):
 lA P I fun e h=>match h.jY ((cO m).ev e)with
  |some (r,es,clock)=>match gj ((cO s).ev e)with
   |some b=>match es.findIdx? (fun t=>Nat.beq t.2.2 b)with
    |some i=>some (cV,h.put r (.map (es.modify i fun t=>(t.1,(cO x).ev e,t.2.2)) clock))
    |none=>none
   |none=>none
  |none=>none:=by
 intro C U Λ h ls w e ρ v h' Y S A hv;dsimp only at hv;have hs:=A s;generalize (cO s).ev e=D at hs hv;cases hm:h.jY ((cO m).ev e)with
 |none=>simp[hm]at hv
 |some q=>
  obtain⟨r,es,clock⟩:=q;simp only[hm]at hv;cases hn:gj D with
  |none=>simp[hn]at hv
  |some b=>
   simp only[hn]at hv;cases hi:es.findIdx? (fun t=>Nat.beq t.2.2 b)with
   |none=>simp[hi]at hv
   |some i=>
    simp only[hi,aL,dH]at hv;obtain⟨rfl,rfl⟩:=hv;obtain⟨L,d,ha,O,G,M,B,he⟩:=uZ S (A m) hm;obtain⟨w',Q,R,W⟩:=u0 (P:=P) w (y:=.map (d.modify i fun e=>{e with val:=ρ x}) clock) B;have F:d.findIdx? (fun e=>(e.born:Int)==Int.ofNat b)=some i:=by
     cases d with|mk l=>rw[List.findIdx?_toArray,findIdx_eq he];exact hi
    refine⟨.skip,undef,w',U,Λ,?_,.inr ⟨rfl,rfl⟩,AM.le_refl U,u1 S ha O G R W (he.modify (A x) i),om U,fun a o aj=>absurd o aj,aB _⟩;have j:∃k,ρ s=.int k (.ofNat b):=by
     cases D<;>simp only[gj]at hn<;>(try(cases hn;done))
     rename_i k mm;cases mm<;>simp at hn
     subst hn;generalize ρ s=ec at hs;cases hs;exact⟨k,rfl⟩
    obtain⟨k,j⟩:=j;simp only[execOp,ho];refine uI ?_;simp only[Instr.entryStore,M,j,Sem.run_bind,Result.andThen_ok,uY B,asInt,asIntOf,Sem.run_pure,F,Q]
theorem EK {w:World} {b:Nat} {cs:Array Value} {el:TypeId} {fr:Nat×Nat} (d:w.heap[b]? =some (.cells cs el fr)) (hq:quietAt cs.size fr):
 ∃fr',(w.freeze ⟨b,cs.size,none⟩ 1).heap[b]? =some (.cells cs el fr')/\quietAt cs.size fr'/\gx w (w.freeze ⟨b,cs.size,none⟩ 1) b:=by
 obtain⟨lo,hi⟩:=fr;refine⟨if lo==hi then(cs.size,cs.size+1)else(min lo cs.size,max hi (cs.size+1)),?_,?_,x6,fun i hi=>x5 hi,qF _ _ _⟩
 ·unfold World.freeze;rw[ab (by decide)];simp only[mX,d,if_true];simp
 ·by_cases he:lo=hi
  ·subst he;simp only[beq_self_eq_true,if_true];exact .inr (aB _)
  ·have:(lo==hi)=false:=by simpa using he
   rw[this];simp only[l1,if_false];rcases hq with o|o
   ·exact absurd o he
   ·exact .inr (by simp only at o⊢;omega)
theorem EL {B A el:TypeId} {x:Operand} (ho:I.op=.convert B A x) {F:TypeId} (hs:P.underlying B=some (.slice F)) (hd:P.underlying A=some (.slice el)) (ae:Nat.beq B A=true) (he:P.underlying el=some (.int .u8)):
 lA P I fun e h=>ug h ((cO x).ev e):=by
 intro C U Λ h ls w e ρ v h' al s ah hv;have dl:=dG ae;dsimp only at hv;have hx:=ah x;generalize (cO x).ev e=a at hx hv;cases a<;>simp only[ug]at hv<;>(try(cases hv;done))
 rename_i a off n c;cases hn:Nat.beq n 0 with
 |true=>simp[hn]at hv
 |false=>
 simp only[hn,bw]at hv;cases hc:r0 c with
 |none=>simp[hc]at hv
 |some D=>
 simp only[hc]at hv;cases j:h.get a with
 |none=>simp[j]at hv
 |some b=>
 simp only[j]at hv;cases b<;>simp only at hv<;>(try(cases hv;done))
 rename_i l d;cases d with
 |true=>simp at hv
 |false=>
 simp only[bw,aL,dH]at hv;obtain⟨rfl,rfl⟩:=hv;generalize hq:ρ x=q at hx;cases hx with
 |de _ _ _ bV _=>exact absurd hn (by decide)
 |sl _ _ _ _ L capC ha o aj=>
 have ag:Λ a:=by
  rcases s.live a L _ ha j with o|⟨m,o⟩
  ·exact o
  ·cases o
 obtain⟨b',M,Z⟩:=s.aw a L ha ag;rw[j]at M;cases M;obtain⟨cs,G,fr,R,k2,ai,ak,_⟩:=Z;obtain⟨fr',S,W,Y⟩:=EK R ai;have O:=AM.iO (U:=U) (a:=h.next) (L:=⟨L.aw,L.base,L.top,true⟩) s.iP;have ab:BR C.P (U.put h.next ⟨L.aw,L.base,L.top,true⟩) ls h.next (.cells l false) ⟨L.aw,L.base,L.top,true⟩ (w.freeze ⟨L.aw,cs.size,none⟩ 1):=
  ⟨cs,G,fr',S,k2,W,ak.mono O,fun h=>by cases h⟩
 refine⟨.value (.slice (some ⟨L.aw,L.base+off,none⟩) n capC),_,w.freeze ⟨L.aw,cs.size,none⟩ 1,_,_,?_,.inl rfl,O,s.yi ha j Y ab,?_,?_,?_⟩
 ·simp only[execOp,ho,hq];refine b5 ?_;have hm:w.shape? L.aw=some (G,cs.size):=by simp[World.shape?,R]
  subst dl;simp only[convert,Sem.run_bind,bk hs,Result.andThen_ok];have:el=F:=by rw[hs]at hd;cases hd;rfl
  subst this;simp only[bk he,Result.andThen_ok,beq_self_eq_true,markStringish,Sem.run_bind,run_shape,hm,run_freeze,Sem.run_pure]
 ·have ac:iN ⟨L.aw,L.base,L.top,true⟩ off capC D:=by
   cases c with
   |ex k=>simp only[r0,aL]at hc;subst hc;exact aj
   |un k=>
    simp only[r0]at hc;cases hk:Nat.beq k 1 with
    |false=>simp[hk]at hc
    |true=>
     have:=dG hk;subst this;simp only[hk,aE,aL]at hc;subst hc;exact⟨aj.1,.inl rfl⟩
  exact VR.sl (U:=U.put h.next ⟨L.aw,L.base,L.top,true⟩) h.next off n D ⟨L.aw,L.base,L.top,true⟩ capC (AM.h2 _ _ _) o ac
 ·intro a' o aj;by_cases Q:a'=h.next
  ·subst Q;exact aB _
  ·exact absurd (by simp[AM.put,Q,o]) aj
 ·show _<=h.next.succ.toNat;rw[Pa.gm];omega
theorem EM {f:T V->Hp->Option (V×Hp)} (hc:cm P I.op=.st f):lA P I f:=by
 cases h:I.op<;>rw[h]at hc<;>simp only[cm]at hc<;>(try(cases hc;done))
 case build t ps=>repeat' (first|(cases hc;done)|split at hc)
 case buildSlice t len ps=>repeat' (first|(cases hc;done)|split at hc)
 case load t a=>split at hc<;>cases hc
 case alloc t=>split at hc<;>cases hc
 case store t a v=>
  split at hc
  ·rename_i n hn;cases hc;exact Ew h hn
  ·cases hc
 case binOp op t x y W=>
  split at hc
  ·cases G:(eo x||eo y)<;>rw[G]at hc<;>cases hc
  ·cases hc
 case convert s d x=>
  unfold lh at hc;split at hc
  ·repeat' (first|(cases hc;done)|split at hc)
  ·repeat' (first|(cases hc;done)|split at hc)
  ·rename_i el hd;split at hc
   ·repeat' (first|(cases hc;done)|split at hc)
   ·rename_i R hs;cases j:Nat.beq s d with
    |false=>rw[j]at hc;cases hc
    |true=>
     rw[j]at hc;simp only[aE]at hc;split at hc
     ·rename_i he;cases hc;exact EL h hs hd j he
     ·cases hc
   ·cases hc
  ·cases hc
 case makeInterface t x=>repeat' (first|(cases hc;done)|split at hc)
 case makeFunc fn first a2=>
  cases fn<;>simp only at hc<;>(try(cases hc;done))
  repeat' (first|(cases hc;done)|split at hc)
 case makeMap t r=>cases r<;>cases hc
 case makeSlice t l c=>repeat' (first|(cases hc;done)|split at hc)
 case slice t x lo hi mx=>
  split at hc
  ·cases mx with
   |none=>simp only at hc;split at hc<;>cases hc
   |some m=>cases hc
  ·cases mx<;>cases hc
  ·split at hc
   ·cases hm:(mx.isSome&&hi.isNone)<;>rw[hm]at hc<;>cases hc
   ·cases hc
  ·cases hc
 case fieldAddr t x k=>repeat' (first|(cases hc;done)|split at hc)
 case field t x k=>repeat' (first|(cases hc;done)|split at hc)
 case indexAddr t x i=>repeat' (first|(cases hc;done)|split at hc)
 case index t x i=>repeat' (first|(cases hc;done)|split at hc)
 case lookup t x i ok=>
  split at hc
  ·rename_i k el hu;split at hc
   ·cases hq:c6 (a7 P k)<;>rw[hq]at hc<;>cases hc
   ·cases hc
  ·cases hc
 case mapUpdate t m k v=>
  split at hc
  ·rename_i D el hu;cases hq:c6 (a7 P D)<;>rw[hq]at hc<;>cases hc
   exact EH h hu hq
  ·cases hc
 case mapEntry t m k=>
  split at hc
  ·rename_i D el hu;split at hc
   ·rename_i z hz;cases hq:c6 (a7 P D)<;>rw[hq]at hc<;>cases hc
    exact EI h hu hz hq
   ·cases hc
  ·cases hc
 case entryStore t m s x=>cases hc;exact EJ h
 case typeAssert x U t ok=>repeat' (first|(cases hc;done)|split at hc)
 case defer c=>repeat' (first|(cases hc;done)|split at hc)
 case call c=>
  split at hc
  ·rename_i b j;cases b<;>simp only[kx]at hc<;>(try(cases hc;done))
   case len=>repeat' (first|(cases hc;done)|split at hc)
   case cap=>repeat' (first|(cases hc;done)|split at hc)
   case max=>repeat' (first|(cases hc;done)|split at hc)
   case min=>repeat' (first|(cases hc;done)|split at hc)
   case panic=>repeat' (first|(cases hc;done)|split at hc)
   case copy=>
    split at hc
    ·rename_i d s hl;obtain⟨y,m,A,rfl,hm⟩:=nu hl;obtain⟨z,rfl,rfl⟩:=kA hm.symm;split at hc
     ·rename_i i hi;cases hc;rw[gf]at hi;obtain⟨t,ht,hi⟩:=hi;exact Ez h j A ht hi
     ·cases hc
    ·cases hc
   case clear=>
    split at hc
    ·rename_i x hl;obtain⟨y,A,rfl⟩:=kA hl;split at hc
     ·rename_i i hi;split at hc
      ·rename_i z hz;cases hc;rw[gf]at hi;obtain⟨t,ht,hi⟩:=hi;exact EA h j A ht hi hz
      ·cases hc
     ·cases hc
    ·cases hc
   case append=>
    split at hc
    ·rename_i d s hl;obtain⟨y,m,A,rfl,hm⟩:=nu hl;obtain⟨z,rfl,rfl⟩:=kA hm.symm;split at hc
     ·rename_i i hi;rw[gf]at hi;obtain⟨t,ht,hi⟩:=hi;split at hc
      ·rename_i k hk;rw[gf]at hk;obtain⟨M,B,hk⟩:=hk;split at hc
       ·rename_i O hz;split at hc
        ·rename_i o;cases hc;exact EG h j A ht hi B hk hz o.2.2.2 o.1 o.2.1 o.2.2.1
        ·cases hc
       ·cases hc
      ·rename_i Q L hk;rw[gf]at hk;obtain⟨M,B,hk⟩:=hk;split at hc
       ·rename_i O hz;split at hc
        ·rename_i o;cases hc;exact EF h j A ht hi B hk (fun k F=>L k (by rw[F])) hz o.2.2 o.1 o.2.1
        ·cases hc
       ·cases hc
      ·cases hc
     ·cases hc
    ·cases hc
  ·rename_i g S;cases g<;>cases hc
  ·cases hc
end Go.Ev
namespace Go.Ev
variable{P:Program} {I:Oper} {e e':T V} {h h':Hp}
def fS (e e':T V) (l:List Operand):Prop:=∀x∈l,(cO x).ev e=(cO x).ev e'
theorem sk:∀{l:List Operand},fS e e' l->di e (l.map cO)=di e' (l.map cO)
 |[],_=>rfl
 |x::l,hs=>by
  simp only[eD,di];rw[hs x (by simp),sk (fun y d=>hs y (by simp[d]))]
theorem u2 (b:Bool):∀{l:List Operand} (v:V),fS e e' l->la b e (l.map cO) v=la b e' (l.map cO) v
 |[],_,_=>rfl
 |x::l,v,hs=>by
  simp only[eD,la];rw[hs x (by simp)];cases mm b v ((cO x).ev e')with
  |none=>rfl
  |some z=>exact u2 b z (fun y d=>hs y (by simp[d]))
theorem u3 {x:Option Operand} (hs:∀y,x=some y->(cO y).ev e=(cO y).ev e'):aZ e (x.map cO)=aZ e' (x.map cO):=by
 cases x with
 |none=>rfl
 |some y=>simp only[dM,aZ];rw[hs y rfl]
theorem sm {place:Nat->Option (Nat×Nat)}:∀{ps:List (Nat×Operand)} {l:List (Nat×Nat×Od)} {z:List V},hW place ps=some l->fS e e' (ps.map (·.2))->gN e l z=gN e' l z
 |[],l,z,hp,_=>by simp[hW]at hp;subst hp;rfl
 |(i,x)::ps,l,z,hp,hs=>by
  simp only[hW]at hp;cases o:place i with
  |none=>simp[o]at hp
  |some on=>
   obtain⟨a,n⟩:=on;simp only[o]at hp;cases aj:hW place ps with
   |none=>simp[aj]at hp
   |some l'=>
    simp only[aj,aL]at hp;subst hp;simp only[gN];rw[hs x (by simp)];cases Nat.beq ((cO x).ev e').cells.length n<;>simp only[bw,aE]
    cases aY ((cO x).ev e').cells<;>simp only[bw,aE]
    cases cT a z ((cO x).ev e').cells with
    |none=>rfl
    |some z'=>exact sm aj (fun y d=>hs y (by simp[d]))
theorem EN {b:Builtin} {c:Call} {f:T V->Hp->Option V} (hc:kx P b (c.args.toList.map cO) c.argTypes=.pu f) (hs:fS e e' c.args.toList):f e h=f e' h':=by
 cases b<;>simp only[kx]at hc<;>(try(cases hc;done))
 case append=>repeat' (first|(cases hc;done)|split at hc)
 case clear=>repeat' (first|(cases hc;done)|split at hc)
 case copy=>repeat' (first|(cases hc;done)|split at hc)
 case panic=>repeat' (first|(cases hc;done)|split at hc)
 case len=>
  split at hc
  ·rename_i x hx;obtain⟨y,d,rfl⟩:=kA hx;have:=hs y (by simp[d]);split at hc
   ·cases hc;simp only[this]
   ·cases hc;simp only[this]
   ·cases hc
  ·cases hc
 case cap=>
  split at hc
  ·rename_i x hx;obtain⟨y,d,rfl⟩:=kA hx;have:=hs y (by simp[d]);split at hc
   ·cases hc;simp only[this]
   ·cases hc
  ·cases hc
 case max=>
  split at hc
  ·rename_i x r hx;obtain⟨y,m,d,rfl,rfl⟩:=nu hx;cases hc;rw[d]at hs;simp only[hs y (by simp)];exact u2 _ _ (fun z hz=>hs z (by simp[hz]))
  ·cases hc
 case min=>
  split at hc
  ·rename_i x r hx;obtain⟨y,m,d,rfl,rfl⟩:=nu hx;cases hc;rw[d]at hs;simp only[hs y (by simp)];exact u2 _ _ (fun z hz=>hs z (by simp[hz]))
  ·cases hc
theorem qG {f:T V->Hp->Option V} (hc:cm P I.op=.pu f) (hs:fS e e' I.op.operands.toList) (A:hX I.op=true->h=h'):f e h=f e' h':=by
 cases Q:I.op<;>rw[Q]at hc hs A<;>simp only[cm]at hc<;>(try(cases hc;done))<;>simp only[Op.operands]at hs
 case move x=>cases hc;simp only[hs x (by simp)]
 case assign x=>cases hc;simp only[hs x (by simp)]
 case pick c a b=>cases hc;simp only[hs c (by simp),hs a (by simp),hs b (by simp)]
 case alloc t=>split at hc<;>cases hc
 case build t ps=>
  have L:fS e e' (ps.toList.map (·.2)):=by simpa using hs
  split at hc
  ·split at hc
   ·split at hc
    ·rename_i l hl;cases hc;simp only[sm hl L]
    ·cases hc
   ·cases hc
  ·split at hc
   ·split at hc
    ·split at hc
     ·rename_i l hl;cases hc;simp only[sm hl L]
     ·cases hc
    ·cases hc
   ·cases hc
  ·cases hc
 case buildSlice t len ps=>repeat' (first|(cases hc;done)|split at hc)
 case load t a=>
  have:=A rfl;subst this;split at hc
  ·cases hc;simp only[hs a (by simp)]
  ·cases hc
 case store t a v=>split at hc<;>cases hc
 case nilCheck x=>cases hc;simp only[hs x (by simp)]
 case binOp op t x y U=>
  have o:=hs x (by simp);have aj:=hs y (by simp);split at hc
  ·cases G:(eo x||eo y)with
   |false=>rw[G]at hc;cases hc
   |true=>rw[G]at hc;cases hc;simp only[o,aj]
  ·cases hc;simp only[o,aj]
 case unOp op t x=>cases hc;simp only[hs x (by simp)]
 case convert s d x=>
  have o:=hs x (by simp);have:=A rfl;subst this;unfold lh at hc;split at hc
  ·split at hc
   ·cases hc;simp only[o]
   ·cases hc
  ·split at hc
   ·cases hc;simp only[o]
   ·split at hc
    ·cases hc;simp only[o]
    ·cases hc
   ·cases hc
  ·repeat' (first|(cases hc;done)|split at hc)
   all_goals (cases D:Nat.beq s d<;>rw[D]at hc<;>cases hc)
  ·cases hc
 case makeInterface t x=>
  split at hc
  ·cases hc
  ·cases hc;simp only[hs x (by simp)]
  ·cases hc
 case makeFunc fn first a2=>
  cases fn<;>simp only at hc<;>(try(cases hc;done))
  split at hc
  ·cases hc;simp only[sk (l:=a2.toList) (fun y j=>hs y (by simp at j⊢;exact .inr j))]
  ·cases hc
 case makeMap t r=>cases r<;>cases hc
 case makeSlice t l c=>repeat' (first|(cases hc;done)|split at hc)
 case slice t x lo hi mx=>
  have o:=hs x (by simp);have aj:aZ e (lo.map cO)=aZ e' (lo.map cO):=u3 fun y j=>hs y (by simp[j]);have B:aZ e (hi.map cO)=aZ e' (hi.map cO):=u3 fun y j=>hs y (by simp[j]);have O:aZ e (mx.map cO)=aZ e' (mx.map cO):=u3 fun y j=>hs y (by simp[j]);split at hc
  ·cases mx with
   |none=>
    simp only at hc;split at hc
    ·cases hc;simp only[o,aj,B]
    ·cases hc
   |some m=>cases hc
  ·cases mx with
   |none=>cases hc;simp only[o,aj,B]
   |some m=>cases hc
  ·split at hc
   ·cases hm:(mx.isSome&&hi.isNone)with
    |true=>rw[hm]at hc;cases hc
    |false=>rw[hm]at hc;cases hc;have M:=A rfl;subst M;simp only[o,aj,B,O]
   ·cases hc
  ·cases hc
 case fieldAddr t x k=>
  have o:=hs x (by simp);split at hc
  ·split at hc
   ·split at hc
    ·cases hc;simp only[o]
    ·cases hc
   ·cases hc
  ·cases hc
 case field t x k=>
  have o:=hs x (by simp);split at hc
  ·split at hc
   ·split at hc
    ·cases hc;simp only[o]
    ·cases hc
   ·cases hc
  ·cases hc
 case indexAddr t x i=>
  have o:=hs x (by simp);have aj:=hs i (by simp);split at hc
  ·split at hc
   ·cases hc;simp only[o,aj]
   ·cases hc
  ·split at hc
   ·cases hc;simp only[o,aj]
   ·cases hc
  ·cases hc
 case index t x i=>
  have o:=hs x (by simp);have aj:=hs i (by simp);split at hc
  ·cases hc;simp only[o,aj]
  ·split at hc
   ·split at hc
    ·cases hc;simp only[o,aj]
    ·cases hc
   ·cases hc
  ·cases hc
 case lookup t x i ok=>
  have:=A rfl;subst this;have o:=hs x (by simp);have aj:=hs i (by simp);split at hc
  ·rename_i k el hu;split at hc
   ·cases hq:c6 (a7 P k)with
    |false=>rw[hq]at hc;cases hc
    |true=>rw[hq]at hc;cases hc;simp only[o,aj]
   ·cases hc
  ·cases hc
 case mapUpdate t m k v=>
  split at hc
  ·rename_i F el hu;cases hq:c6 (a7 P F)<;>rw[hq]at hc<;>cases hc
  ·cases hc
 case mapEntry t m k=>
  split at hc
  ·rename_i F el hu;split at hc
   ·cases hq:c6 (a7 P F)<;>rw[hq]at hc<;>cases hc
   ·cases hc
  ·cases hc
 case typeAssert x S t ok=>
  have o:=hs x (by simp);split at hc
  ·cases hc
  ·split at hc
   ·cases hc;simp only[o]
   ·cases hc
  ·cases hc
 case extract x i=>cases hc;simp only[hs x (by simp)]
 case call c=>
  split at hc
  ·rename_i b D;refine EN hc (fun x hx=>hs x ?_);simp only[Call.operands,D];simpa using hx
  ·rename_i g R;cases g<;>cases hc
  ·cases hc
 case defer c=>repeat' (first|(cases hc;done)|split at hc)
theorem sn {f:T V->Option (ak×(Pa->V))} (hc:cm P I.op=.cY f) (hs:fS e e' I.op.operands.toList):f e=f e':=by
 cases B:I.op<;>rw[B]at hc hs<;>simp only[cm]at hc<;>(try(cases hc;done))<;>simp only[Op.operands]at hs
 case alloc t=>
  split at hc
  ·cases hc;rfl
  ·cases hc
 case box t x=>cases hc;simp only[hs x (by simp)]
 case build t ps=>repeat' (first|(cases hc;done)|split at hc)
 case buildSlice t len ps=>
  have D:fS e e' (ps.toList.map (·.2)):=by simpa using hs
  split at hc
  ·split at hc
   ·split at hc
    ·split at hc
     ·rename_i l hl;cases hc;simp only[sm hl D]
     ·cases hc
    ·cases hc
   ·cases hc
  ·cases hc
 case load t a=>split at hc<;>cases hc
 case store t a v=>split at hc<;>cases hc
 case binOp op t x y L=>
  split at hc
  ·cases A:(eo x||eo y)<;>rw[A]at hc<;>cases hc
  ·cases hc
 case convert s d x=>
  have o:=hs x (by simp);unfold lh at hc;split at hc
  ·repeat' (first|(cases hc;done)|split at hc)
  ·repeat' (first|(cases hc;done)|split at hc)
  ·split at hc
   ·split at hc
    ·cases hc;simp only[o]
    ·cases hc
   ·cases h:Nat.beq s d with
    |false=>rw[h]at hc;cases hc
    |true=>
     rw[h]at hc;simp only[aE]at hc;split at hc<;>cases hc
   ·cases hc
  ·cases hc
 case makeInterface t x=>repeat' (first|(cases hc;done)|split at hc)
 case makeFunc fn first a2=>
  cases fn<;>simp only at hc<;>(try(cases hc;done))
  repeat' (first|(cases hc;done)|split at hc)
 case makeMap t r=>
  cases r with
  |none=>cases hc;rfl
  |some r=>cases hc
 case makeSlice t l c=>
  have o:=hs l (by simp);have aj:=hs c (by simp);split at hc
  ·split at hc
   ·split at hc
    ·cases hc;simp only[o,aj]
    ·cases hc
   ·cases hc
  ·cases hc
 case slice t x lo hi mx=>
  split at hc
  ·cases mx with
   |none=>simp only at hc;split at hc<;>cases hc
   |some m=>cases hc
  ·cases mx<;>cases hc
  ·split at hc
   ·cases hm:(mx.isSome&&hi.isNone)<;>rw[hm]at hc<;>cases hc
   ·cases hc
  ·cases hc
 case fieldAddr t x k=>repeat' (first|(cases hc;done)|split at hc)
 case field t x k=>repeat' (first|(cases hc;done)|split at hc)
 case indexAddr t x i=>repeat' (first|(cases hc;done)|split at hc)
 case index t x i=>repeat' (first|(cases hc;done)|split at hc)
 case lookup t x i ok=>
  split at hc
  ·rename_i k el hu;split at hc
   ·cases hq:c6 (a7 P k)<;>rw[hq]at hc<;>cases hc
   ·cases hc
  ·cases hc
 case mapUpdate t m k v=>
  split at hc
  ·rename_i j el hu;cases hq:c6 (a7 P j)<;>rw[hq]at hc<;>cases hc
  ·cases hc
 case mapEntry t m k=>
  split at hc
  ·rename_i j el hu;split at hc
   ·cases hq:c6 (a7 P j)<;>rw[hq]at hc<;>cases hc
   ·cases hc
  ·cases hc
 case typeAssert x G t ok=>repeat' (first|(cases hc;done)|split at hc)
 case call c=>
  split at hc
  ·rename_i b h;cases b<;>simp only[kx]at hc<;>(try(cases hc;done))<;>repeat' (first|(cases hc;done)|split at hc)
  ·rename_i g F;cases g<;>cases hc
  ·cases hc
 case defer c=>repeat' (first|(cases hc;done)|split at hc)
theorem EO {f:T V->Hp->Option (V×Hp)} (hc:cm P I.op=.st f) (hs:fS e e' I.op.operands.toList):f e h=f e' h:=by
 cases L:I.op<;>rw[L]at hc hs<;>simp only[cm]at hc<;>(try(cases hc;done))<;>simp only[Op.operands]at hs
 case build t ps=>repeat' (first|(cases hc;done)|split at hc)
 case buildSlice t len ps=>repeat' (first|(cases hc;done)|split at hc)
 case load t a=>split at hc<;>cases hc
 case alloc t=>split at hc<;>cases hc
 case store t a v=>
  have o:=hs a (by simp);have aj:=hs v (by simp);split at hc
  ·cases hc;simp only[o,aj]
  ·cases hc
 case binOp op t x y Q=>
  split at hc
  ·cases G:(eo x||eo y)<;>rw[G]at hc<;>cases hc
  ·cases hc
 case convert s d x=>
  have o:=hs x (by simp);unfold lh at hc;split at hc
  ·repeat' (first|(cases hc;done)|split at hc)
  ·repeat' (first|(cases hc;done)|split at hc)
  ·split at hc
   ·repeat' (first|(cases hc;done)|split at hc)
   ·cases B:Nat.beq s d with
    |false=>rw[B]at hc;cases hc
    |true=>
     rw[B]at hc;simp only[aE]at hc;split at hc
     ·cases hc;simp only[o]
     ·cases hc
   ·cases hc
  ·cases hc
 case makeInterface t x=>repeat' (first|(cases hc;done)|split at hc)
 case makeFunc fn first a2=>
  cases fn<;>simp only at hc<;>(try(cases hc;done))
  repeat' (first|(cases hc;done)|split at hc)
 case makeMap t r=>cases r<;>cases hc
 case makeSlice t l c=>repeat' (first|(cases hc;done)|split at hc)
 case slice t x lo hi mx=>
  split at hc
  ·cases mx with
   |none=>simp only at hc;split at hc<;>cases hc
   |some m=>cases hc
  ·cases mx<;>cases hc
  ·split at hc
   ·cases hm:(mx.isSome&&hi.isNone)<;>rw[hm]at hc<;>cases hc
   ·cases hc
  ·cases hc
 case fieldAddr t x k=>repeat' (first|(cases hc;done)|split at hc)
 case field t x k=>repeat' (first|(cases hc;done)|split at hc)
 case indexAddr t x i=>repeat' (first|(cases hc;done)|split at hc)
 case index t x i=>repeat' (first|(cases hc;done)|split at hc)
 case lookup t x i ok=>
  split at hc
  ·rename_i k el hu;split at hc
   ·cases hq:c6 (a7 P k)<;>rw[hq]at hc<;>cases hc
   ·cases hc
  ·cases hc
 case mapUpdate t m k v=>
  have o:=hs m (by simp);have aj:=hs k (by simp);have D:=hs v (by simp);split at hc
  ·rename_i F el hu;cases hq:c6 (a7 P F)<;>rw[hq]at hc<;>cases hc
   simp only[o,aj,D]
  ·cases hc
 case mapEntry t m k=>
  have o:=hs m (by simp);have aj:=hs k (by simp);split at hc
  ·rename_i F el hu;split at hc
   ·rename_i z hz;cases hq:c6 (a7 P F)<;>rw[hq]at hc<;>cases hc
    simp only[o,aj]
   ·cases hc
  ·cases hc
 case entryStore t m s x=>
  have o:=hs m (by simp);have aj:=hs s (by simp);have D:=hs x (by simp);cases hc;simp only[o,aj,D]
 case typeAssert x O t ok=>repeat' (first|(cases hc;done)|split at hc)
 case defer c=>repeat' (first|(cases hc;done)|split at hc)
 case call c=>
  split at hc
  ·rename_i b B;have A:fS e e' c.args.toList:=fun x hx=>hs x (by simp only[Call.operands,B];simpa using hx);cases b<;>simp only[kx]at hc<;>(try(cases hc;done))
   case len=>repeat' (first|(cases hc;done)|split at hc)
   case cap=>repeat' (first|(cases hc;done)|split at hc)
   case max=>repeat' (first|(cases hc;done)|split at hc)
   case min=>repeat' (first|(cases hc;done)|split at hc)
   case panic=>repeat' (first|(cases hc;done)|split at hc)
   case copy=>
    split at hc
    ·rename_i d s hl;obtain⟨y,m,j,rfl,hm⟩:=nu hl;obtain⟨z,rfl,rfl⟩:=kA hm.symm;have o:=A y (by simp[j]);have aj:=A z (by simp[j]);split at hc
     ·cases hc;simp only[o,aj]
     ·cases hc
    ·cases hc
   case clear=>
    split at hc
    ·rename_i x hl;obtain⟨y,j,rfl⟩:=kA hl;have o:=A y (by simp[j]);split at hc
     ·split at hc
      ·cases hc;simp only[o]
      ·cases hc
     ·cases hc
    ·cases hc
   case append=>
    split at hc
    ·rename_i d s hl;obtain⟨y,m,j,rfl,hm⟩:=nu hl;obtain⟨z,rfl,rfl⟩:=kA hm.symm;have o:=A y (by simp[j]);have aj:=A z (by simp[j]);split at hc
     ·split at hc
      ·split at hc
       ·split at hc
        ·cases hc;simp only[o,aj]
        ·cases hc
       ·cases hc
      ·split at hc
       ·split at hc
        ·cases hc;simp only[o,aj]
        ·cases hc
       ·cases hc
      ·cases hc
     ·cases hc
    ·cases hc
  ·rename_i g M;cases g<;>cases hc
  ·cases hc
end Go.Ev
namespace Go.Ev
variable{P:Program}
structure CK where
 fn:Nat
 kind:CallKind
 round:Option Nat
def CK.fr (K:CK) (tmps:Array Value) (todo:List Go.Item) (ds:List Deferred) (m:FrameMode):Frame:=
 {fn:=K.fn,tmps,todo,defers:=ds,mode:=m,kind:=K.kind,roundOf:=K.round}
def cJ (tmps:Array Value):Operand->Value
 |.tmp t=>tmps.getD t undef
 |.const v=>v
 |.global g=>.pointer (some ⟨g,0,none⟩)
 |.func f=>.func (.func f) #[] #[]
theorem CK.eval (K:CK) (tmps:Array Value) (todo:List Go.Item) (ds:List Deferred) (m:FrameMode):(K.fr tmps todo ds m).eval=cJ tmps:=by
 funext x;cases x<;>rfl
def iS (tmps:Array Value) (dst:Option Tmp) (c:Value):Array Value:=
 match dst with
 |some d=>tmps.setIfInBounds d c
 |none=>tmps
theorem qH (tmps:Array Value) (dst:Option Tmp) (c:Value):(iS tmps dst c).size=tmps.size:=by cases dst<;>simp[iS]
section
variable{K:CK} {tmps:Array Value} {ds:List Deferred} {k:List Go.Item} {cs:List Frame} {w w':World} {ops:Array Oper} {i:Nat} {rest:List Nat} {I:Oper}
theorem qI (ho:ops[i]? =some I) (v:Value):(K.fr tmps (.inRegion ops (i::rest)::k) ds .run).finish v=K.fr (iS tmps I.dst v) (.inRegion ops rest::k) ds .run:=by
 cases h:I.dst<;>simp[Frame.finish,CK.fr,iS,ho,h]
theorem oo (ho:ops[i]? =some I) (hw:Region.wanted I (yielded ops tmps)=true) (d:K.round=none\/∀c,I.op≠.defer c):
 stepG P true {frame:=K.fr tmps (.inRegion ops (i::rest)::k) ds .run,callers:=cs,status:=.running,dying:=none} w=
  stepG.apply P true (K.fr tmps (.inRegion ops (i::rest)::k) ds .run) cs none (execOp (cJ tmps) I) w:=by
 have he:=CK.eval K tmps (.inRegion ops (i::rest)::k) ds .run;simp only[CK.fr]at he;simp only[stepG,stepG.exec,CK.fr,ho,dM,hw,kq,if_true,stepG.oper,Frame.oper?,he];rcases d with h|h
 ·rw[h]
 ·split
  ·exact absurd (by assumption) (h _)
  ·rfl
theorem qJ (ho:ops[i]? =some I) (hw:Region.wanted I (yielded ops tmps)=true) (d:∀c,I.op≠.defer c) {n:Next} {c:Value} (hr:(execOp (cJ tmps) I).run P w=.ok n w') (hn:x8 n c):
 Go.step P (lone (K.fr tmps (.inRegion ops (i::rest)::k) ds .run) cs w)=.next (lone (K.fr (iS tmps I.dst c) (.inRegion ops rest::k) ds .run) cs w'):=by
 refine step_lone_go ?_;rw[oo ho hw (.inr d),<-qI ho];rcases hn with rfl|⟨rfl,rfl⟩<;>simp[stepG.apply,hr]
theorem yk (ho:ops[i]? =some I) (hw:Region.wanted I (yielded ops tmps)=false):
 Go.step P (lone (K.fr tmps (.inRegion ops (i::rest)::k) ds .run) cs w)=.next (lone (K.fr (iS tmps I.dst undef) (.inRegion ops rest::k) ds .run) cs w):=by
 refine step_lone_go ?_;rw[<-qI ho];simp only[CK.fr];simp[stepG,stepG.exec,ho,hw]
theorem ER:Go.step P (lone (K.fr tmps (.inRegion ops []::k) ds .run) cs w)=.next (lone (K.fr tmps k ds .run) cs w):=
 step_lone_go (by simp[stepG,stepG.exec,CK.fr])
end
def cB (U:AM) (e:T V) (tmps:Array Value) (X:Nat->Prop):Prop:=
 ∀p v,e.get p=some v->¬X p.toNat->∃c,tmps[p.toNat]? =some c/\VR U v c
theorem cB.mono {U ac:AM} (d:U.le ac) {e:T V} {tmps:Array Value} {X:Nat->Prop} (h:cB U e tmps X):cB ac e tmps X:=
 fun p v hp hx=>let⟨c,o,aj⟩:=h p v hp hx;⟨c,o,aj.mono d⟩
theorem cB.all {U:AM} {e:T V} {tmps:Array Value} {X:Nat->Prop} (h:cB U e tmps X) (hx:∀t,¬X t):eG U e tmps:=
 fun p v hp=>h p v hp (hx _)
theorem u4 (p:Pa):pa p.toNat=p:=Pa.toNat_inj (fu _)
theorem mj (e:T V) (v:V) (dst:Option Nat) (p:Pa):(e.put v (dst.map pa)).get p=if dst=some p.toNat then some v else e.get p:=by
 cases dst with
 |none=>simp[T.put]
 |some d=>
  simp only[dM,T.put,T.ft,aL];by_cases h:pa d=p
  ·have:d=p.toNat:=by rw[<-h,fu]
   rw[ae h,ae this]
  ·rw[ab h,ab (fun j=>h (by rw[j,u4]))]
theorem cB.put {U:AM} {e:T V} {tmps:Array Value} {X:Nat->Prop} (h:cB U e tmps X) {v:V} {c:Value} (hv:VR U v c) {dst:Option Nat} (hd:∀d,dst=some d->d<tmps.size):
 cB U (e.put v (dst.map pa)) (iS tmps dst c) X:=by
 intro p u hp hx;rw[mj]at hp;cases dst with
 |none=>simp at hp;exact h p u hp hx
 |some d=>
  simp only[iS];by_cases j:d=p.toNat
  ·rw[ae (by rw[j])]at hp;cases hp;exact⟨c,by rw[<-j,mU (hd d rfl)],hv⟩
  ·rw[ab (by simpa using j)]at hp;rw[kZ j];exact h p u hp hx
theorem cB.fill {U:AM} {e:T V} {tmps:Array Value} {X Y:Nat->Prop} (h:cB U e tmps X) {d:Nat} {v:V} {c:Value} (he:e.get (pa d)=some v) (hv:VR U v c) (hd:d<tmps.size) (B:∀t,X t->Y t\/t=d):
 cB U e (iS tmps (some d) c) Y:=by
 intro p u hp hx;simp only[iS];by_cases j:d=p.toNat
 ·rw[j,u4]at he;rw[he]at hp;cases hp;exact⟨c,by rw[<-j,mU hd],hv⟩
 ·rw[kZ j];exact h p u hp (fun A=>(B _ A).elim hx (fun o=>j o.symm))
theorem cB.ghost {U:AM} {e:T V} {tmps:Array Value} {X Y:Nat->Prop} (h:cB U e tmps X) (v:V) {d:Nat} (j:∀t,X t\/t=d->Y t):cB U (e.put v (some (pa d))) tmps Y:=by
 intro p u hp hx;have:=mj e v (some d) p;rw[dM]at this;rw[this]at hp;by_cases o:d=p.toNat
 ·exact absurd (j _ (.inr o.symm)) hx
 ·rw[ab (by simpa using o)]at hp;exact h p u hp (fun A=>hx (j _ (.inl A)))
noncomputable def bL (e:T V):List Nat->T V
 |[]=>.E
 |t::l=>match e.get (pa t)with
  |some v=>(bL e l).set v (pa t)
  |none=>bL e l
theorem so (e:T V):∀(l:List Nat) (p:Pa),(bL e l).get p=if p.toNat∈l then e.get p else none
 |[],p=>by simp only[bL,tZ,if_false];cases p<;>rfl
 |t::l,p=>by
  simp only[bL];have j:=so e l p;by_cases d:pa t=p
  ·have o:p.toNat=t:=by rw[<-d,fu]
   rw[ae (by simp[o])];cases hv:e.get (pa t)with
   |some v=>simp only[T.ft,d,if_true];rw[<-d,hv]
   |none=>
    simp only;rw[j];split
    ·rfl
    ·rw[<-d,hv]
  ·have o:p.toNat≠t:=fun h=>d (by rw[<-h,u4]);have aj:(p.toNat∈t::l)↔p.toNat∈l:=by simp[o]
   simp only[aj];cases hv:e.get (pa t)with
   |some v=>simp only[T.ft,d,if_false];exact j
   |none=>exact j
theorem cB.bL {U:AM} {e:T V} {tmps:Array Value} {X:Nat->Prop} (h:cB U e tmps X) {l:List Nat} (hl:∀t∈l,¬X t):eG U (Ev.bL e l) tmps:=by
 intro p v hp;rw[so]at hp;split at hp
 ·exact h p v hp (hl _ (by assumption))
 ·cases hp
theorem ES {x:Operand} {t:Nat} (h:n4 x=some t):x=.tmp t:=by
 cases x<;>simp[n4]at h;exact congrArg _ h
theorem ET (e:T V) {l:List Nat} {xs:List Operand} (hl:∀t,.tmp t∈xs->t∈l):fS (bL e l) e xs:=by
 intro x hx;cases x with
 |tmp t=>
  simp only[cO,Od.ev,T.val];rw[so,ae (by rw[fu];exact hl t hx)]
 |_=>rfl
theorem sp {U:AM} {e:T V} {tmps:Array Value} (h:eG U e tmps):gn U e (cJ tmps):=by
 have:=Dh (a:=⟨tmps,[]⟩) h;intro x;have aj:=this x;cases x<;>exact aj
theorem cB.ops {U:AM} {e:T V} {tmps:Array Value} {X:Nat->Prop} (h:cB U e tmps X) {xs:List Operand} (hl:∀t,.tmp t∈xs->¬X t):
 ∃d,gn U d (cJ tmps)/\fS d e xs:=
 ⟨Ev.bL e (xs.filterMap n4),sp (h.bL fun t ht=>by
   obtain⟨x,o,aj⟩:=List.mem_filterMap.1 ht;exact hl t (ES aj▸o)),ET e fun t ht=>List.mem_filterMap.2 ⟨_,ht,rfl⟩⟩
def oq (ops:Array Oper) (g:Option (Pa×Bool)) (c:Option (Nat×Bool)):Prop:=
 (c=none/\g=none)\/∃j b d,c=some (j,b)/\nh ops j=some d/\g=some (pa d,b)
theorem yl (P:Program) (nt:Nat) (ops:Array Oper) (I:Oper):
 (∃n d,eW P nt ops I=⟨d,a6 n,none⟩)\/∃g,eW P nt ops I=⟨I.dst.map pa,cm P I.op,g⟩/\(∀d,I.dst=some d->d<nt)/\oq ops g I.guard:=by
 unfold eW;have hd:∀h:pq nt I=true,∀d,I.dst=some d->d<nt:=by
  intro h d hd;simp only[pq,hd]at h;exact kl (jV d) (eT h)
 cases B:I.guard with
 |none=>
  simp only;cases h:pq nt I with
  |false=>exact .inl ⟨23,_,rfl⟩
  |true=>exact .inr ⟨none,rfl,hd h,.inl ⟨rfl,rfl⟩⟩
 |some A=>
  obtain⟨j,b⟩:=A;simp only;cases o:nh ops j with
  |none=>exact .inl ⟨22,_,rfl⟩
  |some d=>
   simp only;cases h:pq nt I with
   |false=>exact .inl ⟨23,_,rfl⟩
   |true=>exact .inr ⟨_,rfl,hd h,.inr ⟨j,b,d,rfl,o,rfl⟩⟩
theorem ym (a b:Bool):pf a b=(a==b):=by cases a<;>cases b<;>rfl
theorem yn {U:AM} {e:T V} {tmps:Array Value} {X:Nat->Prop} (h:cB U e tmps X) {ops:Array Oper} {I:Oper} {g:Option (Pa×Bool)} (D:oq ops g I.guard)
 (B:∀j b d,I.guard=some (j,b)->nh ops j=some d->¬X d):
 (eb e g=.yes->Region.wanted I (yielded ops tmps)=true)/\(eb e g=.no->Region.wanted I (yielded ops tmps)=false):=by
 rcases D with⟨o,rfl⟩|⟨j,b,d,o,aj,rfl⟩
 ·simp[eb,Region.wanted,o]
 ·simp only[eb,Region.wanted,o];cases hv:e.get (pa d)with
  |none=>simp
  |some v=>
   obtain⟨c,A,k2⟩:=h _ _ hv (by rw[fu];exact B j b d o aj);rw[fu]at A;unfold nh at aj;cases v<;>simp only<;>(try(simp;done))
   ·cases k2;simp only[yielded,aj,l3,A,ym];rename_i b';cases b'<;>cases b<;>simp
   ·cases k2;simp[yielded,aj,A]
theorem yo {ops:Array Oper} {I:Oper} {t:Nat} (h:.tmp t∈I.op.operands.toList):t∈dP ops I:=by
 have:t∈I.op.operands.toList.filterMap n4:=List.mem_filterMap.2 ⟨_,h,rfl⟩;unfold dP;split
 ·exact this
 ·split
  ·exact cR _ this
  ·exact this
theorem yp {ops:Array Oper} {I:Oper} {j:Nat} {b:Bool} {d:Nat} (h:I.guard=some (j,b)) (hd:nh ops j=some d):d∈dP ops I:=by
 unfold dP;simp[h,hd]
end Go.Ev
namespace Go.Ev
variable{P:Program} {nt:Nat} {ops:Array Oper} {A:Nat->Prop}
theorem EU {a b:List UInt8} (h:jW a b=true):a=b:=by rw[lv]at h;simpa using h
theorem EV {a b:fM} (h:uw a b=true):a=b:=by
 cases a<;>cases b<;>simp[uw]at h<;>rw[h]
theorem EW {a b:NK} (h:ux a b=true):a=b:=by cases a<;>cases b<;>simp[ux]at h<;>rfl
theorem yq {a b:V} (h:c7 a b=true):a=b:=by
 cases a<;>cases b<;>simp only[c7,be]at h<;>(try(cases h;done))
 ·rw[ym]at h;simp at h;rw[h]
 ·obtain⟨o,aj⟩:=h;rw[h3]at aj;simp at aj;rw[qD o,aj]
 ·rw[EU h]
 ·obtain⟨o,aj⟩:=h;rw[(Pa.beq_iff _ _).1 o,dG aj]
 ·obtain⟨⟨o,aj⟩,d,j⟩:=h;rw[(Pa.beq_iff _ _).1 o,dG aj,dG d,EV j]
 ·rw[EW h]
 ·rw[(Pa.beq_iff _ _).1 h]
theorem sq:∀{a b:List V},b9 a b=true->a=b
 |[],b,h=>by cases b<;>simp[b9]at h;rfl
 |x::a,b,h=>by
  cases b with
  |nil=>simp[b9]at h
  |cons y b=>
   simp only[b9]at h;cases hs:c7 x y with
   |false=>simp[hs]at h
   |true=>simp only[hs,aE]at h;rw[yq hs,sq h]
theorem yr {a b:V} (h:same a b=true):a=b:=by
 cases a<;>simp only[same]at h<;>(try exact yq h)
 ·cases b<;>simp only at h<;>(try(cases h;done))
  rw[sq h]
 ·cases b<;>simp only at h<;>(try(cases h;done))
  rw[sq h]
theorem EX {a b:ak} (h:uy a b=true):a=b:=by
 cases a<;>simp only[uy]at h<;>(try(cases h;done))
 ·rename_i l d;cases b<;>simp only at h<;>(try(cases h;done))
  rename_i m d';cases d<;>cases d'<;>simp at h
  rw[sq h]
 ·rename_i es c;cases b<;>simp only at h<;>(try(cases h;done))
  rename_i fs k;cases hk:Nat.beq c k with
  |false=>simp[hk]at h
  |true=>
   simp only[hk,aE]at h;cases es<;>cases fs<;>simp at h
   rw[dG hk]
theorem u5 {I:Oper} {f:T V->Option (ak×(Pa->V))} (hc:cm P I.op=.cY f) {e:T V} {b:ak} {mk:Pa->V} (h:f e=some (b,mk)) (a:Pa):ln (mk a)=some a/\hX I.op=true:=by
 cases B:I.op<;>rw[B]at hc<;>simp only[cm]at hc<;>(try(cases hc;done))
 case alloc t=>
  split at hc
  ·cases hc;simp at h;obtain⟨_,rfl⟩:=h;exact⟨rfl,rfl⟩
  ·cases hc
 case box t x=>
  cases hc;simp only at h;cases hs:aY ((cO x).ev e).cells<;>simp[hs]at h
  obtain⟨_,rfl⟩:=h;exact⟨rfl,rfl⟩
 case build t ps=>repeat' (first|(cases hc;done)|split at hc)
 case buildSlice t len ps=>
  split at hc
  ·split at hc
   ·split at hc
    ·split at hc
     ·cases hc;simp only at h;split at h
      ·rename_i l _;cases hs:aY l<;>simp[hs]at h
       obtain⟨_,rfl⟩:=h;exact⟨rfl,rfl⟩
      ·cases h
     ·cases hc
    ·cases hc
   ·cases hc
  ·cases hc
 case load t a=>split at hc<;>cases hc
 case store t a v=>split at hc<;>cases hc
 case binOp op t x y L=>
  split at hc
  ·cases A:(eo x||eo y)<;>rw[A]at hc<;>cases hc
  ·cases hc
 case convert s d x=>
  unfold lh at hc;split at hc
  ·repeat' (first|(cases hc;done)|split at hc)
  ·repeat' (first|(cases hc;done)|split at hc)
  ·split at hc
   ·split at hc
    ·cases hc;simp only at h;split at h
     ·simp at h;obtain⟨_,rfl⟩:=h;exact⟨rfl,rfl⟩
     ·cases h
    ·cases hc
   ·cases j:Nat.beq s d with
    |false=>rw[j]at hc;cases hc
    |true=>
     rw[j]at hc;simp only[aE]at hc;split at hc<;>cases hc
   ·cases hc
  ·cases hc
 case makeInterface t x=>repeat' (first|(cases hc;done)|split at hc)
 case makeFunc fn first a2=>
  cases fn<;>simp only at hc<;>(try(cases hc;done))
  repeat' (first|(cases hc;done)|split at hc)
 case makeMap t r=>
  cases r with
  |none=>cases hc;simp at h;obtain⟨_,rfl⟩:=h;exact⟨rfl,rfl⟩
  |some r=>cases hc
 case makeSlice t l c=>
  split at hc
  ·split at hc
   ·split at hc
    ·cases hc;simp only at h;split at h
     ·split at h
      ·rename_i D _;rename_i l' _ _;revert h;generalize (Nat.ble _ _&&_)=q;intro h;cases q<;>simp at h
       obtain⟨_,rfl⟩:=h;exact⟨rfl,rfl⟩
      ·cases h
     ·cases h
    ·cases hc
   ·cases hc
  ·cases hc
 case slice t x lo hi mx=>
  split at hc
  ·cases mx with
   |none=>simp only at hc;split at hc<;>cases hc
   |some m=>cases hc
  ·cases mx<;>cases hc
  ·split at hc
   ·cases hm:(mx.isSome&&hi.isNone)<;>rw[hm]at hc<;>cases hc
   ·cases hc
  ·cases hc
 case fieldAddr t x k=>repeat' (first|(cases hc;done)|split at hc)
 case field t x k=>repeat' (first|(cases hc;done)|split at hc)
 case indexAddr t x i=>repeat' (first|(cases hc;done)|split at hc)
 case index t x i=>repeat' (first|(cases hc;done)|split at hc)
 case lookup t x i ok=>
  split at hc
  ·rename_i k el hu;split at hc
   ·cases hq:c6 (a7 P k)<;>rw[hq]at hc<;>cases hc
   ·cases hc
  ·cases hc
 case mapUpdate t m k v=>
  split at hc
  ·rename_i o el hu;cases hq:c6 (a7 P o)<;>rw[hq]at hc<;>cases hc
  ·cases hc
 case mapEntry t m k=>
  split at hc
  ·rename_i o el hu;split at hc
   ·cases hq:c6 (a7 P o)<;>rw[hq]at hc<;>cases hc
   ·cases hc
  ·cases hc
 case typeAssert x G t ok=>repeat' (first|(cases hc;done)|split at hc)
 case call c=>
  split at hc
  ·rename_i b j;cases b<;>simp only[kx]at hc<;>(try(cases hc;done))<;>repeat' (first|(cases hc;done)|split at hc)
  ·rename_i g F;cases g<;>cases hc
  ·cases hc
 case defer c=>repeat' (first|(cases hc;done)|split at hc)
inductive gT (P:Program) (nt:Nat) (ops:Array Oper) (A:Nat->Prop):List (RS ak)->List Nat->(Nat->Prop)->Prop
 |done {p:Nat->Prop} (hp:∀j,¬p j):gT P nt ops A [] [] p
 |stop {rs:List (RS ak)} {L:List Nat} {p:Nat->Prop} (n:Nat) (d:Option Pa):gT P nt ops A (.op ⟨d,a6 n,none⟩::rs) L p
 |ghost {rs:List (RS ak)} {L:List Nat} {p q:Nat->Prop} (i d:Nat) (I:Oper) (ho:ops[i]? =some I) (hN:j0 P nt ops I=true) (hd:I.dst=some d) (fd:d∉dP ops I) (d7:A d) (hp:¬p i)
   (qK:∀j oj,p j->ops[j]? =some oj->oj.dst≠some d/\d∉dP ops oj) (hq:∀j,q j↔(j=i\/p j)) (next:gT P nt ops A rs L q):gT P nt ops A (.op (eW P nt ops I)::rs) L p
 |fill {rs:List (RS ak)} {L:List Nat} {p q:Nat->Prop} (i:Nat) (I:Oper) (ho:ops[i]? =some I) (hp:p i)
   (hn:∀j oj t,p j->ops[j]? =some oj->oj.dst=some t->t∉dP ops I) (hq:∀j,q j↔(j≠i/\p j)) (next:gT P nt ops A rs L q):gT P nt ops A rs (i::L) p
 |dY {rs:List (RS ak)} {chks:List (RO ak)} {L:List Nat} {p:Nat->Prop} (i:Nat) (I:Oper) (ho:ops[i]? =some I)
   (hn:∀j oj t,p j->ops[j]? =some oj->oj.dst=some t->t∉dP ops I/\I.dst≠some t)
   (hk:∀j oj,p j->ops[j]? =some oj->eW P nt ops oj∈chks\/(hX oj.op=false/\∀d,I.dst=some d->d∉dP ops oj)) (next:gT P nt ops A rs L p):
   gT P nt ops A (.op (eW P nt ops I)::(chks.map .bX++rs)) (i::L) p
def kB (ops:Array Oper) (p:Nat->Prop) (t:Nat):Prop:=∃j oj,p j/\ops[j]? =some oj/\oj.dst=some t
structure qL (P:Program) (nt:Nat) (ops:Array Oper) (A:Nat->Prop) (j:Nat) (I:Oper) (d:Nat) (g:Option (Pa×Bool)):Prop where
 at_:ops[j]? =some I
 dst:I.dst=some d
 lt:d<nt
 ro:eW P nt ops I=⟨some (pa d),cm P I.op,g⟩
 guard:oq ops g I.guard
 OM:∀x,I.op≠.assign x
 may:A d
def py (P:Program) (U:AM) (e:T V) (h:Hp) (m:Nat) (I:Oper) (d:Nat):Prop:=
 ∀f v a,cm P I.op=.cY f->e.get (pa d)=some v->ln v=some a->U a=none/\m<=a.toNat/\a.toNat<h.next.toNat
def hK (P:Program) (e:T V) (h:Hp) (I:Oper) (d:Nat) (g:Option (Pa×Bool)):Prop:=
 (eb e g=.no/\e.get (pa d)=some cV)\/
 (eb e g=.yes/\((∃f v,cm P I.op=.pu f/\f e h=some v/\e.get (pa d)=some v)\/
   (∃f b mk a,cm P I.op=.cY f/\f e=some (b,mk)/\e.get (pa d)=some (mk a)/\h.get a=some b)))
def lB (P:Program) (nt:Nat) (ops:Array Oper) (A:Nat->Prop) (U:AM) (e:T V) (h:Hp) (m j:Nat):Prop:=
 ∃I d g,qL P nt ops A j I d g/\py P U e h m I d/\hK P e h I d g
def iT (P:Program) (nt:Nat) (ops:Array Oper) (A:Nat->Prop) (chks:List (RO ak)) (U:AM) (e:T V) (h:Hp) (m j:Nat):Prop:=
 ∃I d g,qL P nt ops A j I d g/\py P U e h m I d/\(eW P nt ops I∈chks\/(hX I.op=false/\hK P e h I d g))
def ml (P:Program) (ops:Array Oper) (e:T V) (p:Nat->Prop):Prop:=
 ∀i j oi oj d h A B cD o a,p i->p j->i≠j->ops[i]? =some oi->ops[j]? =some oj->oi.dst=some d->oj.dst=some h->cm P oi.op=.cY A->cm P oj.op=.cY B->
  e.get (pa d)=some cD->e.get (pa h)=some o->ln cD=some a->ln o≠some a
theorem EY {j:Nat} {I:Oper} {d:Nat} (hj:ops[j]? =some I) (hN:j0 P nt ops I=true) (hd:I.dst=some d) (d7:A d):
 ∃g,qL P nt ops A j I d g/\((∃f,cm P I.op=.pu f)\/∃f,cm P I.op=.cY f):=by
 have B:∀n d',eW P nt ops I≠⟨d',a6 n,none⟩:=by
  intro n d' he;unfold j0 at hN;split at hN
  ·cases hN
  ·rw[he]at hN;simp[a6]at hN
 have has:∀x,I.op≠.assign x:=by
  intro x he;unfold j0 at hN;rw[he]at hN;cases hN
 rcases yl P nt ops I with⟨n,d',he⟩|⟨g,o,aj,h⟩
 ·exact absurd he (B n d')
 ·refine⟨g,⟨hj,hd,aj d hd,by rw[o,hd];(try rfl),h,has,d7⟩,?_⟩;unfold j0 at hN;split at hN
  ·cases hN
  ·rw[o]at hN;simp only at hN;split at hN
   ·exact .inl ⟨_,by assumption⟩
   ·exact .inr ⟨_,by assumption⟩
   ·cases hN
   ·cases hN
theorem pz {e e':T V} {I:Oper} {g:Option (Pa×Bool)} (A:oq ops g I.guard) (h:∀t∈dP ops I,e'.get (pa t)=e.get (pa t)):
 eb e' g=eb e g/\fS e' e I.op.operands.toList:=by
 refine⟨?_,fun x hx=>?_⟩
 ·rcases A with⟨_,rfl⟩|⟨j,b,d,o,aj,rfl⟩
  ·rfl
  ·simp only[eb,h d (yp o aj)]
 ·cases x with
  |tmp t=>simp only[cO,Od.ev,T.val,h t (yo hx)]
  |_=>rfl
theorem hK.move {e e':T V} {h h':Hp} {I:Oper} {d:Nat} {g:Option (Pa×Bool)} (L:oq ops g I.guard) (hs:∀t∈dP ops I,e'.get (pa t)=e.get (pa t)) (hd:e'.get (pa d)=e.get (pa d))
 (M:hX I.op=true->∀a b,(h.get a=some b->h'.get a=some b)) (hl:hX I.op=true->h=h'\/∃f,cm P I.op=.cY f) (ha:hK P e h I d g):hK P e' h' I d g:=by
 obtain⟨F,G⟩:=pz L hs;rcases ha with⟨o,aj⟩|⟨o,aj⟩
 ·exact .inl ⟨by rw[F];exact o,by rw[hd];exact aj⟩
 ·refine .inr ⟨by rw[F];exact o,?_⟩;rcases aj with⟨f,v,j,k2,D⟩|⟨f,b,mk,a,j,k2,D,O⟩
  ·refine .inl ⟨f,v,j,?_,by rw[hd];exact D⟩;rw[qG j G (h':=h) (fun B=>?_),<-k2];rcases hl B with A|⟨Q,A⟩
   ·exact A.symm
   ·rw[j]at A;cases A
  ·have B:=(u5 j k2 a).2;exact .inr ⟨f,b,mk,a,j,by rw[sn j G];exact k2,by rw[hd];exact D,M B a b O⟩
theorem EZ {e:T V} {h:Hp} {I:Oper} {j d:Nat} {g:Option (Pa×Bool)} (G:qL P nt ops A j I d g) (hc:iM e h (eW P nt ops I)=true):hK P e h I d g:=by
 rw[G.ro]at hc;simp only[iM]at hc;cases hw:eb e g with
 |no=>
  simp only[hw]at hc;split at hc
  ·exact .inl ⟨hw,by assumption⟩
  ·cases hc
 |bad=>simp[hw]at hc
 |yes=>
  simp only[hw]at hc;refine .inr ⟨hw,?_⟩;cases hv:e.get (pa d)with
  |none=>simp[hv]at hc
  |some v=>
   simp only[hv]at hc;cases hs:cm P I.op with
   |pu f=>
    simp only[hs]at hc;cases B:f e h with
    |none=>simp[B]at hc
    |some u=>
     simp only[B]at hc;have:=yr hc;subst this;exact .inl ⟨f,v,rfl,B,rfl⟩
   |cY f=>
    simp only[hs]at hc;cases B:f e with
    |none=>simp[B]at hc
    |some dm=>
     obtain⟨b,mk⟩:=dm;simp only[B]at hc;cases ha:ln v with
     |none=>simp[ha]at hc
     |some a=>
      simp only[ha]at hc;cases D:h.get a with
      |none=>simp[D]at hc
      |some b'=>
       simp only[D]at hc;cases F:same v (mk a)with
       |false=>simp[F]at hc
       |true=>
        simp only[F,aE]at hc;have o:=yr F;have aj:=EX hc;subst aj;exact .inr ⟨f,b,mk,a,rfl,B,by rw[o],D⟩
   |st f=>simp[hs]at hc
   |dv f=>simp[hs]at hc
theorem py.mono {U ac:AM} {e e':T V} {h h':Hp} {m:Nat} {I:Oper} {d:Nat} (B:py P U e h m I d) (he:e'.get (pa d)=e.get (pa d))
 (D:∀a,a.toNat<h.next.toNat->U a=none->ac a=none) (hn:h.next.toNat<=h'.next.toNat):py P ac e' h' m I d:=by
 intro f v a A hv ha;rw[he]at hv;obtain⟨o,aj,j⟩:=B f v a A hv ha;exact⟨D a j o,aj,kl j hn⟩
def fw (h h':Hp):Prop:=∀a b,h.get a=some b->h'.get a=some b
theorem fw.cells {h h':Hp} (hl:fw h h') {a:Pa} {l:List V} (hc:h.cells a=some l):h'.cells a=some l:=by
 unfold bn.cells at hc⊢;cases d:h.get a with
 |none=>simp[d]at hc
 |some b=>rw[hl a b d];rw[d]at hc;exact hc
theorem fw.b1 {h h':Hp} (hl:fw h h') {a:Pa} {I n:Nat} {l:List V} (hc:h.b1 a I n=some l):h'.b1 a I n=some l:=by
 unfold bn.b1 at hc⊢;cases d:h.cells a with
 |none=>simp[d]at hc
 |some b=>rw[hl.cells d];rw[d]at hc;exact hc
theorem fw.mapOf {h h':Hp} (hl:fw h h') {v:V} {es:List (V×V×Nat)} (hc:h.mapOf v=some es):h'.mapOf v=some es:=by
 cases v<;>simp only[bn.mapOf]at hc⊢<;>(try(exact hc))
 rename_i r;cases d:h.get r with
 |none=>simp[d]at hc
 |some b=>rw[hl r b d];rw[d]at hc;exact hc
theorem fw.eE {h h':Hp} (hl:fw h h') {n:Option Nat} {x v:V} (hc:eE h n x=some v):eE h' n x=some v:=by
 cases x<;>simp only[Ev.eE]at hc⊢<;>(try(cases hc;done))
 rename_i a I;cases n with
 |none=>
  simp only at hc⊢;cases d:h.cells a with
  |none=>simp[d]at hc
  |some b=>rw[hl.cells d];rw[d]at hc;exact hc
 |some n=>
  simp only at hc⊢;cases d:h.b1 a I n with
  |none=>simp[d]at hc
  |some b=>rw[hl.b1 d];rw[d]at hc;exact hc
theorem fw.alloc {C:Cx} {U:AM} {Λ:Pa->Prop} {h:Hp} {ls:List LE} {w:World} (s:aS C U Λ h ls w) (b:ak):fw h (h.alloc b):=by
 intro a c d;simp only[bn.alloc,bn.get,T.ft];rw[ab]
 ·exact d
 ·intro e;subst e;rw[s.fresh _ (aB _)]at d;cases d
theorem E0 {n N j:Nat} {lo hi:Option V} {l A m:Nat} (h:dN n N lo hi none=some (l,A,m)) (D:N<=j):∃m',dN n j lo hi none=some (l,A,m'):=by
 unfold dN at h⊢;have F:∀d y,dw d y none=some d:=fun _ _=>rfl;simp only[F]at h⊢;cases aj:dw n N hi with
 |none=>rw[aj]at h;cases h
 |some h'=>
  have B:dw n j hi=some h':=uL aj D;rw[aj]at h;simp only[B];simp only at h;cases o:dw 0 h' lo with
  |none=>rw[o]at h;cases h
  |some l'=>rw[o]at h;simp at h;exact⟨j,by simp[h]⟩
theorem fw.ext {h h':Hp} (hl:fw h h') (z:Nat) (a:Pa) (I:Nat):k9 h z a I<=k9 h' z a I:=by
 unfold k9;cases d:h.get a with
 |none=>exact cS _
 |some b=>rw[hl a b d];exact aB _
theorem fw.nd {h h':Hp} (hl:fw h h') {z:Nat} {x:V} {lo hi:Option V} {v:V} (hv:nd h z x lo hi=some v):Ev.nd h' z x lo hi=some v:=by
 cases x<;>simp only[Ev.nd]at hv⊢<;>(try(cases hv;done))
 rename_i a I n c;cases c with
 |ex c=>simp at hv
 |un s=>
  simp only at hv⊢;cases A:Nat.beq s z with
  |false=>simp[A]at hv
  |true=>
   simp only[A,aE]at hv⊢;cases j:Nat.ble n (k9 h z a I)with
   |false=>simp[j]at hv
   |true=>
    simp only[j,aE]at hv;have o:=hl.ext z a I;have aj:Nat.ble n (k9 h' z a I)=true:=hA (fL (eT j) o);simp only[aj,aE];cases d:dN n (k9 h z a I) lo hi none with
    |none=>simp[d]at hv
    |some p=>
     obtain⟨l,D,m⟩:=p;obtain⟨m',B⟩:=E0 d o;rw[B];rw[d]at hv;exact hv
theorem fw.l9 {h h':Hp} (hl:fw h h') {z:Nat} {x:V} {lo hi mx r:Option V} {v:V} (hv:l9 h z x lo hi mx r=some v):Ev.l9 h' z x lo hi mx r=some v:=by
 cases mx with
 |some m=>exact hv
 |none=>cases r with
  |some u=>exact hv
  |none=>exact hl.nd hv
theorem E1 {I:Oper} {f:T V->Hp->Option V} (hc:cm P I.op=.pu f) {e:T V} {h h':Hp} (hl:fw h h') {v:V} (hv:f e h=some v):f e h'=some v:=by
 cases hk:hX I.op with
 |false=>rw[<-hv];exact qG hc (fun _ _=>rfl) (fun o=>by rw[hk]at o;cases o)
 |true=>
  cases A:I.op<;>rw[A]at hc hk<;>simp only[hX]at hk<;>(try(cases hk;done))<;>simp only[cm]at hc<;>(try(cases hc;done))
  case alloc t=>split at hc<;>cases hc
  case buildSlice t len ps=>repeat' (first|(cases hc;done)|split at hc)
  case makeMap t r=>cases r<;>cases hc
  case makeSlice t l c=>repeat' (first|(cases hc;done)|split at hc)
  case load t a=>
   split at hc
   ·cases hc;exact hl.eE hv
   ·cases hc
  case lookup t x i ok=>
   split at hc
   ·rename_i k el hu;split at hc
    ·rename_i z hz;cases hq:c6 (a7 P k)with
     |false=>rw[hq]at hc;cases hc
     |true=>
      rw[hq]at hc;cases hc;simp only[ph]at hv⊢;cases hm:h.mapOf ((cO x).ev e)with
      |none=>simp[hm]at hv
      |some es=>rw[hl.mapOf hm];rw[hm]at hv;exact hv
    ·cases hc
   ·cases hc
  case slice t x lo hi mx=>
   split at hc
   ·cases mx with
    |none=>
     simp only at hc;split at hc
     ·cases hc;exact hv
     ·cases hc
    |some m=>cases hc
   ·cases mx with
    |none=>cases hc;exact hv
    |some m=>cases hc
   ·split at hc
    ·cases hm:(mx.isSome&&hi.isNone)with
     |true=>rw[hm]at hc;cases hc
     |false=>rw[hm]at hc;cases hc;exact hl.l9 hv
    ·cases hc
   ·cases hc
  case convert s d x=>
   unfold lh at hc;split at hc
   ·split at hc
    ·cases hc;exact hv
    ·cases hc
   ·split at hc
    ·cases hc;exact hv
    ·split at hc
     ·cases hc;simp only at hv⊢;split at hv
      ·rename_i a I n c hx;cases hm:h.b1 a I n with
       |none=>simp[hm]at hv
       |some l=>rw[hl.b1 hm];rw[hm]at hv;exact hv
      ·exact hv
      ·cases hv
     ·cases hc
    ·cases hc
   ·repeat' (first|(cases hc;done)|split at hc)
    all_goals (cases j:Nat.beq s d<;>rw[j]at hc<;>cases hc)
   ·cases hc
theorem hK.grow {e:T V} {h h':Hp} {I:Oper} {d:Nat} {g:Option (Pa×Bool)} (hl:fw h h') (ha:hK P e h I d g):hK P e h' I d g:=by
 rcases ha with o|⟨o,⟨f,v,j,k2,A⟩|⟨f,b,mk,a,j,k2,A,B⟩⟩
 ·exact .inl o
 ·exact .inr ⟨o,.inl ⟨f,v,j,E1 j hl k2,A⟩⟩
 ·exact .inr ⟨o,.inr ⟨f,b,mk,a,j,k2,A,hl _ _ B⟩⟩
theorem hK.env {e e':T V} {h:Hp} {I:Oper} {d:Nat} {g:Option (Pa×Bool)} (j:oq ops g I.guard) (hs:∀t∈dP ops I,e'.get (pa t)=e.get (pa t)) (hd:e'.get (pa d)=e.get (pa d))
 (ha:hK P e h I d g):hK P e' h I d g:=
 ha.move j hs hd (fun _ _ _ h=>h) (fun _=>.inl rfl)
theorem hK.any {e e':T V} {h h':Hp} {I:Oper} {d:Nat} {g:Option (Pa×Bool)} (j:oq ops g I.guard) (hs:∀t∈dP ops I,e'.get (pa t)=e.get (pa t)) (hd:e'.get (pa d)=e.get (pa d))
 (hk:hX I.op=false) (ha:hK P e h I d g):hK P e' h' I d g:=
 ha.move j hs hd (fun h=>by rw[hk]at h;cases h) (fun h=>by rw[hk]at h;cases h)
theorem lB.S {chks:List (RO ak)} {U:AM} {e:T V} {h:Hp} {m j:Nat} (hp:lB P nt ops A U e h m j) (hk:∀oj,ops[j]? =some oj->eW P nt ops oj∈chks\/hX oj.op=false):
 iT P nt ops A chks U e h m j:=by
 obtain⟨I,d,g,o,B,ha⟩:=hp;exact⟨I,d,g,o,B,(hk I o.at_).imp id fun h=>⟨h,ha⟩⟩
theorem iT.put {chks:List (RO ak)} {U ac:AM} {e:T V} {h h':Hp} {m j:Nat} {I:Oper} (hp:iT P nt ops A chks U e h m j) (G:∀oj t,ops[j]? =some oj->oj.dst=some t->I.dst≠some t)
 (hk:∀oj,ops[j]? =some oj->eW P nt ops oj∈chks\/(hX oj.op=false/\∀d,I.dst=some d->d∉dP ops oj)) (M:∀a,a.toNat<h.next.toNat->U a=none->ac a=none) (hn:h.next.toNat<=h'.next.toNat) (v:V):
 iT P nt ops A chks ac (e.put v (I.dst.map pa)) h' m j:=by
 obtain⟨oj,d,g,B,L,ha⟩:=hp;have hd:(e.put v (I.dst.map pa)).get (pa d)=e.get (pa d):=by
  rw[mj,fu,ab (G oj d B.at_ B.dst)]
 refine⟨oj,d,g,B,L.mono hd M hn,?_⟩;rcases hk oj B.at_ with o|⟨o,aj⟩
 ·exact .inl o
 ·rcases ha with D|⟨_,D⟩
  ·exact .inl D
  ·refine .inr ⟨o,D.any B.guard (fun t ht=>?_) hd o⟩;rw[mj,fu,ab (fun F=>aj t F ht)]
theorem iT.ok {chks:List (RO ak)} {U:AM} {e:T V} {h:Hp} {m j:Nat} (hp:iT P nt ops A chks U e h m j) (hc:∀c∈chks,iM e h c=true):lB P nt ops A U e h m j:=by
 obtain⟨oj,d,g,B,D,ha⟩:=hp;refine⟨oj,d,g,B,D,?_⟩;rcases ha with o|⟨_,o⟩
 ·exact EZ B (hc _ o)
 ·exact o
theorem ml.put {e:T V} {p:Nat->Prop} (ha:ml P ops e p) {I:Oper} (G:∀j oj t,p j->ops[j]? =some oj->oj.dst=some t->I.dst≠some t) (v:V):ml P ops (e.put v (I.dst.map pa)) p:=by
 intro i j oi oj d h L M cD U a hi hj S o aj A B O Q D F R;rw[mj,fu,ab (G i oi d hi o A)]at D;rw[mj,fu,ab (G j oj h hj aj B)]at F;exact ha i j oi oj d h L M cD U a hi hj S o aj A B O Q D F R
theorem va {I:RO ak} {rs:List (RS ak)} {e:T V} {h:Hp} (hw:eb e I.guard=.no):fq (.op I::rs) e h=fq rs (e.put cV I.dst) h:=by
 change (W3.rec (motive:=fun _=>OR) _ _ _ (eb e I.guard))=_;rw[hw];(try rfl)
theorem ys {I:RO ak} {rs:List (RS ak)} {e:T V} {h:Hp} (hw:eb e I.guard=.bad):fq (.op I::rs) e h=.bad 87:=by
 change (W3.rec (motive:=fun _=>OR) _ _ _ (eb e I.guard))=_;rw[hw]
theorem mn {I:RO ak} {rs:List (RS ak)} {e:T V} {h:Hp} (hw:eb e I.guard=.yes):fq (.op I::rs) e h=
 match I.l7 with
 |.pu f=>match f e h with
  |some v=>fq rs (e.put v I.dst) h
  |none=>.bad 70
 |.cY f=>match f e with
  |some p=>fq rs (e.put (p.2 h.next) I.dst) (h.alloc p.1)
  |none=>.bad 71
 |.st f=>match f e h with
  |some p=>fq rs (e.put p.1 I.dst) p.2
  |none=>.bad 72
 |.dv f=>.nj (f e) I rs e h:=by
 change (W3.rec (motive:=fun _=>OR) _ _ _ (eb e I.guard))=_;rw[hw];obtain⟨d,s,g⟩:=I;cases s with
 |pu f=>simp only;cases f e h<;>rfl
 |cY f=>simp only;cases f e<;>rfl
 |st f=>simp only;cases f e h<;>rfl
 |dv f=>rfl
theorem vb {rs:List (RS ak)} {e:T V} {h:Hp}:∀(chks:List (RO ak)),(∃n,fq (chks.map .bX++rs) e h=.bad n)\/((∀c∈chks,iM e h c=true)/\fq (chks.map .bX++rs) e h=fq rs e h)
 |[]=>.inr ⟨fun c hc=>(by cases hc),rfl⟩
 |c::chks=>by
  have h0:fq ((c::chks).map .bX++rs) e h=Bool.rec (motive:=fun _=>OR) (.bad 92) (fq (chks.map .bX++rs) e h) (iM e h c):=rfl;cases hc:iM e h c with
  |false=>rw[hc]at h0;exact .inl ⟨_,h0⟩
  |true=>
   rw[hc]at h0;rcases vb (rs:=rs) (e:=e) (h:=h) chks with⟨n,o⟩|⟨o,aj⟩
   ·exact .inl ⟨n,h0.trans o⟩
   ·exact .inr ⟨fun x hx=>by
     cases hx with
     |head=>exact hc
     |tail _ hx=>exact o x hx,h0.trans aj⟩
structure Ext (m:Nat) (U ac:AM) (h h':Hp):Prop where
 le:U.le ac
 bL:∀a,a.toNat<m->U a=none->ac a=none
 next:h.next.toNat<=h'.next.toNat
theorem Ext.refl (m:Nat) (U:AM) (h:Hp):Ext m U U h h:=⟨AM.le_refl U,fun _ _ h=>h,aB _⟩
theorem Ext.trans {m:Nat} {U d j:AM} {h o aj:Hp} (a:Ext m U d h o) (b:Ext m d j o aj):Ext m U j h aj:=
 ⟨AM.le_trans a.le b.le,fun x hx h=>b.bL x hx (a.bL x hx h),fL a.next b.next⟩
structure j3 (P:Program) (nt:Nat) (ops:Array Oper) (A:Nat->Prop) (m:Nat) (U:AM) (e:T V) (h:Hp) (tmps:Array Value) (I:RO ak) (rs:List (RS ak)) (i:Nat) (L:List Nat) (oi:Oper):Prop where
 size:nt<=tmps.size
 at_:ops[i]? =some oi
 ro:∃g,I=⟨oi.dst.map pa,cm P oi.op,g⟩
 lt:∀d,oi.dst=some d->d<nt
 rest:∃chks d8 p,rs=chks.map .bX++d8/\gT P nt ops A d8 L p/\(∀j,p j->iT P nt ops A chks U e h m j)/\ml P ops e p/\cB U e tmps (kB ops p)/\
  (∀j oj t,p j->ops[j]? =some oj->oj.dst=some t->oi.dst≠some t)/\
  (∀j oj,p j->ops[j]? =some oj->eW P nt ops oj∈chks\/(hX oj.op=false/\∀d,oi.dst=some d->d∉dP ops oj))
section
variable(C:Cx) (nt:Nat) (ops:Array Oper) (A:Nat->Prop) (K:CK) (ds:List Deferred) (k:List Go.Item) (cs:List Frame) (ls:List LE) (m:Nat)
def E2 (M:Machine) (U:AM) (h:Hp) (e':T V) (h':Hp):Prop:=
 ∃ac j w' d,Steps C.P M (lone (K.fr d k ds .run) cs w')/\Ext m U ac h h'/\aS C ac j h' ls w'/\eG ac e' d/\nt<=d.size
def E3 (M:Machine) (U:AM) (h:Hp) (c:iI) (I:RO ak) (rs:List (RS ak)) (e':T V) (h':Hp):Prop:=
 (∃n,c=.bad n)\/∃ac o w' d i L oi f,Steps C.P M (lone (K.fr d (.inRegion ops (i::L)::k) ds .run) cs w')/\Ext m U ac h h'/\aS C ac o h' ls w'/\j3 C.P nt ops A m ac e' h' d I rs i L oi/\
   cm C.P oi.op=.dv f/\c=f e'/\Region.wanted oi (yielded ops d)=true/\∃j,gn ac j (cJ d)/\fS j e' oi.op.operands.toList
def lC (M:Machine) (U:AM) (h:Hp):OR->Prop
 |.fin e' h'=>E2 C nt K ds k cs ls m M U h e' h'
 |.nj c I rs e' h'=>E3 C nt ops A K ds k cs ls m M U h c I rs e' h'
 |.bad _=>True
theorem lC.of_steps {M O:Machine} {U ac:AM} {h h':Hp} {r:OR} (hs:Steps C.P M O) (hx:Ext m U ac h h') (hr:lC C nt ops A K ds k cs ls m O ac h' r):lC C nt ops A K ds k cs ls m M U h r:=by
 cases r with
 |fin Q o=>
  obtain⟨G,F,D,B,d,j,a3⟩:=hr;exact⟨G,F,D,B,hs.trans d,hx.trans j,a3⟩
 |nj c I rs Q o=>
  rcases hr with hr|⟨G,F,D,B,i,L,oi,f,d,j,a3⟩
  ·exact .inl hr
  ·exact .inr ⟨G,F,D,B,i,L,oi,f,hs.trans d,hx.trans j,a3⟩
 |bad n=>trivial
end
end Go.Ev
namespace Go.Ev
variable{C:Cx} {nt:Nat} {ops:Array Oper} {A:Nat->Prop} {K:CK} {ds:List Deferred} {k:List Go.Item} {cs:List Frame} {ls:List LE} {m:Nat}
theorem lB.dst {P:Program} {U:AM} {e:T V} {h:Hp} {j:Nat} (hp:lB P nt ops A U e h m j) {I:Oper} (ho:ops[j]? =some I):
 ∃d g,qL P nt ops A j I d g/\py P U e h m I d/\hK P e h I d g:=by
 obtain⟨D,d,g,o,B,ha⟩:=hp;have:=o.at_;rw[ho]at this;cases this;exact⟨d,g,o,B,ha⟩
theorem qM {P:Program} {I:Oper} (hc:∀f,cm P I.op≠.dv f):∀c,I.op≠.defer c:=by
 intro c d;rw[d]at hc;simp only[cm]at hc;split at hc
 ·exact hc _ rfl
 ·exact hc _ rfl
theorem yt {X:Nat->Prop} {I:Oper} (hn:∀t∈dP ops I,¬X t):(∀t,.tmp t∈I.op.operands.toList->¬X t)/\∀j b d,I.guard=some (j,b)->nh ops j=some d->¬X d:=
 ⟨fun t ht=>hn t (yo ht),fun _ _ d o aj=>hn d (yp o aj)⟩
theorem lB.put {P:Program} {U:AM} {e:T V} {h:Hp} {j:Nat} (hp:lB P nt ops A U e h m j) {d:Nat} {h':Hp} (hl:fw h h') (hn:h.next.toNat<=h'.next.toNat)
 (hd:∀oj,ops[j]? =some oj->oj.dst≠some d/\d∉dP ops oj) (v:V):lB P nt ops A U (e.put v (some (pa d))) h' m j:=by
 obtain⟨oj,B,g,D,L,ha⟩:=hp;obtain⟨o,aj⟩:=hd oj D.at_;have G:∀t,t≠d->(e.put v (some (pa d))).get (pa t)=e.get (pa t):=fun t ht=>by
  have:=mj e v (some d) (pa t);rw[dM]at this;rw[this,fu,ab (by simpa using Ne.symm ht)]
 have I:B≠d:=fun F=>o (by rw[D.dst,F]);refine⟨oj,B,g,D,L.mono (G B I) (fun _ _ h=>h) hn,?_⟩;exact(ha.env D.guard (fun t ht=>G t fun F=>aj (F▸ht)) (G B I)).grow hl
theorem h2 (e:T V) (v:V) (d:Nat):(e.put v (some (pa d))).get (pa d)=some v:=by
 have:=mj e v (some d) (pa d);rw[dM]at this;rw[this,fu,ae rfl]
theorem E4 {rs:List (RS ak)} {L:List Nat} {p:Nat->Prop} (hw:gT C.P nt ops A rs L p):∀(U:AM) (Λ:Pa->Prop) (h:Hp) (w:World) (e:T V) (tmps:Array Value),
 aS C U Λ h ls w->m<=h.next.toNat->nt<=tmps.size->cB U e tmps (kB ops p)->(∀j,p j->lB C.P nt ops A U e h m j)->ml C.P ops e p->
 lC C nt ops A K ds k cs ls m (lone (K.fr tmps (.inRegion ops L::k) ds .run) cs w) U h (fq rs e h):=by
 induction hw with
 |done hp=>
  intro U Λ h w e tmps s hm M he Y ai;exact⟨U,Λ,w,tmps,.one ER,Ext.refl m U h,s,he.all (fun t ⟨j,_,o,_⟩=>hp j o),M⟩
 |stop n d=>
  intro U Λ h w e tmps s hm M he Y ai;rw[mn rfl];exact .inl ⟨n,rfl⟩
 | @ghost rs L p q i d I ho hN hd fd d7 hp qK hq next an=>
   intro U Λ h w e tmps s hm M he Y ai;obtain⟨g,D,bM⟩:=EY ho hN hd d7;have ay:∀t,kB ops p t\/t=d->kB ops q t:=by
    rintro t (⟨j,oj,o,aj,B⟩|rfl)
    ·exact⟨j,oj,(hq j).2 (.inr o),aj,B⟩
    ·exact⟨i,I,(hq i).2 (.inl rfl),ho,hd⟩
   have aV:∀v t,t≠d->(e.put v (some (pa d))).get (pa t)=e.get (pa t):=fun v t ht=>by
    have:=mj e v (some d) (pa t);rw[dM]at this;rw[this,fu,ab (by simpa using Ne.symm ht)]
   have seen:∀v,∀t∈dP ops I,(e.put v (some (pa d))).get (pa t)=e.get (pa t):=fun v t ht=>aV v t fun W=>fd (W▸ht);have aC:∀v h',fw h h'->h.next.toNat<=h'.next.toNat->∀j,p j->lB C.P nt ops A U (e.put v (some (pa d))) h' m j:=fun v h' hl hn j hj=>
    (Y j hj).put hl hn (fun oj az=>qK j oj hj az) v
   have aX:∀v,(∀Z cD a,cm C.P I.op=.cY Z->v=cD->ln cD=some a->∀j oj G au,p j->ops[j]? =some oj->oj.dst=some G->(∃ah,cm C.P oj.op=.cY ah)->e.get (pa G)=some au->ln au≠some a)->
    ml C.P ops (e.put v (some (pa d))) q:=by
    intro v bt aA ao oi oj aE G Z ah cD au a hi hj br o aj B aF a2 a6 aL aH a7;rcases(hq aA).1 hi with rfl|bg
    ·rw[ho]at o;cases o;rw[hd]at B;cases B;rw[h2]at aL;cases aL;have Q:=((hq ao).1 hj).resolve_left (Ne.symm br);have aM:G≠d:=fun W=>(qK ao oj Q aj).1 (by rw[aF,W]);rw[aV v G aM]at aH;exact bt Z v a a2 rfl a7 ao oj G au Q aj aF ⟨ah,a6⟩ aH
    ·have bF:aE≠d:=fun W=>(qK aA oi bg o).1 (by rw[B,W]);rw[aV v aE bF]at aL;rcases(hq ao).1 hj with rfl|Q
     ·rw[ho]at aj;cases aj;rw[hd]at aF;cases aF;rw[h2]at aH;cases aH;intro bi;exact bt ah v a a6 rfl bi aA oi aE cD bg o B ⟨Z,a2⟩ aL a7
     ·have aM:G≠d:=fun W=>(qK ao oj Q aj).1 (by rw[aF,W]);rw[aV v G aM]at aH;exact ai aA ao oi oj aE G Z ah cD au a bg Q br o aj B aF a2 a6 aL aH a7
   rw[D.ro];cases O:eb e g with
   |bad=>rw[ys O];trivial
   |no=>
    rw[va O];refine an U Λ h w _ tmps s hm M (he.ghost cV ay) (fun j hj=>?_) (aX cV ?_)
    ·rcases(hq j).1 hj with rfl|Q
     ·refine⟨I,d,g,D,fun f v a F hv ha=>?_,.inl ⟨?_,h2 e cV d⟩⟩
      ·rw[h2]at hv;cases hv;cases ha
      ·rw[(pz D.guard (seen cV)).1];exact O
     ·exact aC cV h (fun _ _ h=>h) (aB _) j Q
    ·intro Z cD a _ hv ha;subst hv;cases ha
   |yes=>
    rw[mn O];simp only;rcases bM with⟨f,F⟩|⟨f,F⟩
    ·rw[F];simp only;cases aU:f e h with
     |none=>trivial
     |some v=>
      simp only;refine an U Λ h w _ tmps s hm M (he.ghost v ay) (fun j hj=>?_) (aX v ?_)
      ·rcases(hq j).1 hj with rfl|Q
       ·refine⟨I,d,g,D,fun ag v a aI hv ha=>?_,.inr ⟨?_,.inl ⟨f,v,F,?_,h2 e v d⟩⟩⟩
        ·rw[F]at aI;cases aI
        ·rw[(pz D.guard (seen v)).1];exact O
        ·rw[qG F (pz D.guard (seen v)).2 (fun _=>rfl)];exact aU
       ·exact aC v h (fun _ _ h=>h) (aB _) j Q
      ·intro Z cD a be;rw[F]at be;cases be
    ·rw[F];simp only;cases aU:f e with
     |none=>trivial
     |some dm=>
      obtain⟨b,mk⟩:=dm;simp only;have aK:h.next.toNat<(h.alloc b).next.toNat:=by show _<h.next.succ.toNat;rw[Pa.gm];omega
      have hblk:=(u5 F aU h.next).1;refine lC.of_steps C nt ops A K ds k cs ls m (Steps.refl _ _) ⟨AM.le_refl U,fun _ _ h=>h,pc aK⟩ ?_;refine an U Λ _ w _ tmps (s.ghost b) (by omega) M (he.ghost (mk h.next) ay) (fun j hj=>?_) (aX (mk h.next) ?_)
      ·rcases(hq j).1 hj with rfl|Q
       ·refine⟨I,d,g,D,fun ag v a aI hv ha=>?_,.inr ⟨?_,.inr ⟨f,b,mk,h.next,F,?_,h2 e _ d,?_⟩⟩⟩
        ·rw[h2]at hv;cases hv;rw[hblk]at ha;cases ha;exact⟨s.iP,hm,aK⟩
        ·rw[(pz D.guard (seen _)).1];exact O
        ·rw[sn F (pz D.guard (seen _)).2];exact aU
        ·simp[bn.alloc,bn.get,T.ft]
       ·exact aC _ _ (fw.alloc s b) (pc aK) j Q
      ·intro Z cD a be hv ha j oj G au hj az aM bA bO bi;subst hv;rw[hblk]at ha;cases ha;obtain⟨d',bW,bB,bH,_⟩:=(Y j hj).dst az;obtain⟨ah,bG⟩:=bA;have:d'=G:=by have:=bB.dst;rw[aM]at this;cases this;rfl
       subst this;have:=(bH ah au h.next bG bO bi).2.2;omega
 | @fill rs L p q i I ho hp hn hq next an=>
   intro U Λ h w e tmps s hm M he Y ai;obtain⟨d,g,D,bI,bx⟩:=(Y i hp).dst ho;have ay:∀t∈dP ops I,¬kB ops p t:=fun t ht ⟨j,oj,o,aj,B⟩=>hn j oj t o aj B ht;obtain⟨aT,a8⟩:=yt ay;have ba:∀t,kB ops p t->kB ops q t\/t=d:=by
    rintro t ⟨j,oj,o,aj,B⟩;by_cases aW:j=i
    ·subst aW;rw[ho]at aj;cases aj;rw[D.dst]at B;cases B;exact .inr rfl
    ·exact .inl ⟨j,oj,(hq j).2 ⟨aW,o⟩,aj,B⟩
   have aJ:d<tmps.size:=kl D.lt M;have bb:ml C.P ops e q:=fun aA ao oi oj aE G Z ah cD au a hi hj=>ai aA ao oi oj aE G Z ah cD au a ((hq aA).1 hi).2 ((hq ao).1 hj).2;obtain⟨aD,bl⟩:=yn he D.guard a8;rcases bx with⟨o,aj⟩|⟨o,⟨f,v,ae,k2,aP⟩|⟨f,b,mk,a,ae,k2,aP,bP⟩⟩
   ·refine lC.of_steps C nt ops A K ds k cs ls m (.one (yk ho (bl o))) (Ext.refl m U h) ?_;rw[D.dst];exact an U Λ h w e _ s hm (by rw[qH];exact M) (he.fill aj (om U) aJ ba) (fun j hj=>Y j ((hq j).1 hj).2) bb
   ·obtain⟨R,av,aw⟩:=he.ops aT;have al:f R h=some v:=by rw[qG ae aw (fun _=>rfl)];exact k2
    obtain⟨c,ap,ar⟩:=x3 ae C U Λ h ls w R _ v rfl s av al;refine lC.of_steps C nt ops A K ds k cs ls m (.one (qJ ho (aD o) (qM (fun ag h'=>by rw[ae]at h';cases h')) ap (.inl rfl))) (Ext.refl m U h) ?_;rw[D.dst];exact an U Λ h w e _ s hm (by rw[qH];exact M) (he.fill aP ar aJ ba) (fun j hj=>Y j ((hq j).1 hj).2) bb
   ·obtain⟨R,av,aw⟩:=he.ops aT;have al:f R=some (b,mk):=by rw[sn ae aw];exact k2
    obtain⟨c,w',top,md,ap,ar,bj,bk,aQ⟩:=x7 ae U w R _ b mk av al;have hblk:=(u5 ae k2 a).1;obtain⟨bm,bY,bZ⟩:=bI f _ a ae aP hblk;have am:=AM.iO (U:=U) (a:=a) (L:=⟨w.heap.size,0,top,md⟩) bm;obtain⟨aZ,a1⟩:=aQ (U.put a ⟨w.heap.size,0,top,md⟩) ls a am (AM.h2 _ _ _);have s':=s.fill (top:=top) (md:=md) bm bP ar aZ;refine lC.of_steps C nt ops A K ds k cs ls m (.one (qJ ho (aD o) (qM (fun ag h'=>by rw[ae]at h';cases h')) ap (.inl rfl))) (ac:=U.put a ⟨w.heap.size,0,top,md⟩) (h':=h)
     ⟨am,fun x hx bL=>?_,aB _⟩ ?_
    ·have:x≠a:=fun W=>by subst W;omega
     simp[AM.put,this,bL]
    ·rw[D.dst];refine an _ _ h w' e _ s' hm (by rw[qH];exact M) ((he.mono am).fill aP a1 aJ ba) (fun j hj=>?_) bb;obtain⟨aW,Q⟩:=(hq j).1 hj;obtain⟨oj,G,bw,bc,bJ,bz⟩:=Y j Q;refine⟨oj,G,bw,bc,fun ag v' a' aI bv bp=>?_,bz⟩;obtain⟨bQ,bR,bS⟩:=bJ ag v' a' aI bv bp;refine⟨?_,bR,bS⟩;have:a'≠a:=fun W=>by
      subst W;exact ai j i oj I G d ag f v' (mk a') a' Q hp aW bc.at_ ho bc.dst D.dst aI ae bv aP bp hblk
     simp[AM.put,this,bQ]
 | @dY rs chks L p i I ho hn hk next an=>
   intro U Λ h w e tmps s hm M he Y ai;have ay:∀t∈dP ops I,¬kB ops p t:=fun t ht ⟨j,oj,o,aj,B⟩=>(hn j oj t o aj B).1 ht;obtain⟨aT,a8⟩:=yt ay;rcases yl C.P nt ops I with⟨n,d',bh⟩|⟨g,bh,aJ,bK⟩
   ·rw[bh,mn rfl];exact .inl ⟨n,rfl⟩
   ·rw[bh];obtain⟨aD,bl⟩:=yn he bK a8;have bo:∀j,p j->iT C.P nt ops A chks U e h m j:=fun j hj=>(Y j hj).S fun oj az=>(hk j oj hj az).imp id And.left;have bd:∀j oj t,p j->ops[j]? =some oj->oj.dst=some t->I.dst≠some t:=fun j oj t o aj B=>(hn j oj t o aj B).2;have after:∀(ac:AM) (aR:Pa->Prop) (h':Hp) (w':World) (v:V) (c:Value),Steps C.P (lone (K.fr tmps (.inRegion ops (i::L)::k) ds .run) cs w) (lone (K.fr (iS tmps I.dst c) (.inRegion ops L::k) ds .run) cs w')->
     aS C ac aR h' ls w'->U.le ac->(∀a,a.toNat<h.next.toNat->U a=none->ac a=none)->h.next.toNat<=h'.next.toNat->VR ac v c->
     lC C nt ops A K ds k cs ls m (lone (K.fr tmps (.inRegion ops (i::L)::k) ds .run) cs w) U h (fq (chks.map .bX++rs) (e.put v (I.dst.map pa)) h'):=by
     intro ac aR h' w' v c bN s' am bs aK hv;rcases vb (rs:=rs) (e:=e.put v (I.dst.map pa)) (h:=h') chks with⟨n,bC⟩|⟨bD,bE⟩
     ·rw[bC];trivial
     ·rw[bE];refine lC.of_steps C nt ops A K ds k cs ls m bN (ac:=ac) (h':=h') ⟨am,fun a ha aO=>bs a (by omega) aO,aK⟩ ?_;refine an ac aR h' w' _ _ s' (by omega) (by rw[qH];exact M) ((he.mono am).put hv (fun d hd=>kl (aJ d hd) M)) (fun j hj=>?_) (ai.put bd v);exact((bo j hj).put (fun oj t o aj=>bd j oj t hj o aj) (fun oj az=>hk j oj hj az) bs aK v).ok bD
    cases O:eb e g with
    |bad=>rw[ys O];trivial
    |no=>
     rw[va O];exact after U Λ h w cV undef (.one (yk ho (bl O))) s (AM.le_refl U) (fun _ _ h=>h) (aB _) (om U)
    |yes=>
     rw[mn O];simp only;obtain⟨R,av,aw⟩:=he.ops aT;cases hs:cm C.P I.op with
     |pu f=>
      simp only;cases F:f e h with
      |none=>trivial
      |some v=>
       simp only;have al:f R h=some v:=by rw[qG hs aw (fun _=>rfl)];exact F
       obtain⟨c,ap,ar⟩:=x3 hs C U Λ h ls w R _ v rfl s av al;exact after U Λ h w v c (.one (qJ ho (aD O) (qM (fun ag h'=>by rw[hs]at h';cases h')) ap (.inl rfl))) s (AM.le_refl U) (fun _ _ h=>h) (aB _) ar
     |cY f=>
      simp only;cases F:f e with
      |none=>trivial
      |some dm=>
       obtain⟨b,mk⟩:=dm;simp only;have al:f R=some (b,mk):=by rw[sn hs aw];exact F
       obtain⟨c,w',top,md,ap,ar,bj,bk,aQ⟩:=x7 hs U w R _ b mk av al;have am:=AM.iO (U:=U) (a:=h.next) (L:=⟨w.heap.size,0,top,md⟩) s.iP;obtain⟨aZ,a1⟩:=aQ (U.put h.next ⟨w.heap.size,0,top,md⟩) ls h.next am (AM.h2 _ _ _);have s':=(s.ghost b).fill (top:=top) (md:=md) (a:=h.next) s.iP (by simp[bn.alloc,bn.get,T.ft]) ar aZ;refine after _ _ (h.alloc b) w' (mk h.next) c (.one (qJ ho (aD O) (qM (fun ag h'=>by rw[hs]at h';cases h')) ap (.inl rfl))) s' am (fun a ha aO=>?_) ?_ a1
       ·have:a≠h.next:=fun W=>by subst W;omega
        simp[AM.put,this,aO]
       ·show _<=h.next.succ.toNat;rw[Pa.gm];omega
     |st f=>
      simp only;cases F:f e h with
      |none=>trivial
      |some bV=>
       obtain⟨v,h'⟩:=bV;simp only;have al:f R h=some (v,h'):=by rw[EO hs aw];exact F
       obtain⟨n,c,w',ac,aR,ap,ar,bj,bk,aQ,bT,bU⟩:=EM hs C U Λ h ls w R _ v h' rfl s av al;refine after ac aR h' w' v c (.one (qJ ho (aD O) (qM (fun ag h'=>by rw[hs]at h';cases h')) ap ar)) bk bj (fun a ha aO=>?_) bU aQ;cases hx:ac a with
       |none=>rfl
       |some L=>exact absurd (bT a aO (by rw[hx];simp)) (by omega)
     |dv f=>
      simp only;refine .inr ⟨U,Λ,w,tmps,i,L,I,f,Steps.refl _ _,Ext.refl m U h,s,⟨M,ho,⟨g,by rw[hs]⟩,aJ,chks,rs,p,rfl,next,bo,ai,he,bd,hk⟩,hs,rfl,aD O,R,av,aw⟩
end Go.Ev
namespace Go.Ev
variable{C:Cx} {nt:Nat} {ops:Array Oper} {K:CK} {ds:List Deferred} {ls:List LE} {m:Nat}
inductive lD (P:Program) (U:AM) (nt:Nat) (bZ:List Nat):Item->Go.Item->Prop
 |code (c:Code):lD P U nt bZ (.code (cn P nt bZ c)) (.code c)
 |inBlock (id:Nat):lD P U nt bZ (.inBlock id) (.inBlock id)
 |inLoop (c:Code):lD P U nt bZ (.inLoop (cn P nt bZ c)) (.inLoop c)
 |gQ (l:Pa) (L:Loc) (h:U l=some L):lD P U nt bZ (.gQ l) (.inRangeFunc L.aw)
 |j2 (l:Pa) (L:Loc) (h:U l=some L):lD P U nt bZ (.j2 l) (.endRangeFunc L.aw)
 |begin:lD P U nt bZ .begin .beginRound
theorem lD.mono {P:Program} {U ac:AM} (d:U.le ac) {nt:Nat} {bZ:List Nat} {i:Item} {c:Go.Item} (h:lD P U nt bZ i c):lD P ac nt bZ i c:=by
 cases h with
 |code c=>exact .code c
 |inBlock id=>exact .inBlock id
 |inLoop c=>exact .inLoop c
 |gQ l L h=>exact .gQ l L (d l L h)
 |j2 l L h=>exact .j2 l L (d l L h)
 |begin=>exact .begin
inductive eI (P:Program) (U:AM) (nt:Nat) (bZ:List Nat):List Item->List Go.Item->Prop
 |nil:eI P U nt bZ [] []
 |cons {i:Item} {c:Go.Item} {k:List Item} {ck:List Go.Item} (h:lD P U nt bZ i c) (t:eI P U nt bZ k ck):eI P U nt bZ (i::k) (c::ck)
theorem eI.mono {P:Program} {U ac:AM} (d:U.le ac) {nt:Nat} {bZ:List Nat} {k:List Item} {ck:List Go.Item} (h:eI P U nt bZ k ck):eI P ac nt bZ k ck:=by
 induction h with
 |nil=>exact .nil
 |cons h _ j=>exact .cons (h.mono d) j
theorem vc {P:Program} {U:AM} {nt:Nat} {bZ:List Nat} {id:Nat}:∀{k:List Item} {ck:List Go.Item},eI P U nt bZ k ck->(∀{k':List Item},exitTo id k=some k'->∃A,Go.exitTo id ck=some A/\eI P U nt bZ k' A)/\
 (exitTo id k=none->Go.exitTo id ck=none)
 |_,_,.nil=>⟨fun h=>by simp[exitTo]at h,fun _=>rfl⟩
 |_,_,.cons hi ht=>by
  have d:=vc (id:=id) ht;cases hi with
  |code c=>exact d
  |inLoop c=>exact d
  |gQ l L h=>exact d
  |j2 l L h=>exact d
  |begin=>exact d
  |inBlock j=>
   simp only[exitTo];cases B:Nat.beq j id with
   |true=>
    have:=dG B;subst this;refine⟨fun h=>?_,fun h=>by simp at h⟩;simp only[aE,aL]at h;subst h;exact⟨_,by simp[Go.exitTo],ht⟩
   |false=>
    have D:(j==id)=false:=by
     simp only[beq_eq_false_iff_ne];intro e;subst e;simp at B
    simp only[bw];refine⟨fun h=>?_,fun h=>?_⟩
    ·obtain⟨A,o,aj⟩:=d.1 h;exact⟨A,by simp[Go.exitTo,D,o],aj⟩
    ·simp[Go.exitTo,D,d.2 h]
inductive ed (U:AM):List Def->List Deferred->Prop
 |nil:ed U [] []
 |call {f:Nat} {args:List V} {A:Array Value} {ds:List Def} {Ds:List Deferred} (a2:List Value) (ha:bd U args (A.toList++a2)) (h:ed U ds Ds):ed U (.call f args::ds) ({target:=.fn (.func f) ⟨a2⟩,args:=A}::Ds)
 |mark {a:Pa} {L:Loc} {A:Array Value} {ds:List Def} {Ds:List Deferred} (ha:U a=some L) (h:ed U ds Ds):ed U (.mark a::ds) ({target:=.collected L.aw,args:=A}::Ds)
theorem ed.mono {U ac:AM} (j:U.le ac) {ds:List Def} {Ds:List Deferred} (h:ed U ds Ds):ed ac ds Ds:=by
 induction h with
 |nil=>exact .nil
 |call a2 ha _ d=>exact .call a2 (bd.mono j ha) d
 |mark ha _ d=>exact .mark (j _ _ ha) d
def sr (U:AM):Option Pa->Option Nat->Prop
 |none,r=>r=none
 |some l,r=>∃L,U l=some L/\r=some L.aw
theorem sr.mono {U ac:AM} (d:U.le ac) {a:Option Pa} {r:Option Nat} (h:sr U a r):sr ac a r:=by
 cases a with
 |none=>exact h
 |some l=>obtain⟨L,o,aj⟩:=h;exact⟨L,d _ _ o,aj⟩
structure KR (U:AM) (k:FK) (K:CK):Prop where
 fn:k.fn=K.fn
 kind:K.kind=if k.deferred then .deferred else .normal
 round:sr U k.round K.round
theorem KR.mono {U ac:AM} (d:U.le ac) {k:FK} {K:CK} (h:KR U k K):KR ac k K:=⟨h.fn,h.kind,h.round.mono d⟩
inductive nv (U:AM):Mode->FrameMode->Prop
 |ret:nv U .returning .returning
 |kC {v:V} {c:Value} (r:Bool) (h:VR U v c):nv U (.panicking v r) (.panicking [{v:=c,recovered:=r,goexit:=false}])
theorem nv.mono {U ac:AM} (d:U.le ac) {m:Mode} {c:FrameMode} (h:nv U m c):nv ac m c:=by
 cases h with
 |ret=>exact .ret
 |kC r h=>exact .kC r (h.mono d)
def ij (P:Program) (f:Nat) (t:Nat):Prop:=t∉bT P f
theorem cB.vd {U:AM} {e:T V} {tmps:Array Value} {X Y:Nat->Prop} (h:cB U e tmps X) (d:∀t,X t->Y t):cB U e tmps Y:=fun p v hp j=>h p v hp fun hx=>j (d _ hx)
theorem eG.X {U:AM} {e:T V} {tmps:Array Value} (h:eG U e tmps) (X:Nat->Prop):cB U e tmps X:=fun p v hp _=>h p v hp
inductive mo (P:Program) (U:AM) (h:Hp) (m:Nat):Fr->Frame->Prop
 |run {k:FK} {K:CK} {e:T V} {tmps:Array Value} {todo:List Item} {bg:List Go.Item} {ds:List Def} {Ds:List Deferred} (hk:KR U k K) (hd:ed U ds Ds)
   (he:eG U e tmps) (hs:k.nt<=tmps.size) (ht:eI P U k.nt (bT P k.fn) todo bg):mo P U h m ⟨k,e,todo,ds,.run⟩ (K.fr tmps bg Ds .run)
 |cI {k:FK} {K:CK} {e:T V} {tmps:Array Value} {todo:List Item} {bg:List Go.Item} {ds:List Def} {Ds:List Deferred} {ops:Array Oper} {chks:List (RO ak)} {rs:List (RS ak)} {L:List Nat}
   {p:Nat->Prop} (hk:KR U k K) (hd:ed U ds Ds) (hw:gT P k.nt ops (ij P k.fn) rs L p) (hp:∀j,p j->iT P k.nt ops (ij P k.fn) chks U e h m j) (ha:ml P ops e p)
   (he:cB U e tmps (kB ops p)) (hs:k.nt<=tmps.size) (ht:eI P U k.nt (bT P k.fn) todo bg):
   mo P U h m ⟨k,e,.cI (chks.map .bX++rs)::todo,ds,.run⟩ (K.fr tmps (.inRegion ops L::bg) Ds .run)
 |out {k:FK} {K:CK} {e:T V} {tmps:Array Value} {todo:List Item} {bg:List Go.Item} {ds:List Def} {Ds:List Deferred} {md:Mode} {d6:FrameMode} (hk:KR U k K) (hd:ed U ds Ds)
   (he:cB U e tmps (ij P k.fn)) (hm:nv U md d6):mo P U h m ⟨k,e,todo,ds,md⟩ (K.fr tmps bg Ds d6)
inductive nw (P:Program) (U:AM) (h:Hp) (m:Nat):Bool->Fr->Frame->Prop
 |wait {k:FK} {K:CK} {e:T V} {tmps:Array Value} {todo:List Item} {bg:List Go.Item} {ds:List Def} {Ds:List Deferred} {ops:Array Oper} {I:RO ak} {rs:List (RS ak)} {i:Nat} {L:List Nat} {oi:Oper}
   (hk:KR U k K) (hd:ed U ds Ds) (hw:j3 P k.nt ops (ij P k.fn) m U e h tmps I rs i L oi) (ht:eI P U k.nt (bT P k.fn) todo bg):
   nw P U h m false ⟨k,e,.cI (.op I::rs)::todo,ds,.run⟩ (K.fr tmps (.inRegion ops (i::L)::bg) Ds .run)
 |rf {k:FK} {K:CK} {e:T V} {tmps:Array Value} {todo:List Item} {bg:List Go.Item} {ds:List Def} {Ds:List Deferred} {l:Pa} {L:Loc} (hk:KR U k K) (hd:ed U ds Ds)
   (he:eG U e tmps) (hs:k.nt<=tmps.size) (ht:eI P U k.nt (bT P k.fn) todo bg) (hl:U l=some L):
   nw P U h m false ⟨k,e,.gQ l::todo,ds,.run⟩ (K.fr tmps (.inRangeFunc L.aw::bg) Ds .run)
 |out {k:FK} {K:CK} {e:T V} {tmps:Array Value} {todo:List Item} {bg:List Go.Item} {ds:List Def} {Ds:List Deferred} {md:Mode} {d6:FrameMode} (hk:KR U k K) (hd:ed U ds Ds)
   (he:cB U e tmps (ij P k.fn)) (hm:nv U md d6):nw P U h m true ⟨k,e,todo,ds,md⟩ (K.fr tmps bg Ds d6)
inductive fc (P:Program) (U:AM) (bh:List Frame) (f0:Nat):Nat->Bool->Nat->List Fr->List Frame->Prop
 |nil (m:Nat):fc P U bh f0 m false f0 [] bh
 |cons {m m':Nat} {d:Bool} {f:Nat} {c:Fr} {cc:Frame} {cs:List Fr} {ccs:List Frame} (h0:Hp) (hc:nw P U h0 m' d c cc) (o:m'<=h0.next.toNat) (aj:h0.next.toNat<=m)
   (hs:fc P U bh f0 m' c.k.deferred c.k.fn cs ccs):fc P U bh f0 m d f (c::cs) (cc::ccs)
variable{A:Nat->Prop}
theorem iT.mono {P:Program} {chks:List (RO ak)} {U ac:AM} {e:T V} {h:Hp} {m j:Nat} (hp:iT P nt ops A chks U e h m j) (D:∀a,a.toNat<h.next.toNat->U a=none->ac a=none):iT P nt ops A chks ac e h m j:=by
 obtain⟨oj,d,g,o,B,ha⟩:=hp;exact⟨oj,d,g,o,B.mono rfl D (aB _),ha⟩
theorem j3.mono {P:Program} {U ac:AM} (G:U.le ac) {e:T V} {h:Hp} {tmps:Array Value} {I:RO ak} {rs:List (RS ak)} {i:Nat} {L:List Nat} {oi:Oper} (M:∀a,a.toNat<h.next.toNat->U a=none->ac a=none)
 (hw:j3 P nt ops A m U e h tmps I rs i L oi):j3 P nt ops A m ac e h tmps I rs i L oi:=by
 obtain⟨chks,d8,p,o,aj,d,B,D,F⟩:=hw.rest;exact⟨hw.size,hw.at_,hw.ro,hw.lt,chks,d8,p,o,aj,fun j hj=>(d j hj).mono M,B,D.mono G,F⟩
theorem yu {P:Program} {chks:List (RO ak)} {U:AM} {e:T V} {h:Hp} {tmps:Array Value} {p:Nat->Prop} (hp:∀j,p j->iT P nt ops A chks U e h m j) (he:cB U e tmps (kB ops p)):cB U e tmps A:=
 he.vd fun t ⟨j,oj,o,aj,G⟩=>by
  obtain⟨I,d,g,B,_⟩:=hp j o;have D:=B.at_;rw[aj]at D;cases D;have F:=B.dst;rw[G]at F;cases F;exact B.may
theorem nw.mono {P:Program} {U ac:AM} (j:U.le ac) {h:Hp} {d:Bool} {c:Fr} {cc:Frame} (o:∀a,a.toNat<h.next.toNat->U a=none->ac a=none) (hc:nw P U h m d c cc):nw P ac h m d c cc:=by
 cases hc with
 |wait hk hd hw ht=>exact .wait (hk.mono j) (hd.mono j) (hw.mono j o) (ht.mono j)
 |rf hk hd he hs ht hl=>exact .rf (hk.mono j) (hd.mono j) (he.mono j) hs (ht.mono j) (j _ _ hl)
 |out hk hd he hm=>exact .out (hk.mono j) (hd.mono j) (he.mono j) (hm.mono j)
theorem fc.mono {P:Program} {U ac:AM} {bh:List Frame} {f0:Nat} (h:U.le ac):∀{m:Nat} {d:Bool} {f:Nat} {cs:List Fr} {ccs:List Frame},(∀a,a.toNat<m->U a=none->ac a=none)->
 fc P U bh f0 m d f cs ccs->fc P ac bh f0 m d f cs ccs
 |_,_,_,_,_,_,.nil m=>.nil m
 |_,_,_,_,_,j,.cons h0 hc o aj hs=>.cons h0 (hc.mono h fun a ha hn=>j a (by omega) hn) o aj (fc.mono h (fun a ha hn=>j a (by omega) hn) hs)
structure Rel (C:Cx) (bh:List Frame) (f0:Nat) (fr:Fr) (cs:List Fr) (h:Hp) (ls:List LE) (M:Machine):Prop where
 it:∃U Λ w m co ccs,M=lone co ccs w/\aS C U Λ h ls w/\m<=h.next.toNat/\mo C.P U h m fr co/\fc C.P U bh f0 m fr.k.deferred fr.k.fn cs ccs
def ee (C:Cx) (bh:List Frame) (f0:Nat) (M:Machine):Nx->Prop
 |.go fr cs h ls=>∃d,Steps C.P M d/\Rel C bh f0 fr cs h ls d
 |.done v h=>∃co w c U Λ ls,Steps C.P M (lone co bh w)/\co.fn=f0/\co.leaving C.P w (.returned c)/\aS C U Λ h ls w/\VR U v c
 |.bad _ _=>True
theorem ee.of_steps {bh:List Frame} {f0:Nat} {M j:Machine} {n:Nx} (hs:Steps C.P M j) (h:ee C bh f0 j n):ee C bh f0 M n:=by
 cases n with
 |go fr cs h ls=>obtain⟨A,o,aj⟩:=h;exact⟨A,hs.trans o,aj⟩
 |done v h=>obtain⟨a,b,c,d,e,f,o,aj⟩:=h;exact⟨a,b,c,d,e,f,hs.trans o,aj⟩
 |bad a b=>trivial
section E5
variable{P:Program} {tmps:Array Value} {k:List Go.Item} {cs:List Frame} {w:World}
theorem yv:Go.step P (lone (K.fr tmps (.code .skip::k) ds .run) cs w)=.next (lone (K.fr tmps k ds .run) cs w):=
 step_lone_go (by simp[stepG,stepG.exec,CK.fr])
theorem yw {l:Nat}:Go.step P (lone (K.fr tmps (.code (.label l)::k) ds .run) cs w)=.next (lone (K.fr tmps k ds .run) cs w):=
 step_lone_go (by simp[stepG,stepG.exec,CK.fr])
theorem E6 {id:Nat}:Go.step P (lone (K.fr tmps (.inBlock id::k) ds .run) cs w)=.next (lone (K.fr tmps k ds .run) cs w):=
 step_lone_go (by simp[stepG,stepG.exec,CK.fr])
theorem yx {x y:Code}:Go.step P (lone (K.fr tmps (.code (.seq x y)::k) ds .run) cs w)=.next (lone (K.fr tmps (.code x::.code y::k) ds .run) cs w):=
 step_lone_go (by simp[stepG,stepG.exec,CK.fr])
theorem E7 {c:Operand} {x y:Code} {t:Bool} (h:cJ tmps c=.bool t):
 Go.step P (lone (K.fr tmps (.code (.cond c x y)::k) ds .run) cs w)=.next (lone (K.fr tmps (.code (if t then x else y)::k) ds .run) cs w):=
 step_lone_go (by
  have he:=CK.eval K tmps (.code (.cond c x y)::k) ds .run;simp only[CK.fr]at he;simp[stepG,stepG.exec,CK.fr,he,h])
theorem E8 {id:Nat} {c:Code}:Go.step P (lone (K.fr tmps (.code (.block id c)::k) ds .run) cs w)=.next (lone (K.fr tmps (.code c::.inBlock id::k) ds .run) cs w):=
 step_lone_go (by simp[stepG,stepG.exec,CK.fr])
theorem E9 {c:Code}:Go.step P (lone (K.fr tmps (.code (.loop c)::k) ds .run) cs w)=.next (lone (K.fr tmps (.code c::.inLoop c::k) ds .run) cs w):=
 step_lone_go (by simp[stepG,stepG.exec,CK.fr])
theorem Fa {c:Code}:Go.step P (lone (K.fr tmps (.inLoop c::k) ds .run) cs w)=.next (lone (K.fr tmps (.code c::.inLoop c::k) ds .run) cs w):=
 step_lone_go (by simp[stepG,stepG.exec,CK.fr])
theorem Fb {id:Nat} {k':List Go.Item} (h:Go.exitTo id k=some k'):Go.step P (lone (K.fr tmps (.code (.exit id)::k) ds .run) cs w)=.next (lone (K.fr tmps k' ds .run) cs w):=
 step_lone_go (by simp[stepG,stepG.exec,CK.fr,h])
theorem Fc (hr:K.round=none):Go.step P (lone (K.fr tmps (.code .ret::k) ds .run) cs w)=.next (lone (K.fr tmps (.code .ret::k) ds .returning) cs w):=
 step_lone_go (by simp[stepG,stepG.exec,CK.fr,hr])
theorem Fe (hr:K.round=none):Go.step P (lone (K.fr tmps [] ds .run) cs w)=.next (lone (K.fr tmps [] ds .returning) cs w):=
 step_lone_go (by simp[stepG,stepG.exec,CK.fr,hr])
theorem Ff {id:Nat} {ops:Array Oper}:Go.step P (lone (K.fr tmps (.code (.region id ops false)::k) ds .run) cs w)=.next (lone (K.fr tmps (.inRegion ops (List.range ops.size)::k) ds .run) cs w):=
 step_lone_go (by simp[stepG,stepG.exec,CK.fr])
theorem Fg {id:Nat} {ops:Array Oper}:Go.step P (lone (K.fr tmps (.code (.region id ops true)::k) ds .run) cs w)=
 .next (lone (K.fr tmps (.inRegion ops (Region.schedule (P.follows .mixedOrders) ops (w.tape w.drawn (.order K.fn id)))::k) ds .run) cs {w with drawn:=w.drawn+1}):=
 step_lone_go (by simp[stepG,stepG.exec,CK.fr,choose,Sem.run,Question.forced,Question.cut])
end E5
theorem yy {P:Program} {nt:Nat} {ops:Array Oper} {A:Nat->Prop}:∀(l:List Oper) (i:Nat),(∀(j:Nat) I,l[j]? =some I->ops[i+j]? =some I)->
 gT P nt ops A (l.map fun I=>.op (eW P nt ops I)) (List.range' i l.length) (fun _=>False)
 |[],i,_=>.done (fun _ h=>h)
 |I::l,i,h=>by
  have d:=yy (P:=P) (nt:=nt) (ops:=ops) (A:=A) l (i+1) (fun j o hj=>by have:=h (j+1) o (by simpa using hj);rw[<-this];congr 1;omega);have:=gT.dY (P:=P) (nt:=nt) (ops:=ops) (A:=A) (chks:=[]) i I (h 0 I (by simp)) (fun _ _ _ h=>h.elim) (fun _ _ h=>h.elim) d;simpa[List.range'_succ]using this
theorem Fh {P:Program} {nt:Nat} {ops:Array Oper} {A:Nat->Prop}:gT P nt ops A (ops.toList.map fun I=>.op (eW P nt ops I)) (List.range ops.size) (fun _=>False):=by
 have:=yy (P:=P) (nt:=nt) (ops:=ops) (A:=A) ops.toList 0 (fun j I h=>by simpa using h);rw[List.range_eq_range'];simpa using this
def qN (P:Program):Prop:=∀(nt:Nat) (bZ:List Nat) (ops:Array Oper) (rs:List (RS ak)) (t:Nat),drawn P nt bZ ops (dZ P nt ops ops.toList 0 [])=.region rs->
 gT P nt ops (fun t=>t∉bZ) rs (Region.schedule (P.follows .mixedOrders) ops t) (fun _=>False)
variable{bh:List Frame} {f0:Nat}
theorem yz {P:Program} {nt:Nat} {ops:Array Oper} {U:AM} {e:T V} {h:Hp} {tmps:Array Value} (he:eG U e tmps):
 (∀j,(fun _=>False) j->iT P nt ops A [] U e h m j)/\ml P ops e (fun _=>False)/\cB U e tmps (kB ops fun _=>False):=
 ⟨fun _ h=>h.elim,fun _ _ _ _ _ _ _ _ _ _ _ h=>h.elim,fun p v hp _=>he p v hp⟩
theorem ve (D:qN C.P) {U:AM} {Λ:Pa->Prop} {h:Hp} {d:FK} {e:T V} {tmps:Array Value} {defs:List Def} (hk:KR U d K) (hd:ed U defs ds) (he:eG U e tmps) (hs:d.nt<=tmps.size) {ccs:List Frame}:
 ∀(c:Code) (k:List Item) (ck:List Go.Item) (w:World),aS C U Λ h ls w->eI C.P U d.nt (bT C.P d.fn) k ck->
  ∃co w',Steps C.P (lone (K.fr tmps (.code c::ck) ds .run) ccs w) (lone co ccs w')/\aS C U Λ h ls w'/\mo C.P U h m ⟨d,e,eF (cn C.P d.nt (bT C.P d.fn) c) k,defs,.run⟩ co
 |.skip,k,ck,w,s,ht=>⟨_,w,.one yv,s,.run hk hd he hs ht⟩
 |.label l,k,ck,w,s,ht=>⟨_,w,.one yw,s,.run hk hd he hs ht⟩
 |.seq a b,k,ck,w,s,ht=>by
  obtain⟨co,w',o,aj,F⟩:=ve D (ccs:=ccs) hk hd he hs a (.code (cn C.P d.nt (bT C.P d.fn) b)::k) (.code b::ck) w s (.cons (.code b) ht);exact⟨co,w',.head yx o,aj,F⟩
 |.region id ops draw,k,ck,w,s,ht=>by
  cases draw with
  |false=>
   obtain⟨n1,j,B⟩:=yz (P:=C.P) (nt:=d.nt) (ops:=ops) (A:=ij C.P d.fn) (m:=m) (h:=h) he;have hc:cn C.P d.nt (bT C.P d.fn) (.region id ops false)=.region (ops.toList.map fun I=>.op (eW C.P d.nt ops I)):=rfl;rw[hc];exact⟨_,w,.one Ff,s,.cI (chks:=[]) hk hd Fh n1 j B hs ht⟩
  |true=>
   have hc:cn C.P d.nt (bT C.P d.fn) (.region id ops true)=drawn C.P d.nt (bT C.P d.fn) ops (dZ C.P d.nt ops ops.toList 0 []):=rfl;have G:(∃rs,drawn C.P d.nt (bT C.P d.fn) ops (dZ C.P d.nt ops ops.toList 0 [])=.region rs)\/drawn C.P d.nt (bT C.P d.fn) ops (dZ C.P d.nt ops ops.toList 0 [])=.bad:=by
    unfold drawn;cases (C.P.follows .mixedOrders&&(pt ops (dZ C.P d.nt ops ops.toList 0 [])&&qz (bT C.P d.fn) (dZ C.P d.nt ops ops.toList 0 [])))with
    |true=>exact .inl ⟨_,rfl⟩
    |false=>exact .inr rfl
   rcases G with⟨rs,hr⟩|hr
   ·rw[hc,hr];obtain⟨n1,j,B⟩:=yz (P:=C.P) (nt:=d.nt) (ops:=ops) (A:=ij C.P d.fn) (m:=m) (h:=h) he;exact⟨_,_,.one Fg,s.same rfl ⟨rfl,rfl,rfl,ks _⟩,.cI (chks:=[]) hk hd (D d.nt _ ops rs _ hr) n1 j B hs ht⟩
   ·have hp:eF (cn C.P d.nt (bT C.P d.fn) (.region id ops true)) k=.code (cn C.P d.nt (bT C.P d.fn) (.region id ops true))::k:=by rw[hc,hr];(try rfl)
    rw[hp];exact⟨_,w,.refl _ _,s,.run hk hd he hs (.cons (.code _) ht)⟩
 |.cond c a b,k,ck,w,s,ht=>⟨_,w,.refl _ _,s,.run hk hd he hs (.cons (.code (.cond c a b)) ht)⟩
 |.block id b,k,ck,w,s,ht=>⟨_,w,.refl _ _,s,.run hk hd he hs (.cons (.code (.block id b)) ht)⟩
 |.loop b,k,ck,w,s,ht=>⟨_,w,.refl _ _,s,.run hk hd he hs (.cons (.code (.loop b)) ht)⟩
 |.exit id,k,ck,w,s,ht=>⟨_,w,.refl _ _,s,.run hk hd he hs (.cons (.code (.exit id)) ht)⟩
 |.ret,k,ck,w,s,ht=>⟨_,w,.refl _ _,s,.run hk hd he hs (.cons (.code .ret) ht)⟩
 |.scope b,k,ck,w,s,ht=>⟨_,w,.refl _ _,s,.run hk hd he hs (.cons (.code (.scope b)) ht)⟩
 |.goto l,k,ck,w,s,ht=>⟨_,w,.refl _ _,s,.run hk hd he hs (.cons (.code (.goto l)) ht)⟩
 |.refuse y,k,ck,w,s,ht=>⟨_,w,.refl _ _,s,.run hk hd he hs (.cons (.code (.refuse y)) ht)⟩
 |.rangeFunc f ps a b,k,ck,w,s,ht=>by
  have:eF (cn C.P d.nt (bT C.P d.fn) (.rangeFunc f ps a b)) k=.code (cn C.P d.nt (bT C.P d.fn) (.rangeFunc f ps a b))::k:=by
   simp only[cn];cases (ps.toList.all fun t=>Nat.blt t d.nt)<;>rfl
  rw[this];exact⟨_,w,.refl _ _,s,.run hk hd he hs (.cons (.code (.rangeFunc f ps a b)) ht)⟩
end Go.Ev
