/- A part of the proof of glacislaw13.LiveTrees (made short by a program). -/
import Derived.Test.YtebhegkangheiaaGreatDoorTM
import Derived.Shelf.SlSortCmp.WholeK
namespace Go.Ev
open Go Go.Sort Go.Proofs
def jt (x y:ah):Int:=if x.addr<y.addr then-1 else if x.addr>y.addr then 1 else if x.gen<y.gen then-1 else if x.gen>y.gen then 1 else 0
def e7 (x y:ah):Bool:=decide (x.addr<y.addr)||(decide (x.addr=y.addr)&&decide (x.gen<=y.gen))
def o1 (p:ah):List ah->List ah
 |[]=>[p]
 |a::l=>if e7 p a then p::a::l else a::o1 p l
def fJ:List ah->List ah
 |[]=>[]
 |a::l=>o1 a (fJ l)
theorem xb (p:ah):∀l,(o1 p l).Perm (p::l)
 |[]=>.refl _
 |a::l=>by
  unfold o1;split
  ·exact .refl _
  ·exact((xb p l).cons a).trans (.swap p a l)
theorem tU:∀l,(fJ l).Perm l
 |[]=>.refl _
 |a::l=>(xb a _).trans ((tU l).cons a)
theorem lZ {x y:ah}:e7 x y=true↔x.addr<y.addr\/(x.addr=y.addr/\x.gen<=y.gen):=by unfold e7;simp
theorem Nl (x y:ah):e7 x y=true\/e7 y x=true:=by rw[lZ,lZ];omega
theorem Nn {x y z:ah} (h:e7 x y=true) (k:e7 y z=true):e7 x z=true:=by rw[lZ]at*;omega
theorem Ca {x y:ah} (h:e7 x y=true) (k:e7 y x=true):x=y:=by
 rw[lZ]at*;have o:x.addr=y.addr:=by omega
 have aj:x.gen=y.gen:=by omega
 cases x;cases y;simp_all
theorem Cb (p:ah):∀{l:List ah},l.Pairwise (fun a b=>e7 a b=true)->(o1 p l).Pairwise (fun a b=>e7 a b=true)
 |[],_=>by simp[o1]
 |a::l,h=>by
  rw[jU]at h;unfold o1;split
  ·rename_i hp;rw[jU,jU];refine⟨fun b d=>?_,h⟩;rcases bS.1 d with rfl|d
   ·exact hp
   ·exact Nn hp (h.1 b d)
  ·rename_i hp;rw[jU];refine⟨fun b d=>?_,Cb p h.2⟩;rcases bS.1 ((xb p l).mem_iff.1 d)with rfl|d
   ·exact(Nl a b).resolve_right hp
   ·exact h.1 b d
theorem xd:∀l,(fJ l).Pairwise (fun a b=>e7 a b=true)
 |[]=>.nil
 |a::l=>Cb a (xd l)
theorem Cc:∀{l m:List ah},l.Perm m->l.Pairwise (fun a b=>e7 a b=true)->m.Pairwise (fun a b=>e7 a b=true)->l=m
 |[],m,h,_,_=>by rw[h.nil_eq]
 |a::l,[],h,_,_=>by have:=h.length_eq;simp at this
 |a::l,b::m,h,o,aj=>by
  have j:a=b:=by
   rcases bS.1 (h.mem_iff.1 (dc:a∈a::l))with e|e
   ·exact e
   ·rcases bS.1 (h.mem_iff.2 (dc:b∈b::m))with d|d
    ·exact d.symm
    ·exact Ca ((jU.1 o).1 b d) ((jU.1 aj).1 a e)
  subst j;rw[Cc ((List.perm_cons a).1 h) (jU.1 o).2 (jU.1 aj).2]
theorem rL (l:List ah):(fJ l).length=l.length:=(tU l).length_eq
instance:Inhabited ah:=⟨⟨0,0⟩⟩
theorem Cd (x y:ah):ltOf jt x y=true↔e7 y x=false:=by
 unfold ltOf;rw[aR,l2,Ne,lZ];unfold jt;split<;>(try split)<;>(try split)<;>(try split)<;>omega
theorem xe (x y:ah):ltOf jt x y=false↔e7 y x=true:=by
 have:=Cd x y;cases o:ltOf jt x y<;>cases aj:e7 y x<;>simp_all
theorem No:SWO (ltOf jt)where
 irrefl x:=by rw[xe,lZ];omega
 trans x y z h k:=by rw[Cd,l2,Ne,lZ]at*;omega
 ntrans x y z h k:=by rw[xe,lZ]at*;omega
def dQ (p:ah):List Value:=[.int .i64 p.addr,.int .i64 p.gen]
def l0:List V->Option (List ah)
 |[]=>some []
 |x::r=>match x with
  |.int k a=>match k with
   |.i64=>match r with
    |y::d=>match y with
     |.int j b=>match j with
      |.i64=>(l0 d).map (⟨a,b⟩::·)
      |_=>none
     |_=>none
    |[]=>none
   |_=>none
  |_=>none
theorem Ce:∀(n:Nat) {xs:List V} {l:List ah},xs.length<=n->l0 xs=some l->xs=aq.fl l
 |_,[],l,_,h=>by simp only[l0,aL]at h;subst h;rfl
 |0,x::r,l,hn,_=>by simp at hn
 |n+1,x::r,l,hn,h=>by
  unfold l0 at h;cases x<;>simp only at h<;>(try(cases h;done))
  rename_i k a;cases k<;>simp only at h<;>(try(cases h;done))
  cases r with
  |nil=>cases h
  |cons y d=>
   simp only at h;cases y<;>simp only at h<;>(try(cases h;done))
   rename_i j b;cases j<;>simp only at h<;>(try(cases h;done))
   cases hr:l0 d with
   |none=>rw[hr]at h;cases h
   |some l'=>
    rw[hr]at h;simp only[dM,aL]at h;subst h;rw[Ce n (by simp at hn;omega) hr];(try rfl)
theorem Cf:∀l:List ah,l0 (aq.fl l)=some l
 |[]=>rfl
 |⟨a,b⟩::l=>by
  show(l0 (aq.fl l)).map (⟨a,b⟩::·)=_;rw[Cf l];(try rfl)
noncomputable def jQ (j:Nat):List V->Hp->Option (V×Hp):=fun args h=>match args with
 |[x,y]=>match y with
  |.fn g a2=>match a2 with
   |[]=>bif Nat.beq g j then match x with
    |.sl a I n _=>bif Nat.ble n 1000000000 then match h.get a with
     |some b=>match b with
      |.cells _ d=>bif d then none else match n with
       |0=>none
       |_+1=>match h.b1 a I (n*2)with
        |some xs=>match l0 xs with
         |some l=>match h.cG a I (aq.fl (fJ l))with
          |some h'=>some (.aN [],h')
          |none=>none
         |none=>none
        |none=>none
      |_=>none
     |none=>none else none
    |.no k=>match k with
     |.sl=>some (.aN [],h)
     |_=>none
    |_=>none else none
   |_::_=>none
  |_=>none
 |_=>none
theorem Cg {U:AM}:∀{l:List ah} {cs:List Value},bd U (aq.fl l) cs->cs=l.flatMap dQ
 |[],cs,h=>by cases h;rfl
 |p::l,cs,h=>by
  have aj:bd U (.int .i64 p.addr::.int .i64 p.gen::aq.fl l) cs:=h;cases aj with
  |cons _ eH _ B d o=>
   cases o with
   |cons _ Pf _ D j A=>
    cases d;cases j;rw[Cg A];(try rfl)
theorem Ch {U:AM}:∀(l:List ah),bd U (aq.fl l) (l.flatMap dQ)
 |[]=>.nil
 |_::l=>.cons _ _ _ _ (.int _ _) (.cons _ _ _ _ (.int _ _) (Ch l))
theorem xf:∀(l:List ah) (t:Nat),t<l.length*2->(l.flatMap dQ)[t]? =some ((dQ (l.toArray)[t/2]!)[t%2]!)
 |[],t,h=>by simp at h
 |_::_,0,_=>by simp[dQ]
 |_::_,1,_=>by simp[dQ]
 |p::l,t+2,h=>by
  have A:=xf l t (by simp at h;omega);have d:(t+2)/2=t/2+1:=by omega
  have j:(t+2)%2=t%2:=by omega
  rw[d,j];show(dQ p++l.flatMap dQ)[t+2]? =_;rw[db (by simp[dQ])];have o:t+2-(dQ p).length=t:=by simp[dQ]
  rw[o,A];simp
theorem Ci {C:Cx} {ls:List LE} {U:AM} {Λ:Pa->Prop} {h:Hp} {w:World} (s:aS C U Λ h ls w) {a:Pa} {L:Loc} {B:List V} (Y:U a=some L) (R:h.get a=some (.cells B false)) {I n:Nat} {l l':List ah} (hn:n=l.length) (W:l'.length=n) (hl:h.b1 a I (n*2)=some (aq.fl l)) {h':Hp} (d:h.cG a I (aq.fl l')=some h') (m:Nat) (os:Array Obj) (dl:C.sd=false):
 HoldsK dQ 2 w L.aw (L.base+I) l.toArray/\L.aw<w.heap.size/\aS C U Λ h' ls (sortWorldK dQ 2 w L.aw (L.base+I) m l'.toArray os)/\h'.next=h.next:=by
 obtain⟨ay,A,el,fr,G,aj,Z,⟨aB,ac⟩,ak⟩:=s.FR Y R;obtain⟨cs,eH,Pf,Pm⟩:=s.FQ Y hl;have an:=Cg Pf;have ao:L.aw<w.heap.size:=(gI.1 G).1;unfold bn.cG at d;rw[R]at d;simp only[bw]at d;have ar:aY (aq.fl l')=true:=iW l';rw[ar]at d;simp only[aE]at d;cases ch:cT I B (aq.fl l')with
 |none=>rw[ch]at d;cases d
 |some az=>
 rw[ch]at d;simp only[aL]at d;subst d;obtain⟨am,D⟩:=qB ch;have F:(aq.fl l').length=n*2:=by rw[gz,W];(try rfl)
 rw[F]at am D;have aC:L.base+I+n*2<=A.size:=by omega
 refine⟨fun j hj=>?_,ao,?_,rfl⟩
 ·have ag:j<l.length*2:=by simpa using hj
  have o:=xf l j ag;rw[<-an]at o;refine⟨?_,x9 G Z (by omega)⟩;rw[Pm j _ o];show _=some (id _);rw[get_flatK _ _ _ _ (by simpa using ag)];(try rfl)
 ·
  obtain⟨cs',O⟩:∃cs',cs'=putCells id (L.base+I) (flatK dQ 2 l'.toArray) A:=⟨_,rfl⟩
  have Q:cs'.size=A.size:=by rw[O];simp[putCells]
  have av:(putRowK dQ 2 (Sort.ahead w m) L.aw (L.base+I) l'.toArray).heap[L.aw]? =some (.cells cs' el fr):=by
   show(w.heap.modify L.aw _)[L.aw]? =_;rw[mX,ae rfl,G];show some (onCells _ (.cells A el fr))=_;rw[O];(try rfl)
  have ht:gx w (putRowK dQ 2 (Sort.ahead w m) L.aw (L.base+I) l'.toArray) L.aw:=by
   refine⟨?_,fun i hi=>?_,rfl,rfl,rfl,qe _ _⟩
   ·show(w.heap.modify L.aw _).size=_;simp
   ·show(w.heap.modify L.aw _)[i]? =_;rw[mX,ab (Ne.symm hi)]
  have aA:=s.oe Y ay R rfl rfl ht (b':=.cells az false) ⟨cs',el,fr,av,by rw[Q];exact aj,by rw[Q];exact Z,⟨by rw[Q,D];simp;omega,fun i v hv=>?_⟩,ak⟩
  ·exact aA.below dl ⟨rfl,rfl,rfl,by show _<=(_++os).size;rw[rT];exact qe _ _,fun k hk=>by
    show(_++os)[k]? =_;exact p7 hk⟩
  ·have hi:i<B.length:=by
    have:=(dS.1 hv).1;rw[D]at this;simp at this;omega
   rw[D]at hv;have S:cs'[L.base+i]? =if L.base+I<=L.base+i/\L.base+i<L.base+I+n*2 then some ((flatK dQ 2 l'.toArray)[L.base+i-(L.base+I)]!)else A[L.base+i]? :=by
    rw[O];unfold putCells;rw[Array.getElem?_mapIdx];have au:(flatK dQ 2 l'.toArray).size=n*2:=by rw[size_flatK];simp[W]
    rw[au];have ap:L.base+i<A.size:=by omega
    rw[Array.getElem?_eq_getElem ap];simp only[dM];split<;>rfl
   by_cases O9:i<I
   ·rw[bp,dt (by simp;omega),rM O9]at hv;rw[S,ab (by omega)];exact ac i v hv
   ·by_cases Po:i<I+n*2
    ·rw[bp,db (by simp;omega),dt (by simp[F];omega)]at hv;have M:i-(B.take I).length=i-I:=by simp;omega
     rw[M]at hv;obtain⟨c,ai,k2⟩:=(Ch (U:=U) l').get hv;rw[S,ae (by omega)];refine⟨_,rfl,?_⟩;have al:L.base+i-(L.base+I)=i-I:=by omega
     rw[al,get_flatK _ _ _ _ (by simp[W];omega)];rw[xf l' _ (by omega)]at ai;cases ai;exact k2
    ·rw[db (by simp[F];omega),gJ]at hv;have M:I+n*2+(i-(B.take I++aq.fl l').length)=i:=by simp[F];omega
     rw[M]at hv;rw[S,ab (by omega)];exact ac i v hv
theorem Np {d d':Array ah} (hp:PermIn 0 d.size d d') (hs:SortedIn (ltOf jt) 0 d.size d'):d'=(fJ d.toList).toArray:=by
 obtain⟨o,_,h⟩:=hp;have A:(d'.extract 0 d.size).toList=d'.toList:=by rw[<-o];simp
 have B:(d.extract 0 d.size).toList=d.toList:=by simp
 rw[A,B]at h;have I:d'.toList.Pairwise (fun a b=>e7 a b=true):=by
  rw[List.pairwise_iff_getElem];intro i j hi hj F;have:=hs i j (cS _) F (by rw[<-o];simpa using hj);rw[xe]at this;have D:i<d'.size:=by simpa using hi
  have G:j<d'.size:=by simpa using hj
  rw[getElem!_pos d' i D,getElem!_pos d' j G]at this;simpa using this
 have:=Cc (h.trans (tU _).symm) I (xd _);rw[<-this]
theorem Nq {h:Hp} {a:Pa} {I n:Nat} {l:List V} (hl:h.b1 a I n=some l):l.length=n:=by
 unfold bn.b1 at hl;cases hc:h.cells a with
 |none=>simp[hc]at hl
 |some m=>
  simp only[hc,lq]at hl;obtain⟨o,aj⟩:=od hl;rw[aj,cE];omega
theorem Nr {P:Program} {f g:Nat}
 (hc:∀(aw off cap:Nat) (d:Array ah) (w:World),HoldsK dQ 2 w aw off d->aw<w.heap.size->d.size<4611686018427387904->
   Calls P f #[.slice (some ⟨aw,off,none⟩) d.size cap,.func (.func g) #[] #[]] w fun e w'=>e=.returned (.tuple #[])/\∃d' n os,PermIn 0 d.size d d'/\SortedIn (ltOf jt) 0 d.size d'/\w'=sortWorldK dQ 2 w aw off n d' os)
 (ag:∀w,Calls P f #[.slice none 0 0,.func (.func g) #[] #[]] w fun e w'=>e=.returned (.tuple #[])/\Kept w w'):pB P f (jQ g):=by
 intro C U Λ h ls w args ce v h' ap dl s ha j;cases ha with
 |nil=>cases j
 |cons x an r W hx hr=>
 cases hr with
 |nil=>cases j
 |cons y ao r W ak hr=>
 cases hr with
 |cons=>cases j
 |nil=>
 simp only[jQ]at j;cases y<;>simp only at j<;>(try(cases j;done))
 rename_i Y a2;cases a2 with
 |cons=>cases j
 |nil=>
 simp only at j;cases G:Nat.beq Y g with
 |false=>rw[G]at j;cases j
 |true=>
 have:=dG G;subst this;rw[G]at j;simp only[aE]at j;cases ak with
 |fn _ _ _ ae=>
 cases ae;cases x<;>simp only at j<;>(try(cases j;done))
 case no k=>
  cases k<;>simp only at j<;>(try(cases j;done))
  simp only[aL,dH]at j;obtain⟨rfl,rfl⟩:=j;cases hx;refine(ag w).mono fun e w' M=>?_;obtain⟨rfl,o,aj,Z⟩:=M;refine⟨_,U,Λ,rfl,AM.le_refl U,?_,.aN [] [] .nil,fun a o aj=>absurd o aj,aB _⟩
  exact{fQ:=s.fQ,aw:=fun a L ha Q=>let⟨b,ab,ac⟩:=s.aw a L ha Q;⟨b,ab,ac.mono (AM.le_refl U) (fun _ _ h=>h) (aj _ (s.lt ha Q))⟩,
        inj:=s.inj,live:=s.live,wr:=s.wr,low:=fun i hi=>by rw[aj i (kl hi s.size)];exact s.low i hi,
        size:=fL s.size o,still:=s.still.xF dl Z,fresh:=s.fresh,gS:=s.gS}
 case sl a I n c=>
  cases F:Nat.ble n 1000000000 with
  |false=>rw[F]at j;cases j
  |true=>
  have ar:=eT F;rw[F]at j;simp only[aE]at j;cases B:h.get a with
  |none=>rw[B]at j;cases j
  |some b=>
  rw[B]at j;simp only at j;cases b<;>simp only at j<;>(try(cases j;done))
  rename_i av ec;cases ec with
  |true=>simp only[aE]at j;cases j
  |false=>
  simp only[bw]at j;cases n with
  |zero=>cases j
  |succ n=>
  simp only at j;cases hl:h.b1 a I ((n+1)*2)with
  |none=>rw[hl]at j;cases j
  |some xs=>
  rw[hl]at j;simp only at j;cases hp:l0 xs with
  |none=>rw[hp]at j;cases j
  |some l=>
  rw[hp]at j;simp only at j;cases D:h.cG a I (aq.fl (fJ l))with
  |none=>rw[D]at j;cases j
  |some aj=>
  rw[D]at j;simp only[aL,dH]at j;obtain⟨rfl,rfl⟩:=j;have ai:=Ce xs.length (aB _) hp;subst ai;have A:l.length=n+1:=by
   have o:=Nq hl;rw[gz]at o;have e:aq.k=2:=rfl;rw[e]at o;omega
  cases hx with
  |sl _ _ _ _ L capC R hn au=>
   obtain⟨al,am,_,_⟩:=Ci s R B (n:=n+1) (l:=l) (l':=fJ l) A.symm (by rw[rL,A]) hl D 0 #[] dl;have O:l.toArray.size=n+1:=by simpa using A
   have:=hc L.aw (L.base+I) capC l.toArray w al am (by rw[O];omega);rw[O]at this;refine this.mono fun e w' M=>?_;obtain⟨rfl,d',m,os,S,k2,rfl⟩:=M;rw[<-O]at S k2;have hd:=Np S k2;subst hd;obtain⟨_,_,t3,t4⟩:=Ci s R B (n:=n+1) (l:=l) (l':=fJ l) A.symm (by rw[rL,A]) hl D m os dl;exact⟨_,U,Λ,rfl,AM.le_refl U,t3,.aN [] [] .nil,fun a o aj=>absurd o aj,by rw[t4];exact aB _⟩
end Go.Ev
namespace Go.Ev
variable{F:Nat->Option aP} {O:Fz}
def mR (a b:Int):Int:=if a<b then-1 else if a>b then 1 else 0
def mS:List Int->Int
 |[]=>0
 |a::l=>if a≠0 then a else mS l
theorem Ns (x y:ah):mS [mR x.addr y.addr,mR x.gen y.gen]=jt x y:=by
 unfold mS mS mS mR jt;split<;>(try split)<;>(try split)<;>(try split)<;>(try split)<;>(try split)<;>omega
theorem Cj [Fx F] {a:Int}:bm F 79 [.j a] O (.bool false):=by
 refine ai.al (ar ?_);refine S.bin ?_;refine⟨_,.t rfl .nil,.done ?_⟩;show V.bool _=_;simp
theorem Ck [Fx F] {a b:Int}:bm F 41 [.j a,.j b] O (.j (mR a b)):=by
 refine ai.al (ar ?_);refine S.al (Cj) ?_;refine S.al (Cj) ?_;refine C.B (fun Pg=>?_) fun Pg=>?_
 ·cases Pg
 ·refine C.B (fun O6=>?_) fun O6=>?_
  ·cases O6
  ·refine S.bin ?_;refine C.D (fun O3=>?_) fun O3=>?_
   ·exact⟨_,.t rfl .nil,.done (by unfold mR;rw[ae O3];(try rfl))⟩
   ·refine S.bin ?_;refine C.D (fun OZ=>?_) fun OZ=>?_
    ·exact⟨_,.t rfl .nil,.done (by unfold mR;rw[ab O3,ae OZ];(try rfl))⟩
    ·exact⟨_,.t rfl .nil,.done (by unfold mR;rw[ab O3,ab OZ];(try rfl))⟩
theorem Nt [Fx F] {v:V} {l:List Int} (hl:aa bt O v l) (hlen:l.length<=1000000):bm F 40 [v] O (.j (mS l)):=by
 refine ai.al (ar ?_);refine S.len ?_ (hl:=aa.len hl);refine SW.loop (fun m E ψ R=>∃j:Nat,j+m=l.length/\mS l=mS (l.drop j)/\O=ψ/\R=[]/\Sub [(3,.j 0),(6,v),(7,.j (l.length:Int)),(8,.j (j:Int))] E) (m:=l.length) ⟨0,by omega,rfl,rfl,rfl,.r rfl⟩ ?_;intro A E ψ R I o;obtain⟨j,hm,d,rfl,rfl,h⟩:=o;refine C.sub h ?_;refine S.bin ?_;refine C.D (fun O7=>?_) fun O7=>?_
 ·have hj:j<l.length:=by omega
  rw[bQ hj]at d;simp only[mS]at d;refine S.aF hl hj fun L G=>?_;refine S.a1 ?_;refine S.bin ?_;refine C.B (fun O0=>?_) fun O0=>?_
  ·rw[ae (by simpa using O0)]at d;refine⟨_,.t rfl .nil,.done ?_⟩;rw[d];(try rfl)
  ·rw[ab (by simpa using O0)]at d;refine S.bin ?_;exact⟨A-1,by omega,j+1,by omega,d,rfl,rfl,.r rfl⟩
 ·obtain rfl:j=l.length:=by omega
  rw[b6]at d;refine⟨_,.t rfl .nil,.done ?_⟩;rw[d];(try rfl)
theorem Nu [Fx F] (x y:ah):SW F ⟨⟨39,17,false,none⟩,fun _=>True⟩ B.qW.den [(0,.agg [.j x.addr,.j x.gen]),(1,.agg [.j y.addr,.j y.gen])] O [] (mz [(pa 4,none)] (fun u _ _=>u=.j (jt x y)) never):=by
 show SW F _ B.qW.den [(0,.agg [.j x.addr,.j x.gen]),(1,.agg [.j y.addr,.j y.gen])] O [] _;refine SC.w ?_;refine S.box fun A=>?_;refine S.box fun a3=>?_;refine S.ld 1 ?_;refine S.ld 0 ?_;refine S.ld 1 ?_;refine S.ld 0 ?_;refine S.al (Ck) ?_;refine S.bE 0 ?_;refine S.bE 1 ?_;refine S.al (Ck) ?_;refine S.a8 fun d=>?_;have o:af bt (.sl d 0 2 (.ex 2)) [mR x.addr y.addr,mR x.gen y.gen] (some d):=af.new rfl;refine S.cd 0 o fun G D h=>?_;refine S.al (Nt h (by simp)) ?_;rw[Ns];exact⟨_,.t rfl .nil,.none rfl⟩
theorem Nv (hs:F 38=some (.cA (jQ 39))) {v:V} {l:List ah} {s:Option Pa} (ho:af aq v l s) (h0:l=[]->v=.no .sl) (hl:l.length<=1000000000):
 ai F 38 [v,.fn 39 []] O [aq.ob s l] (fun _ ψ R=>ψ=O/\R=[aq.ob s (fJ l)]) never:=fun ad h sh=>by
 have j:Nat.beq 39 39=true:=dU _;cases l with
 |nil=>
  have:=h0 rfl;subst this;refine .inl ⟨.aN [],h,vr hs ?_,O,[aq.ob s []],.refl O,sh,rfl,rfl⟩;simp only[jQ,j,aE]
 |cons p l=>
  have A:∃a c,v=.sl a 0 (p::l).length c/\s=some a:=by
   rcases ho.2.2 with⟨_,o,_⟩|⟨a,rfl,aj⟩|⟨a,rfl,aj⟩
   ·simp at o
   ·exact⟨a,_,rfl,aj⟩
   ·exact⟨a,_,rfl,aj⟩
  obtain⟨a,c,rfl,rfl⟩:=A;have d:h.get a=some (.cells (aq.fl (p::l)) false):=sh.fy (i:=0) rfl;have hlen:(aq.fl (p::l)).length=(p::l).length*2:=gz _;have o:h.b1 a 0 ((p::l).length*2)=some (aq.fl (p::l)):=by
   have:=yN (h:=h) (a:=a) (I:=0) (n:=(p::l).length*2) (m:=aq.fl (p::l)) (by unfold bn.cells;rw[d];(try rfl)) (by omega);rw[this,nb,<-hlen,dT]
  have aj:h.cG a 0 (aq.fl (fJ (p::l)))=some (h.put a (.cells (aq.fl (fJ (p::l))) false)):=
   sO d (iW _) (w7 (by rw[gz,gz,rL]))
  refine .inl ⟨.aN [],h.put a (.cells (aq.fl (fJ (p::l))) false),vr hs ?_,O,_,.refl O,sh.pI (i:=0) rfl _,rfl,rfl⟩;have hn:Nat.ble (p::l).length 1000000000=true:=hA hl;simp only[jQ,j,aE,hn,d,bw];show(match h.b1 a 0 ((p::l).length*2)with
   |some xs=>match l0 xs with
    |some l=>match h.cG a 0 (aq.fl (fJ l))with
     |some h'=>some (V.aN [],h')
     |none=>none
    |none=>none
   |none=>none)=_
  rw[o];simp only[Cf,aj]
end Go.Ev
set_option maxHeartbeats 1000000
namespace Go.Ev
variable{F:Nat->Option aP} {O:Fz}
theorem Nw (a b:ah):b0 .eql (.agg [(0,.i),(1,.i)]) (.agg (aq.f a)) (.agg (aq.f b))=some (.bool (decide (a=b))):=by
 have h:=v8 a b;have aj:∀I:Option Bool,I.map (fun b=>V.bool (!b))=some (.bool (!decide (a=b)))->I.map V.bool=some (.bool (decide (a=b))):=by
  intro I ho;cases I with
  |none=>cases ho
  |some c=>simp only[dM,aL,V.bool.injEq]at ho⊢;revert ho;cases c<;>cases decide (a=b)<;>simp
 exact aj _ h
def o2 (d:List ah) (p:ah):List ah:=if d.getLast? =some p then d else d++[p]
def ec (l:List ah):List ah:=l.foldl o2 []
theorem xg (l:List ah) (p:ah):ec (l++[p])=o2 (ec l) p:=by unfold ec;rw[rR];(try rfl)
theorem Cl (d:List ah) (p:ah):(o2 d p).getLast? =some p:=by
 unfold o2;split
 ·assumption
 ·simp
theorem Cm {l:List ah} {i:Nat} (o:1<=i) (hi:i<l.length):ec (l.take (i+1))=if l[i]=l[i-1]'(by omega)then ec (l.take i)else ec (l.take i)++[l[i]]:=by
 rw[fm hi,xg];obtain⟨j,rfl⟩:∃j,i=j+1:=⟨i-1,by omega⟩
 have hl:(ec (l.take (j+1))).getLast? =some (l[j]'(by omega)):=by
  rw[fm (by omega),xg];exact Cl _ _
 unfold o2;rw[hl];show _=if l[j+1]=l[j]'(by omega)then _ else _
 by_cases he:l[j+1]=l[j]'(by omega)
 ·rw[ae (by rw[he]),ae he]
 ·rw[ab (by rw[aL];exact fun h=>he h.symm),ab he]
theorem Ny (l:List ah) (h:0<l.length):ec (l.take 1)=l.take 1:=by
 cases l with
 |nil=>simp at h
 |cons a l=>rfl
theorem Nz (l:List ah) (h:l.length<2):ec l=l:=by
 match l,h with
 |[],_=>rfl
 |[a],_=>rfl
theorem Cn (n:Nat):c5 [(.j 0),(.j 0)] n=aq.fl (List.replicate n ⟨0,0⟩):=JS (e:=aq) ⟨0,0⟩ n
theorem NA {m:List ah} {k:Nat} (hk:k<=m.length):cT (k*2) (aq.fl m) (c5 [(.j 0),(.j 0)] (m.length-k))=some (aq.fl (m.take k++List.replicate (m.length-k) ⟨0,0⟩)):=by
 have d:aq.k=2:=rfl;have o:(aq.fl m).length=m.length*2:=gz _;have aj:(aq.fl (List.replicate (m.length-k) (⟨0,0⟩:ah))).length=(m.length-k)*2:=by rw[gz,k0];(try rfl)
 rw[Cn,zn (by rw[o,aj];omega),aj,nD];have h:(aq.fl m).take (k*2)=aq.fl (m.take k):=by have:=s0 (e:=aq) m k;rw[d]at this;exact this
 rw[h,jS (by rw[o];omega),e9]
theorem ND [Fx F] {v:V} {l:List ah} {s:Option Pa} (ho:af aq v l s) (hl:l.length<=1000000):
 ai F 42 [v] O [aq.ob s l] (fun r ψ R=>R=[]/\aa aq ψ r (ec l)) never:=by
 refine ar ?_;refine S.len ?_ (hl:=af.len ho);refine S.bin ?_;refine C.D (fun Pc=>?_) fun Pc=>?_
 ·exact⟨_,.t rfl .nil,.bL 0 rfl ho fun ψ aL A=>.done ⟨rfl,by rw[Nz l (by omega)];exact A⟩⟩
 ·obtain⟨a,c,rfl,rfl⟩:∃a c,v=.sl a 0 l.length c/\s=some a:=by
   rcases ho.2.2 with⟨_,o,_⟩|⟨a,rfl,aj⟩|⟨a,rfl,aj⟩
   ·omega
   ·exact⟨a,_,rfl,aj⟩
   ·exact⟨a,_,rfl,aj⟩
  have al:∀m:List ah,m.length=l.length->af aq (.sl a 0 l.length c) m (some a):=fun m hm=>by
   rcases ho.2.2 with⟨o,_⟩|⟨b,o,aj⟩|⟨b,o,aj⟩
   ·cases o
   ·cases o;exact⟨by rw[gz],iW _,.inr (.inl ⟨a,by rw[hm],rfl⟩)⟩
   ·cases o;exact⟨by rw[gz],iW _,.inr (.inr ⟨a,by rw[hm],rfl⟩)⟩
  refine SW.loop (fun m E ψ R=>∃k:Nat,k+m=l.length/\1<=k/\ec (l.take k)=l.take k/\O=ψ/\R=[aq.ob (some a) l]/\Sub [(0,.sl a 0 l.length c),(3,.j (k:Int))] E) (m:=l.length-1) ⟨1,by omega,by omega,Ny l (by omega),rfl,rfl,.r rfl⟩ ?_;intro aM E ψ R aI ac;obtain⟨k,aV,aF,G,rfl,rfl,Z⟩:=ac;refine C.sub Z ?_;refine S.len ?_ (hl:=af.len ho);refine S.bin ?_;refine C.D (fun O6=>?_) fun O6=>?_
  ·have hk:k<l.length:=by omega
   have L:=Cm aF hk;refine S.ct ho hk fun aQ ay=>?_;cases ay;refine S.qY (e:=aq) (l:=l) 0 hk ?_;refine S.bin ?_ (v:=.j ((k-1:Nat):Int)) (hv:=by rw[fU (by omega) (by omega)];congr 2;omega);refine S.ct ho (j:=k-1) (by omega) fun aS az=>?_;cases az;refine S.qY (e:=aq) (l:=l) (j:=k-1) 0 (by omega) ?_;refine S.bin ?_ (hv:=Nw l[k] (l[k-1]'(by omega)));refine C.D (fun OW=>?_) fun OW=>?_
   ·rw[ae (by simpa using OW)]at L;obtain⟨aR,aO,Pf,aD,aJ,ag⟩:=af.lo ho (j:=k) (by omega) (by omega);cases aD;have ag:aO=k*2:=by rcases ag with h|h;exact h;omega
    subst ag;refine S.slice aJ ?_;refine SW.loop (fun m E ψ R=>∃(k2 d:Nat) (m':List ah),k+k2+m=l.length/\1<=k2/\d+1<=k+k2/\m'.length=l.length/\m'.take d=ec (l.take (k+k2))/\(∀i,k+k2<=i+1->m'[i]? =l[i]?)/\O=ψ/\R=[aq.ob (some a) m']/\Sub [(0,.sl a 0 l.length c),(3,.j (d:Int)),(4,.sl a (k*2) (l.length-k) Pf),(5,.j (k2:Int))] E) (m:=l.length-(k+1)) ⟨1,k,l,by omega,by omega,by omega,rfl,by rw[L,G],fun i hi=>rfl,rfl,rfl,.r rfl⟩ ?_;intro au E ψ R aI ac;obtain⟨k2,d,m',aW,aT,aU,U,W,Q,rfl,rfl,Z⟩:=ac;refine C.sub Z ?_;refine S.len ?_ (n:=l.length-k);refine S.bin ?_;refine C.D (fun av=>?_) fun av=>?_
    ·have ap:k+k2<l.length:=by omega
     have M:=Cm (i:=k+k2) (by omega) ap;have am:af aq (.sl a 0 l.length c) m' (some a):=al m' U;have ao:m'[k+k2]'(by omega)=l[k+k2]:=by
      have:=Q (k+k2) (by omega);rw[bj (by omega),bj ap]at this;exact rU this
     have aw:m'[k+k2-1]'(by omega)=l[k+k2-1]'(by omega):=by
      have:=Q (k+k2-1) (by omega);rw[bj (by omega),bj (by omega)]at this;exact rU this
     refine S.qV (n:=l.length-k) (I:=k*2) (j:=k2) (by omega) ?_;rw[show k*2+k2*2=(k+k2)*aq.k by show _=_*2;omega];refine S.qY (e:=aq) (l:=m') (j:=k+k2) 0 (by omega) ?_;rw[ao];refine S.bin ?_ (v:=.j ((k2-1:Nat):Int)) (hv:=by rw[fU (by omega) (by omega)];congr 2;omega);refine S.qV (n:=l.length-k) (I:=k*2) (j:=k2-1) (by omega) ?_;rw[show k*2+(k2-1)*2=(k+k2-1)*aq.k by show _=_*2;omega];refine S.qY (e:=aq) (l:=m') (j:=k+k2-1) 0 (by omega) ?_;rw[aw];refine S.bin ?_ (hv:=v8 l[k+k2] (l[k+k2-1]'(by omega)));refine C.B (fun Y=>?_) fun Y=>?_
     ·rw[ab (by simpa using Y)]at M;refine S.qV (n:=l.length-k) (I:=k*2) (j:=k2) (by omega) ?_;rw[show k*2+k2*2=(k+k2)*aq.k by show _=_*2;omega];refine S.qY (e:=aq) (l:=m') (j:=k+k2) 0 (by omega) ?_;rw[ao];refine S.ct am (j:=d) (by omega) fun a51 aA=>?_;cases aA;refine S.kK (e:=aq) (l:=m') (j:=d) l[k+k2] 0 ?_ (hj:=by omega);refine S.bin ?_ (v:=.j ((d+1:Nat):Int)) (hv:=by rw[dz (by omega) (by omega)];(try rfl));refine S.bin ?_ (v:=.j ((k2+1:Nat):Int)) (hv:=by rw[dz (by omega) (by omega)];(try rfl));refine⟨au-1,by omega,k2+1,d+1,m'.set d l[k+k2],by omega,by omega,by omega,by simpa using U,?_,fun i hi=>?_,rfl,rfl,.r rfl⟩
      ·rw[show k+(k2+1)=k+k2+1 by omega,M,<-W,fm (by simp;omega),List.take_set_of_le (aB _),ua]
      ·rw[List.getElem?_set_ne (by omega)];exact Q i (by omega)
     ·refine S.bin ?_ (v:=.j ((k2+1:Nat):Int)) (hv:=by rw[dz (by omega) (by omega)];(try rfl));rw[ae (by simpa using Y)]at M;exact⟨au-1,by omega,k2+1,d,m',by omega,by omega,by omega,U,by rw[show k+(k2+1)=k+k2+1 by omega,M,W],fun i hi=>Q i (by omega),rfl,rfl,.r rfl⟩
    ·have aH:k+k2=l.length:=by omega
     rw[aH,dT]at W;have am:af aq (.sl a 0 l.length c) m' (some a):=al m' U;obtain⟨a3,aP,Pm,aE,aK,ak⟩:=af.lo am (j:=d) (by omega) (by omega);cases aE;have ak:aP=d*2:=by rcases ak with h|h;exact h;omega
     subst ak;refine S.slice aK ?_;refine S.clear 0 ?_ (ch:=NA (m:=m') (k:=d) (by omega)) (hs:=by rw[Cn];exact iW _);refine S.cd (e:=aq) (l:=m'.take d++List.replicate (m'.length-d) ⟨0,0⟩) (s:=some a) 0 (al _ (by simp;omega)) fun aZ lk A=>?_;obtain⟨aX,aC,an⟩:=A.hi (j:=d) (by simp;omega);refine S.slice aC ?_;rw[List.take_append_of_le_length (by simp;omega),List.take_take,Nat.min_self,W]at an;exact⟨_,.t rfl .nil,.none ⟨rfl,an⟩⟩
   ·refine S.bin ?_ (v:=.j ((k+1:Nat):Int)) (hv:=by rw[dz (by omega) (by omega)];(try rfl));rw[ab (by simpa using OW)]at L;exact⟨aM-1,by omega,k+1,by omega,by omega,by rw[L,G,fm hk],rfl,rfl,.r rfl⟩
  ·obtain rfl:k=l.length:=by omega
   rw[dT]at G;exact⟨_,.t rfl .nil,.bL 0 rfl ho fun ψ aL A=>.done ⟨rfl,by rw[G];exact A⟩⟩
end Go.Ev
set_option maxHeartbeats 1000000
namespace Go.Ev
variable{F:Nat->Option aP} {O:Fz}
def QM (O:Fz) (cs:List V) (y:oX):Prop:=∃v2 v3 v4 v5 d h o,cs=[.j y.next,.j y.id,v2,v3,v4,v5]/\aa df O v2 (y.trees.map (·.root))/\aa bN O v3 d/\NR bq O d (y.trees.map (fun t=>t.an.map (·.1)))/\aa bN O v4 h/\NR aq O h (y.trees.map (fun t=>t.an.map (·.2)))/\aa bN O v5 o/\NR aG O o (y.trees.map (·.tree))
theorem N9 [Fx F] (hr:F 215=some (.cA gR)) {cs:List V} {d:au} {sum:Int} (hd:cu O cs d) (Y:d.wait.length<=1000000):ai F 11 [.agg cs,.j sum] O [] (fun r ψ R=>R=[]/\∃cs',r=.aN [.agg cs',.bool (eR d sum).isSome]/\QM ψ cs' ((eR d sum).getD mQ)) never:=by
 obtain⟨ac,wv,rfl,hl,hw,sl,aw⟩:=hd.open;refine ar ?_;refine S.box fun ao=>?_;refine S.alloc fun a4=>?_;refine S.ag 1 ?_ (l:=[ac,wv,.j d.arm,.bool d.down]);refine S.call (Nd hr (sum:=sum) hd Y) fun ay aB an ap W=>?_;obtain⟨a,av,az,d',u6,u7,u8,u9,d2,q6,q7,q8,q9,d4,m7,m8,m9,rfl,rfl,h,h0⟩:=W;obtain⟨y,Z⟩:∃y,y=(eR d sum).getD mQ:=⟨_,rfl⟩
 rw[<-Z]at h h0⊢;refine S.ag 0 ?_ (l:=[.j y.next,.j y.id,u6,u7,u8,u9]);refine S.cd 2 h.roots fun aA ab f6=>?_;refine S.cd 2 h.ON fun aC M Q=>?_;refine S.cd 2 h.OP fun aD A U=>?_;refine S.cd 2 h.trees fun aE o D=>?_;have G:=((f6.mono M).mono A).mono o;have I:=(Q.mono A).mono o;have L:=U.mono o;have B:=((ab.trans M).trans A).trans o;have ae:=h.OO.mono B;have ah:=h.tC.mono B;have aj:=h.nt.mono B;have ak:=G.ax;have al:=I.ax;have am:=L.ax;have z9:=D.ax;refine S.mv ?_;refine S.store 2 ?_ (hs:=by simp[V.cells,aY,iV,ak,al,am,z9]);exact⟨_,.cN 2 rfl rfl rfl rfl (.t rfl .nil),.none ⟨rfl,_,rfl,u6,u7,u8,u9,m7,m8,m9,rfl,G,I,ae,L,ah,D,aj⟩⟩
theorem NG [Fx F] (hr:F 215=some (.cA gR)) {cs:List V} {d:au} {sum:Int} (hd:cu O cs d) (Q:d.wait.length<=1000000) (hs:F 38=some (.cA (jQ 39))) (B:((eR d sum).getD mQ).all.length<=1000000):ai F 12 [.agg cs,.j sum] O [] (fun r ψ R=>R=[]/\∃G,r=.aN [G,.bool (eR d sum).isSome]/\aa aq ψ G (ec (fJ ((eR d sum).getD mQ).all))) never:=by
 obtain⟨U,wv,rfl,hl,hw,sl,al⟩:=hd.open;refine ar ?_;refine S.box fun ab=>?_;refine S.ag 0 ?_ (l:=[U,wv,.j d.arm,.bool d.down]);refine S.call (Nd hr (sum:=sum) hd Q) fun am ao W ac I=>?_;obtain⟨a,ak,an,d',u6,u7,u8,u9,d2,q6,q7,q8,q9,d4,m7,m8,m9,rfl,rfl,A,h0⟩:=I;obtain⟨y,D⟩:∃y,y=(eR d sum).getD mQ:=⟨_,rfl⟩
 rw[<-D]at A h0⊢;rw[<-D]at B;refine S.ld 0 ?_;refine S.ba 1 rfl (Nv hs A.all h0 (by omega)) fun v20 ap Y ae h=>?_;obtain⟨h,rfl⟩:=h;have h:=h.symm;subst h;have os:af aq d2 (fJ y.all) d4:=by
  have hlen:=rL y.all;rcases A.all.2.2 with⟨o,aj,M⟩|⟨b,o,aj⟩|⟨b,o,aj⟩
  ·exact⟨by rw[gz],iW _,.inl ⟨o,by rw[hlen];exact aj,M⟩⟩
  ·exact⟨by rw[gz],iW _,.inr (.inl ⟨b,by rw[hlen];exact o,aj⟩)⟩
  ·exact⟨by rw[gz],iW _,.inr (.inr ⟨b,by rw[hlen];exact o,aj⟩)⟩
 refine S.ba 0 rfl (ND os (by rw[rL];exact B)) fun v22 av Z ah L=>?_;obtain⟨rfl,f22⟩:=L;exact⟨_,.t rfl (.t rfl .nil),.none ⟨rfl,v22,rfl,f22⟩⟩
end Go.Ev
namespace Go.Ev
def kY (d:au) (z:ah):Prop:=∃x,bP d z.addr (-1)=some x/\x.gen=z.gen
theorem NH {d:au} {a g:Int} {x:aT} (h:bP d a g=some x):bP d a (-1)=some x:=by
 unfold bP at h⊢;split at h
 ·rename_i h0;rw[ae h0];cases ht:er (d.read a).1 with
  |none=>rw[ht]at h;cases h
  |some y=>
   rw[ht]at h;simp only at h⊢;rw[ab (by omega)];split at h
   ·cases h
   ·exact h
 ·cases h
theorem xh {d:au} {z:ah} {x:aT} (h:bP d z.addr z.gen=some x) (j:0<=z.gen):kY d z:=⟨x,NH h,tM h j⟩
theorem Cp {d:au} {y z:ah} (A:kY d y) (hz:kY d z) (h:y.addr=z.addr):y=z:=by
 obtain⟨a,o,aj⟩:=A;obtain⟨b,j,B⟩:=hz;rw[h,j]at o;cases o;cases y;cases z;simp_all
theorem Cq {d:au}:∀{q:List ah} {an o:List bO},(∀z∈q,0<=z.gen)->e5 d q an=some o->∀z∈q,kY d z
 |[],_,_,_,_,z,hz=>by cases hz
 |p::q,an,o,j,h,z,hz=>by
  simp only[e5]at h;split at h
  ·cases h
  ·rename_i l hl;obtain⟨b,A,_⟩:=gf.1 hl;rcases bS.1 hz with rfl|hz
   ·exact xh A (j _ dc)
   ·exact Cq (fun z hz=>j z (cR _ hz)) h z hz
theorem Cr {d:au}:∀{l:List bO} {o r:List bA},(∀i∈l,0<=i.2.gen)->fI d l o=some r->∀i∈l,kY d i.2
 |[],_,_,_,_,z,hz=>by cases hz
 |p::l,o,r,A,h,z,hz=>by
  simp only[fI]at h;split at h
  ·cases h
  ·rename_i x hx;have j:∃b,bP d p.2.addr p.2.gen=some b:=by
    unfold recAt at hx;split at hx
    ·cases hx
    ·rename_i y D;obtain⟨b,B,_⟩:=gf.1 D;exact⟨b,B⟩
   obtain⟨b,j⟩:=j;rcases bS.1 hz with rfl|hz
   ·exact xh j (A _ dc)
   ·exact Cr (fun z hz=>A z (cR _ hz)) h z hz
theorem NI {d:au} {p:ah} {x:gY} {l:List ah} (B:0<=p.gen) (h:jP d p=some (x,l)):kY d p/\∀z∈l,kY d z:=by
 unfold jP at h;split at h
 ·cases h
 ·rename_i r q hq;obtain⟨b,o,A⟩:=gf.1 hq;split at h
  ·cases h
  ·rename_i an j;split at h
   ·cases h
   ·rename_i cP D;split at h
    ·cases h
    ·cases h;refine⟨xh o B,fun z hz=>?_⟩;rcases fK.1 hz with hz|hz
     ·exact Cq (BF A) j z hz
     ·obtain⟨i,hi,rfl⟩:=nZ.1 hz;exact Cr ((w6 j).2 (fun i hi=>by cases hi)) D i hi
theorem Cs {d:au}:∀(q:List ah) (s:jh) (j:List ah),(∀z∈q,0<=z.gen)->(∀z∈j,kY d z)->(∀z,z∈s.all↔z∈j\/z∈q)->
 (match iy d q s with
 |none=>iE d q s.trees j=none
 |some s'=>∃y,iE d q s.trees j=some y/\s'.next=s.next/\s'.id=s.id/\s'.trees=y.1/\(∀z,z∈s'.all↔z∈y.2)/\∀z∈y.2,kY d z)
 |[],s,j,_,o,hm=>⟨_,rfl,rfl,rfl,rfl,fun z=>by rw[hm z];simp,o⟩
 |p::q,s,j,A,o,hm=>by
  simp only[iy,iE];rw[<-BE];cases ht:jP d p with
  |none=>rfl
  |some G=>
   obtain⟨x,l⟩:=G;obtain⟨D,F⟩:=NI (A p dc) ht;simp only;have B:=Cs q {s with trees:=s.trees++[x],all:=s.all++l} (j++p::l) (fun z hz=>A z (cR _ hz)) (fun z hz=>by
    rcases fK.1 hz with hz|hz
    ·exact o z hz
    ·rcases bS.1 hz with rfl|hz
     ·exact D
     ·exact F z hz) (fun z=>by
    simp only[fK,bS];have:=hm z;rw[bS]at this;constructor
    ·rintro(h|h)
     ·rcases this.1 h with h|h|h
      ·exact .inl (.inl h)
      ·exact .inl (.inr (.inl h))
      ·exact .inr h
     ·exact .inl (.inr (.inr h))
    ·rintro((h|h|h)|h)
     ·exact .inl (this.2 (.inl h))
     ·exact .inl (this.2 (.inr (.inl h)))
     ·exact .inr h
     ·exact .inl (this.2 (.inr (.inr h))))
   exact B
theorem NJ (d:au) (sum:Int):match look d sum with
 |none=>eR d sum=none
 |some s=>∃y,eR d sum=some y/\s.next=y.next/\s.id=y.id/\s.trees=y.trees/\(∀z,z∈s.all↔z∈y.all)/\∀z∈y.all,kY d z:=by
 unfold look eR;cases F:bP d sum (-1)with
 |none=>rfl
 |some x=>
  simp only;cases ht:c0 x with
  |none=>rfl
  |some t=>
   obtain⟨n,i,q⟩:=t;simp only;have h:=Cs q ⟨n,i,[],⟨sum,x.gen⟩::q⟩ [⟨sum,x.gen⟩] (BG ht) (fun z hz=>by obtain rfl:=hB.1 hz;exact⟨x,F,rfl⟩) (fun z=>by simp);cases hl:iy d q ⟨n,i,[],⟨sum,x.gen⟩::q⟩with
   |none=>rw[hl]at h;simp only at h⊢;rw[h];(try rfl)
   |some s=>
    rw[hl]at h;simp only at h⊢;obtain⟨y,o,aj,j,A,B,D⟩:=h;exact⟨⟨n,i,y.1,y.2⟩,by rw[o];(try rfl),aj,j,A,B,D⟩
theorem Ct {ad:ah->ah->Prop} (hi:∀a,¬ad a a) (ht:∀a b,ad a b->¬ad b a):∀{l m:List ah},l.Pairwise ad->m.Pairwise ad->(∀z,z∈l↔z∈m)->l=m
 |[],[],_,_,_=>rfl
 |[],b::m,_,_,h=>by have:=(h b).2 dc;cases this
 |a::l,[],_,_,h=>by have:=(h a).1 dc;cases this
 |a::l,b::m,o,aj,h=>by
  rw[jU]at o aj;have j:a=b:=by
   rcases bS.1 ((h a).1 dc)with e|e
   ·exact e
   ·rcases bS.1 ((h b).2 dc)with d|d
    ·exact d.symm
    ·exact absurd (o.1 b d) (ht _ _ (aj.1 a e))
  subst j;rw[Ct hi ht o.2 aj.2 (fun z=>?_)];constructor
  ·intro hz;rcases bS.1 ((h z).1 (cR _ hz))with e|e
   ·subst e;exact absurd (o.1 _ hz) (hi _)
   ·exact e
  ·intro hz;rcases bS.1 ((h z).2 (cR _ hz))with e|e
   ·subst e;exact absurd (aj.1 _ hz) (hi _)
   ·exact e
theorem xi {p z:ah}:∀{l:List ah},z∈cW p l->z=p\/z∈l
 |[],h=>by simp[cW]at h;exact .inl h
 |a::l,h=>by
  simp only[cW]at h;split at h
  ·exact .inr h
  ·split at h
   ·rcases bS.1 h with h|h
    ·exact .inl h
    ·exact .inr h
   ·rcases bS.1 h with h|h
    ·exact .inr (h▸dc)
    ·rcases xi h with h|h
     ·exact .inl h
     ·exact .inr (cR _ h)
theorem Cu {p z:ah}:∀{l:List ah},z∈l->z∈cW p l
 |[],h=>by cases h
 |a::l,h=>by
  simp only[cW];split
  ·exact h
  ·split
   ·exact cR _ h
   ·rcases bS.1 h with h|h
    ·exact h▸dc
    ·exact cR _ (Cu h)
theorem Cv (p:ah):∀(l:List ah),∃z∈cW p l,z.addr=p.addr
 |[]=>⟨p,by simp[cW],rfl⟩
 |a::l=>by
  simp only[cW];split
  ·rename_i h;exact⟨a,dc,h⟩
  ·split
   ·exact⟨p,dc,rfl⟩
   ·obtain⟨z,o,aj⟩:=Cv p l;exact⟨z,cR _ o,aj⟩
theorem Cw {p:ah}:∀{l:List ah},l.Pairwise (fun a b=>a.addr<b.addr)->(cW p l).Pairwise (fun a b=>a.addr<b.addr)
 |[],_=>by simp[cW]
 |a::l,h=>by
  have h0:=jU.1 h;simp only[cW];split
  ·exact h
  ·split
   ·rename_i o aj;rw[jU];refine⟨fun b d=>?_,h⟩;rcases bS.1 d with rfl|d
    ·exact aj
    ·have:=h0.1 b d;omega
   ·rename_i o aj;rw[jU];refine⟨fun b d=>?_,Cw h0.2⟩;rcases xi d with rfl|d
    ·omega
    ·exact h0.1 b d
theorem Cy:∀(l out:List ah),out.Pairwise (fun a b=>a.addr<b.addr)->
 (l.foldl (fun out p=>cW p out) out).Pairwise (fun a b=>a.addr<b.addr)/\(∀z∈l.foldl (fun out p=>cW p out) out,z∈out\/z∈l)/\(∀z∈out,z∈l.foldl (fun out p=>cW p out) out)/\∀z∈l,∃w∈l.foldl (fun out p=>cW p out) out,w.addr=z.addr
 |[],out,h=>⟨h,fun z hz=>.inl hz,fun z hz=>hz,fun z hz=>by cases hz⟩
 |p::l,out,h=>by
  obtain⟨j,k2,d,A⟩:=Cy l (cW p out) (Cw h);rw[gK];refine⟨j,fun z hz=>?_,fun z hz=>d z (Cu hz),fun z hz=>?_⟩
  ·rcases k2 z hz with o|o
   ·rcases xi o with o|o
    ·exact .inr (o▸dc)
    ·exact .inl o
   ·exact .inr (cR _ o)
  ·rcases bS.1 hz with rfl|hz
   ·obtain⟨w,o,aj⟩:=Cv z out;exact⟨w,d w o,aj⟩
   ·exact A z hz
theorem Cz:∀(n:Nat) (l:List ah),l.length<=n->l.Pairwise (fun a b=>e7 a b=true)->(ec l).Pairwise (fun a b=>e7 a b=true/\a≠b)/\(∀z,z∈ec l↔z∈l)/\(ec l).getLast? =l.getLast?
 |_,[],_,_=>⟨.nil,fun _=>Iff.rfl,rfl⟩
 |0,a::l,h,_=>by simp at h
 |n+1,a::l,h,hs=>by
  have A:a::l≠[]:=by simp
  have e:a::l=(a::l).dropLast++[(a::l).getLast A]:=(tX A).symm;generalize (a::l).dropLast=m at e;generalize (a::l).getLast A=p at e;rw[e]at hs h⊢;rw[c2]at h;rw[List.pairwise_append]at hs;obtain⟨B,_,G⟩:=hs;obtain⟨D,k2,F⟩:=Cz n m (by simp at h;omega) B;rw[xg];refine⟨?_,fun z=>?_,by rw[Cl];simp⟩
  ·unfold o2;split
   ·exact D
   ·rename_i hl;rw[List.pairwise_append];refine⟨D,by simp,fun z hz w hw=>?_⟩;obtain rfl:=hB.1 hw;have j:=(k2 z).1 hz;refine⟨G z j w (by simp),fun M=>?_⟩;subst M;have d:m≠[]:=by intro I;rw[I]at j;cases j
    have O:m.getLast? =some (m.getLast d):=List.getLast?_eq_some_getLast d;have o:e7 z (m.getLast d)=true:=by
     have L:m=m.dropLast++[m.getLast d]:=(tX d).symm;rw[L]at j B;rcases fK.1 j with aj|aj
     ·exact(List.pairwise_append.1 B).2.2 z aj _ (by simp)
     ·have:=hB.1 aj;rw[this];rw[lZ];omega
    have aj:e7 (m.getLast d) z=true:=G _ (List.getLast_mem d) z (by simp);have:=Ca o aj;rw[F,O,<-this]at hl;exact hl rfl
  ·unfold o2;split
   ·rename_i hl;rw[k2 z,fK,hB];constructor
    ·exact .inl
    ·rintro(o|rfl)
     ·exact o
     ·rw[F]at hl;exact List.mem_of_getLast? hl
   ·rw[fK,fK,k2 z]
theorem NM {d:au} {l m:List ah} (h:∀z,z∈l↔z∈m) (hr:∀z∈m,kY d z):ec (fJ m)=oQ l:=by
 obtain⟨L,k2,_,M⟩:=Cy l [] .nil;obtain⟨G,I,_⟩:=Cz (fJ m).length (fJ m) (aB _) (xd m);have j:∀z,z∈ec (fJ m)↔z∈m:=fun z=>(I z).trans (tU m).mem_iff;have D:∀z,z∈oQ l↔z∈m:=fun z=>by
  constructor
  ·intro hz;rcases k2 z hz with o|o
   ·cases o
   ·exact(h z).1 o
  ·intro hz;obtain⟨w,B,O⟩:=M z ((h z).2 hz);have hw:w∈m:=by
    rcases k2 w B with o|o
    ·cases o
    ·exact(h w).1 o
   have:=Cp (hr w hw) (hr z hz) O;rw[<-this];exact B
 refine Ct (ad:=fun a b=>a.addr<b.addr) (fun a=>by omega) (fun a b h=>by omega) ?_ L (fun z=>(j z).trans (D z).symm);refine List.Pairwise.imp_of_mem (fun{a b} ha F A=>?_) G;have o:=lZ.1 A.1;rcases o with o|o
 ·exact o
 ·exact absurd (Cp (hr a ((j a).1 ha)) (hr b ((j b).1 F)) o.1) A.2
theorem CA (d:au) (sum:Int):(eR d sum).isSome=(blocks d sum).isSome/\ec (fJ ((eR d sum).getD mQ).all)=(blocks d sum).getD []:=by
 have h:=NJ d sum;unfold blocks;cases hl:look d sum with
 |none=>rw[hl]at h;simp only at h;rw[h];exact⟨rfl,rfl⟩
 |some s=>
  rw[hl]at h;obtain⟨y,o,_,_,_,j,A⟩:=h;rw[o];exact⟨rfl,NM j A⟩
end Go.Ev
namespace Go.Ev
theorem xj {v:aV} {lo hi:Int} (h:0<=v.pos):(cq v lo hi).1.d.last.length=v.d.last.length:=(ru h).1
theorem xk {v x:aV} (hp:0<=x.pos) (hd:x.d=v.d):(dK v x).1.d.last.length=v.d.last.length:=by
 have h:=xj (v:=x) (lo:=0) (hi:=0) hp;rw[hd]at h;unfold dK;simp only;split
 ·exact h
 ·split
  ·rfl
  ·exact h
theorem NN {v:aV} (hp:0<=v.pos):(hR v).1.d.last.length=v.d.last.length:=by
 unfold hR;split
 ·rfl
 ·have:=xk (v:=v) (x:={v with trees:=dX v.trees ⟨⟨3,v.next,v.id*65536+v.next,0,0⟩,dD v.trees⟩,next:=v.next+1}) hp rfl;simp only;split<;>exact this
theorem NO {v:aV} (hp:0<=v.pos) (s:eC):(fG v s).d.last.length=v.d.last.length:=by
 unfold fG;split
 ·exact xk hp rfl
 ·split
  ·exact NN hp
  ·split
   ·unfold kf;split
    ·rfl
    ·rename_i l hl;exact xk (x:={v with trees:=l}) hp rfl
   ·split
    ·unfold kg;split
     ·rfl
     ·rfl
    ·unfold jN;split
     ·rfl
     ·rename_i s hs;have o:=xj (v:=v) (lo:=bB s) (hi:=bB s+64) hp;simp only;split
      ·exact o
      ·split
       ·rfl
       ·exact o
theorem NP {v:aV} (hp:0<=v.pos) (s:eC):(eP v s).d.last.length=v.d.last.length:=by
 unfold eP;split
 ·split<;>rfl
 ·split
  ·rfl
  ·exact NO hp s
theorem NQ (ap:Nat) (id:Int):(mK ap id).1.d.last.length=2+64*ap:=by
 have aj:=xj (v:=eB ap id) (lo:=0) (hi:=0) (ej 0);have h0:(eB ap id).d.last.length=2+64*ap:=by show(List.replicate _ _).length=_;rw[k0];omega
 obtain⟨Y,h⟩:∃Y,Y=(cq (eB ap id) 0 0).1:=⟨_,rfl⟩
 show({(cq (eB ap id) 0 0).1 with d:=(nM (cq (eB ap id) 0 0).1).1,n:=1}:aV).d.last.length=_;rw[<-h]at aj⊢;exact(rq Y.d ⟨1,Y.seq,Y.sum,Y.aJ,Y.pos⟩).1.trans (aj.trans h0)
theorem CB {l:Bs}:∀(k n K:Nat) {v:aV},VK K v->(kT l k n v).d.last.length=v.d.last.length
 |0,n,K,v,h=>rfl
 |k+1,n,K,v,h=>by
  simp only[kT];split
  ·rfl
  ·rw[CB k _ (K+2) (tH h _),NP h.gF]
theorem CC (l:Bs) {ap:Nat} (dr:Nat) (h:ap<=15):(jo l ap dr).d.last.length=2+64*ap:=by
 unfold jo;rw[CB dr 0 3 (tI h (by decide) (by decide)),NQ]
end Go.Ev
namespace Go.Ev
variable{F:Nat->Option aP} {O:Fz}
theorem CD {d:au}:∀{q:List ah} {j:List gY} {h:List ah} {x:List gY×List ah},iE d q j h=some x->x.2.length<=h.length+337*q.length
 |[],j,h,x,e=>by cases e;exact aB _
 |p::q,j,h,x,e=>by
  simp only[iE]at e;split at e
  ·cases e
  ·rename_i y l A;have o:=B8 A;have:=CD e;simp only[c2,b7]at this⊢;have aj:l.length<=336:=o;omega
theorem NS {d:au} {sum:Int}:((eR d sum).getD mQ).all.length<=1000000:=by
 cases h:eR d sum with
 |none=>exact cS _
 |some y=>
  unfold eR at h;split at h
  ·cases h
  ·split at h
   ·cases h
   ·rename_i n i q hq;obtain⟨z,o,aj⟩:=jR.1 h;subst aj;have j:=CD o;have A:=rh hq;show z.2.length<=_;simp at j;omega
theorem NT [Fx F] (hr:F 215=some (.cA gR)) (hs:F 38=some (.cA (jQ 39))) {cs:List V} {d:au} {sum:Int} (hd:cu O cs d) (A:d.wait.length<=1000000):ai F 12 [.agg cs,.j sum] O [] (fun r ψ R=>R=[]/\∃o,r=.aN [o,.bool (blocks d sum).isSome]/\aa aq ψ o ((blocks d sum).getD [])) never:=by
 have h:=NG hr (sum:=sum) hd A hs NS;rw[(CA d sum).1,(CA d sum).2]at h;exact h
end Go.Ev
namespace Go.Ev
end Go.Ev
namespace Go.Ev
theorem QN {t:ao} (h:bH t=true):t.length=9:=by
 unfold bH at h;split at h
 ·rename_i hc;exact hc.1
 ·cases h
theorem QO {l:List bA} {t:ao} (h:ei l=some t):t.length=9:=by
 unfold ei at h;split at h
 ·cases h
 ·split at h
  ·rename_i hm;cases h;simp only[be]at hm;exact QN hm.1
  ·cases h
theorem QP {d:au} {p:ah} {x:gY} {l:List ah} (h:lR d p=some (x,l)):x.an.length<=336/\x.tree.length=9:=by
 have h0:=Ac h;unfold lR at h;split at h
 ·cases h
 ·split at h
  ·cases h
  ·split at h
   ·cases h
   ·rename_i t ht;cases h;simp only[c2,hS]at h0;exact⟨fL (Nat.le_add_left _ _) h0,QO ht⟩
theorem P8 {d:au}:∀{l:List ah} {s s':jh},iy d l s=some s'->(∀x∈s.trees,x.an.length<=336/\x.tree.length=9)->∀x∈s'.trees,x.an.length<=336/\x.tree.length=9
 |[],s,s',h,hs=>by cases h;exact hs
 |p::r,s,s',h,hs=>by
  simp only[iy]at h;split at h
  ·cases h
  ·rename_i x l hx;refine P8 h fun y j=>?_;rcases fK.1 j with j|j
   ·exact hs y j
   ·rw[hB.1 j];exact QP hx
theorem QQ {d:au} {sum:Int} {s:jh} (h:look d sum=some s):∀x∈s.trees,x.an.length<=336/\x.tree.length=9:=by
 unfold look at h;split at h
 ·cases h
 ·split at h
  ·cases h
  ·exact P8 h fun x hx=>by cases hx
theorem Oa (d:au) (sum:Int):(eR d sum).isSome=(look d sum).isSome/\((eR d sum).getD mQ).next=((look d sum).getD Ag).next/\((eR d sum).getD mQ).id=((look d sum).getD Ag).id/\((eR d sum).getD mQ).trees=((look d sum).getD Ag).trees/\((look d sum).getD Ag).trees.length<=7/\∀x∈((look d sum).getD Ag).trees,x.an.length<=336/\x.tree.length=9:=by
 have h:=NJ d sum;cases hl:look d sum with
 |none=>rw[hl]at h;simp only at h;rw[h];exact⟨rfl,rfl,rfl,rfl,cS _,fun x hx=>by cases hx⟩
 |some s=>
  rw[hl]at h;obtain⟨y,o,aj,j,A,_⟩:=h;rw[o];exact⟨rfl,aj.symm,j.symm,A.symm,(Ae hl).2,QQ hl⟩
theorem NV {d:au} {a g:Int} {x:aT} (h:bP d a g=some x):(d.read a).2=true:=by
 unfold bP at h;split at h
 ·assumption
 ·cases h
end Go.Ev
namespace Go.Ev
variable{F:Nat->Option aP} {O:Fz}
theorem Oj (d:au) (y:Int):((blocks d y).getD []).length<=2360:=by
 cases h:blocks d y with
 |none=>exact cS _
 |some l=>exact rj h
end Go.Ev
set_option maxHeartbeats 4000000
namespace Go.Ev
variable{F:Nat->Option aP} {O:Fz}
theorem QR:(look (jo [] 4 0).d (jo [] 4 0).sum).map (fun s=>(s.trees.length,s.next,s.id))=some (1,1,1):=by decide+kernel
theorem QS:(blocks (jo [] 4 0).d (jo [] 4 0).sum).map List.length=some 4:=by decide+kernel
theorem QT:(look (jo [] 4 0).d 0).isSome=false:=by decide+kernel
theorem QU (hr:F 215=some (.cA gR)) (hs:F 38=some (.cA (jQ 39))) [Fx F]:bm F 7 [] O (.bool true):=by
 refine ai.al (ar ?_);refine S.call (A9 rfl) fun bv bF aR bh ah=>?_;obtain⟨rfl,aW,rfl,rfl⟩:=ah;refine S.ba 0 rfl (Bj (ap:=4) (dr:=0) (aa.nil _) (by simp) (by omega) (by omega) (by omega)) fun bw bG aS bi ak=>?_;obtain⟨cs,bn,rfl,hv,rfl⟩:=ak;refine S.drop 0 ?_;have Y:=Bi [] (ap:=4) 0 (by omega);have o:=QR;have aj:=QS;have W:=QT;obtain⟨v,av⟩:∃v,v=jo [] 4 0:=⟨_,rfl⟩
 rw[<-av]at hv Y o aj W;obtain⟨M,wv,aO,rfl,a2,a8,a6,aI,aK,aJ,h⟩:=hv.open;have a7:=Y.wait;obtain⟨X,ao,o⟩:=jR.1 o;obtain⟨B,an,aj⟩:=jR.1 aj;simp only[dH]at o;obtain⟨aL,aM,t3⟩:=o;obtain⟨Q,I,L,R,_⟩:=Oa v.d v.sum;obtain⟨f0,_⟩:=Oa v.d 0;rw[ao]at Q I L R;rw[W]at f0;simp only[Option.isSome_some,kq]at Q I L R;rw[aM]at I;rw[t3]at L;refine S.alloc fun aU=>?_;refine S.store (v:=.agg (bf M wv aO v)) 0 ?_ (hs:=cp aI aK aJ);refine S.ag 0 ?_ (l:=[M,wv,.j v.d.arm,.bool v.d.down]);refine S.ld 0 ?_;refine S.call (N9 hr (sum:=v.sum) h (by omega)) fun bs bD aP aA ac=>?_;obtain⟨rfl,aZ,rfl,U⟩:=ac;rw[Q];have h:=h.mono aA;obtain⟨v2,v3,v4,v5,bo,bp,aB,rfl,k2,ay,be,az,bg,A,aw⟩:=U;have:=k2.ax;have:=ay.ax;have:=az.ax;have:=A.ax;rw[I,L];have au:aB.length=1:=by have:=aw.1;rw[hS,R,aL]at this;exact this
 refine S.alloc fun aV=>?_;refine S.store 0 ?_;refine S.ag 1 ?_ (l:=[M,wv,.j v.d.arm,.bool v.d.down]);refine S.ld 1 ?_;refine S.call (NT hr hs (sum:=v.sum) h (by omega)) fun bt bE aQ Z ae=>?_;obtain⟨rfl,br,rfl,D⟩:=ae;rw[an]at D⊢;simp only[Option.isSome_some,kq]at D⊢;have h:=h.mono Z;have A:=A.mono Z;refine S.ag 1 ?_ (l:=[M,wv,.j v.d.arm,.bool v.d.down]);refine S.call (N9 hr (sum:=0) h (by omega)) fun bx bH aT ab am=>?_;obtain⟨rfl,a1,rfl,U⟩:=am;rw[f0];obtain⟨bz,bA,bB,bC,bj,bk,bl,rfl,aC,aE,bb,aF,bc,aH,bd⟩:=U;have:=aC.ax;have:=aE.ax;have:=aF.ax;have:=aH.ax;have A:=A.mono ab;have D:=D.mono ab;refine S.alloc fun aX=>?_;refine S.store 0 ?_;refine G.aD ?_;refine G.ld 1 ?_;refine G.len ?_ (hl:=aa.len A);rw[au];refine G.bin ?_;refine G.and ?_;refine G.aD ?_;refine G.ld 1 ?_;refine G.bin ?_;refine G.and ?_;refine G.aD ?_;refine G.ld 1 ?_;refine G.bin ?_;refine G.and ?_;refine G.mv ?_;refine G.and ?_;refine G.mv ?_;refine G.len ?_ (hl:=aa.len D);rw[aj];refine G.bin ?_;refine G.and ?_;refine G.mv ?_;refine G.un ?_;refine G.and ?_;exact⟨_,.t rfl .nil,.none rfl⟩
end Go.Ev
set_option maxHeartbeats 8000000
namespace Go.Ev
variable{F:Nat->Option aP} {O:Fz}
theorem xq (n:Int):b0 .neq (.flat .i) (.j n) (.j n)=some (.bool false):=by
 rw[y0,decide_eq_true rfl];(try rfl)
theorem P9 (a:bA):b0 .neq (.agg [(0,.i),(1,.i),(2,.s)]) (.agg (bq.f a)) (.agg (bq.f a))=some (.bool false):=by
 rw[zP,decide_eq_true rfl];(try rfl)
theorem c1.get {U d:Type} {ad:U->d->Prop}:∀{l:List U} {m:List d},c1 ad l m->∀(i:Nat) (h:i<l.length) (h':i<m.length),ad l[i] m[i]
 |_::_,_::_,h,0,_,_=>h.1
 |_::_,_::_,h,i+1,_,_=>h.2.get i _ _
 |[],_::_,h,_,_,_=>h.elim
 |_::_,[],h,_,_,_=>h.elim
 |[],[],_,i,hi,_=>absurd hi (qj i)
theorem CO.len {d:au} {gen:Int} {x:gY} {h:bC} {f1:List ah} (k:CO d gen x h f1):x.an.length=(b3 h.t).length/\f1.length=(b3 h.t).length:=by
 have o:=k.xp.len;rw[hS]at o;refine⟨?_,o⟩;rw[k.an,hS,rV,o,Nat.min_self]
theorem CO.at {d:au} {gen:Int} {x:gY} {h:bC} {f1:List ah} (k:CO d gen x h f1) (B:e1 gen=true) (i:Nat) (hi:i<(b3 h.t).length):
 ∃(p:ah) (y:aT),(x.an.map (·.2))[i]? =some p/\(x.an.map (·.1))[i]? =some ⟨((b3 h.t)[i]).ino,((b3 h.t)[i]).idx,[]⟩/\(d.read p.addr).2=true/\er (d.read p.addr).1=some y/\eh y=some (b3 h.t)[i]:=by
 obtain⟨o,aj⟩:=k.len;have ht:=k.xp.get i (by omega) (by rw[hS];exact hi);rw[nU]at ht;have D:=NX (t:=h.t) B _ (cw hi);have e:=Reads.rec ht D;obtain⟨y,j,A⟩:=gf.1 e;refine⟨f1[i],y,?_,?_,NV j,?_,A⟩
 ·rw[k.an,(N2 aj).1,bj (by omega)]
 ·rw[k.an,List.map_map,k1,bj (by rw[rV];omega),List.getElem_zip];(try rfl)
 ·unfold bP at j;split at j
  ·split at j
   ·cases j
   ·rename_i z hz;split at j
    ·cases j
    ·cases j;exact hz
  ·cases j
theorem QV {d:au} {sum:Int} {s:jh} (h:look d sum=some s) {L:List ah} (hL:L=(blocks d sum).getD []):L.Pairwise (fun a b=>a.addr<b.addr)/\∀p∈L,∃y,(d.read p.addr).2=true/\er (d.read p.addr).1=some y/\y.gen=p.gen:=by
 have he:=NJ d sum;rw[h]at he;obtain⟨y,_,_,_,_,A,B⟩:=he;unfold blocks at hL;rw[h]at hL;subst hL;obtain⟨D,k2,_,_⟩:=Cy s.all [] .nil;refine⟨D,fun p hp=>?_⟩;have hs:p∈s.all:=(k2 p hp).resolve_left (by simp);obtain⟨b,j,o⟩:=B p ((A p).1 hs);refine⟨b,NV j,?_,o⟩;unfold bP at j;split at j
 ·split at j
  ·cases j
  ·rename_i z hz;split at j
   ·cases j
   ·cases j;exact hz
 ·cases j
theorem QW [Fx F] {A v2:V} {l:List bC} (o:hf O A l) (aj:hf O v2 l) (hl:l.length<=1000) (ae:∀h∈l,h.t.length<=1000000):bm F 14 [A,v2] O (.bool true):=by
 obtain⟨a,ha,I⟩:=o;obtain⟨b,d,L⟩:=aj;have M:=I.len;have U:=L.len;refine ai.al (ar ?_);refine S.len ?_ (hl:=aa.len ha);refine S.len ?_ (hl:=aa.len d);rw[M,U];refine S.bin ?_ (hv:=xq _);refine C.B (fun OU=>?_) fun OU=>?_
 ·cases OU
 ·refine SW.loop (fun m E ψ R=>∃j:Nat,j+m=l.length/\O=ψ/\R=[]/\Sub [(0,A),(1,v2),(5,.j (j:Int))] E) (m:=l.length) ⟨0,by omega,rfl,rfl,.r rfl⟩ ?_;intro ag E ψ R aw ac;obtain⟨j,hm,rfl,rfl,ab⟩:=ac;refine C.sub ab ?_;refine S.len ?_ (hl:=aa.len ha);refine S.bin ?_;refine C.D (fun O0=>?_) fun O0=>?_
  ·have hj:j<l.length:=by omega
   obtain⟨ah,ak⟩:=I.at (i:=j) (by omega) hj;obtain⟨am,an⟩:=L.at (i:=j) (by omega) hj;refine S.aF ha (show j<a.length by omega) fun ay Q=>?_;refine S.bl Q fun az ao=>?_;refine S.bJ ?_ (l:=df.f (l[j]).r) (hl:=by rw[<-ah];(try rfl));refine S.aF d (show j<b.length by omega) fun aA W=>?_;refine S.bl W fun aB ap=>?_;refine S.bJ ?_ (l:=df.f (l[j]).r) (hl:=by rw[<-am];(try rfl));refine S.bin ?_ (hv:=Oc _);refine S.mv ?_;refine S.mv ?_;refine S.aF ha (show j<a.length by omega) fun aC Y=>?_;refine S.bl Y fun aD au=>?_;refine S.a1 ?_;refine S.mv ?_;refine S.mv ?_;refine S.aF d (show j<b.length by omega) fun aE Z=>?_;refine S.bl Z fun aH av=>?_;refine S.a1 ?_;refine S.al (Qd ak an (ae _ (cw hj))) ?_;rw[decide_eq_true rfl];refine S.un ?_;refine S.pick ?_;refine C.B (fun G=>?_) fun G=>?_
   ·cases G
   ·refine S.bin ?_;exact⟨ag-1,by omega,j+1,by omega,rfl,rfl,.r rfl⟩
  ·refine⟨_,.t rfl .nil,.done ?_⟩;rfl
theorem Qa {O:Fz} {v:V} {r:cK} {w:SV} {t:ao} (h:aa eA O v [(r,w)]) (ht:aa aG O w.1 t):hf O v [⟨r,t⟩]:=⟨_,h,rfl,rfl,fun i x l o aj=>by
 cases i with
 |zero=>cases o;cases aj;exact ht
 |succ i=>simp at o⟩
def Jf:cK:=⟨0,0,0,0,0⟩
theorem QX {K:Nat} {v:aV} (hk:VK K v) (j:K<=800) (h:VS v) (e:(dK v v).2=0):CU (dK v v).1:=by
 obtain⟨o,aj,d⟩:=Jd (lo:=0) (hi:=0) hk (by omega) h.cD h.clear;unfold dK at e⊢;simp only at e⊢;rw[ab o]at e⊢;split at e
 ·rename_i h0;exact absurd e h0
 ·rename_i h0;rw[ab h0];exact(d (by simpa using h0)).N7
theorem QY (hr:F 215=some (.cA gR)) (hs:F 38=some (.cA (jQ 39))) [Fx F] {ar:V} {l:Bs} (hl:aa aU O ar l):
 SW F ⟨⟨3,275,false,none⟩,fun _=>True⟩ B.CV.den [(0,ar)] O [] (mz [(pa 2,none)] (fun u _ _=>u=.bool true) never):=by
 show SW F _ B.CV.den [(0,ar)] O [] _;refine SC.w ?_;refine S.al (QU hr hs) ?_;refine S.un ?_;refine C.B (fun O8=>?_) fun O8=>?_
 ·cases O8
 ·refine S.len ?_ (hl:=aa.len hl);refine S.bin ?_;refine C.D (fun Pd=>?_) fun Pd=>?_
  ·exact⟨_,.t rfl .nil,.none rfl⟩
  ·refine S.call (A9 hl.ax) fun dE dM cu c3 av=>?_;obtain⟨av,cE,rfl,rfl⟩:=av;have av:=av.symm;subst av;refine S.ba 0 rfl (Bj (ap:=6) (dr:=30) hl (by omega) (by omega) (by omega) (by omega)) fun dF dN cv c5 bZ=>?_;obtain⟨cs,c8,rfl,hv,rfl⟩:=bZ;refine S.drop 0 ?_;have au:=Bi l (ap:=6) 30 (by omega);have hL:=CC l (ap:=6) 30 (by omega);obtain⟨v,bz⟩:∃v,v=jo l 6 30:=⟨_,rfl⟩
   rw[<-bz]at hv au hL;obtain⟨an,wv,aB,rfl,bw,bD,aW,a2,a7,a6,ca⟩:=hv.open;have c0:=au.wait;have bA:=QL l (ap:=6) (dr:=30) (by omega) (by omega) (by omega);rw[<-bz]at bA;refine S.call (KV hv (au.LK (by omega)).b) fun dG dO cx c6 b0=>?_;obtain⟨rfl,cF,rfl,hw⟩:=b0;have bx:=QX au (by omega) bA;have bC:=wU au au rfl;obtain⟨w,bB⟩:∃w,w=(dK v v).1:=⟨_,rfl⟩
   obtain⟨bo,bs⟩:∃bo,bo=(dK v v).2:=⟨_,rfl⟩
   rw[<-bB,<-bs]at bx;rw[<-bB]at hw bC;rw[<-bs];clear bw bD aW a2 a7 a6 ca;obtain⟨an,wv,aB,rfl,bw,bD,aW,a2,a7,a6,A⟩:=hw.open;have c1:=bC.wait;obtain⟨xl,o,Z⟩:=aW;have az:=Z.len;refine S.alloc fun a3=>?_;refine S.store (v:=.agg (bf an wv aB w)) 0 ?_ (hs:=cp a2 a7 a6);refine S.bin ?_;refine C.B (fun bh=>?_) fun bh=>?_
   ·exact⟨_,.t rfl .nil,.none rfl⟩
   ·obtain⟨s,gen,cb,aV,hn,hi,br,cV⟩:=bx (by simpa using bh);have b6:=br.len;obtain⟨L,aT⟩:∃L,L=(blocks w.d w.sum).getD []:=⟨_,rfl⟩
    obtain⟨bH,bI⟩:=QV aV aT;have b8:(blocks w.d w.sum).isSome=true:=by unfold blocks;rw[aV];(try rfl)
    have b4:=Oj w.d w.sum;rw[<-aT]at b4;obtain⟨aK,aL,aM,aO,bm,bn⟩:=Oa w.d w.sum;rw[aV]at aK aL aM aO bm bn;simp only[Option.isSome_some,kq]at aK aL aM aO bm bn;refine S.ag 0 ?_ (l:=[an,wv,.j w.d.arm,.bool w.d.down]);refine S.ld 0 ?_;refine S.call (N9 hr (sum:=w.sum) A (by omega)) fun dH dP cy aZ b1=>?_;obtain⟨rfl,cG,rfl,b5⟩:=b1;obtain⟨v2,v3,v4,v5,aI,aJ,aA,rfl,k2,ab,ae,ac,ah,aj,ai⟩:=b5;rw[aO]at k2 ae ah ai;rw[aK,aL,aM];have ck:aI.length=w.trees.length:=by have:=ae.1;rw[hS]at this;omega
    have cl:aJ.length=w.trees.length:=by have:=ah.1;rw[hS]at this;omega
    have cm:aA.length=w.trees.length:=by have:=ai.1;rw[hS]at this;omega
    have A:=A.mono aZ;have o:=o.mono aZ;have Z:=Z.mono aZ;have:=k2.ax;have:=ab.ax;have:=ac.ax;have:=aj.ax;refine S.alloc fun a5=>?_;refine S.store 0 ?_;refine S.ag 1 ?_ (l:=[an,wv,.j w.d.arm,.bool w.d.down]);refine S.ld 1 ?_;refine S.call (NT hr hs (sum:=w.sum) A (by omega)) fun v50 cr cz am b2=>?_;obtain⟨rfl,ar,rfl,Q⟩:=b2;rw[b8];rw[<-aT]at Q;have A:=A.mono am;have o:=o.mono am;have Z:=Z.mono am;have k2:=k2.mono am;have ab:=ab.mono am;have ae:=ae.mono am;have ac:=ac.mono am;have ah:=ah.mono am;have aj:=aj.mono am;have ai:=ai.mono am;refine S.un ?_;refine S.mv ?_;refine S.un ?_;refine S.pick ?_;refine S.aD ?_;refine S.ld 0 ?_;refine S.len ?_ (hl:=aa.len aj);rw[cm];refine S.aD ?_;refine S.ld 1 ?_;refine S.len ?_ (hl:=aa.len o);rw[az];refine S.bin ?_ (hv:=xq _);refine S.pick ?_;refine S.aD ?_;refine S.ld 0 ?_;refine S.len ?_ (hl:=aa.len k2);rw[hS,b6];refine S.aD ?_;refine S.ld 1 ?_;refine S.len ?_ (hl:=aa.len o);rw[az];refine S.bin ?_ (hv:=xq _);refine S.pick ?_;refine S.aD ?_;refine S.ld 0 ?_;refine S.len ?_ (hl:=aa.len ab);rw[ck];refine S.aD ?_;refine S.ld 1 ?_;refine S.len ?_ (hl:=aa.len o);rw[az];refine S.bin ?_ (hv:=xq _);refine S.pick ?_;refine S.aD ?_;refine S.ld 0 ?_;refine S.len ?_ (hl:=aa.len ac);rw[cl];refine S.aD ?_;refine S.ld 1 ?_;refine S.len ?_ (hl:=aa.len o);rw[az];refine S.bin ?_ (hv:=xq _);refine S.pick ?_;refine C.B (fun bi=>?_) fun bi=>?_
    ·cases bi
    ·refine SW.bF (fun m E ψ R=>∃i:Nat,i+m=w.trees.length/\cr.Le ψ/\R=[(some a5,.cells [.j s.next,.j s.id,v2,v3,v4,v5] false),(some a3,.cells (bf an wv aB w) false)]/\Sub [(3,.ptr a3 0),(5,.ptr a5 0),(7,ar),(9,.j (i:Int))] E) (m:=w.trees.length) (.done ⟨0,by omega,.refl _,rfl,.r rfl⟩) ?_;intro cf E ψ R bv ay;obtain⟨i,cX,Y,rfl,aw⟩:=ay;refine C.sub aw ?_;refine S.ld 1 ?_;refine S.len ?_ (hl:=aa.len (o.mono Y));rw[az];refine S.bin ?_;refine C.D (fun bM=>?_) fun bM=>?_
     ·have hi:i<w.trees.length:=by omega
      have A:=A.mono Y;have o:=o.mono Y;have Z:=Z.mono Y;have k2:=k2.mono Y;have ab:=ab.mono Y;have ae:=ae.mono Y;have ac:=ac.mono Y;have ah:=ah.mono Y;have aj:=aj.mono Y;have ai:=ai.mono Y;have Q:=Q.mono Y;obtain⟨f1,ao⟩:=br.get i (by omega) hi;obtain⟨h,bt⟩:∃h,h=w.trees[i]:=⟨_,rfl⟩
      obtain⟨x,aX⟩:∃x,x=s.trees[i]'(by omega):=⟨_,rfl⟩
      rw[<-bt,<-aX]at ao;obtain⟨bE,ak⟩:=Z.at (i:=i) (by omega) hi;rw[<-bt]at bE ak;obtain⟨bG,dI⟩:=ao.len;have aS:∀{U:Type} (f:gY->U),(s.trees.map f)[i]? =some (f x):=fun f=>by rw[k1,bj (by omega),<-aX];(try rfl)
      have z3:=ae.2 i aI[i] _ (bj (by omega)) (aS _);have z4:=ah.2 i aJ[i] _ (bj (by omega)) (aS _);have z5:=ai.2 i aA[i] _ (bj (by omega)) (aS _);have cZ:=AX h.t;refine S.ld 1 ?_;refine S.aF o (show i<xl.length by omega) fun c9 bN=>?_;refine S.bl bN fun da cH=>?_;refine S.a1 ?_;refine S.call (Aj ak (ry ao.may)) fun cn dJ ct W bY=>?_;obtain⟨rfl,fr⟩:=bY;have A:=A.mono W;have o:=o.mono W;have Z:=Z.mono W;have k2:=k2.mono W;have ab:=ab.mono W;have ae:=ae.mono W;have ac:=ac.mono W;have ah:=ah.mono W;have aj:=aj.mono W;have ai:=ai.mono W;have Q:=Q.mono W;have ak:=ak.mono W;have z3:=z3.mono W;have z4:=z4.mono W;have z5:=z5.mono W;refine S.ld 0 ?_;refine S.aF k2 (show i<(s.trees.map (·.root)).length by rw[hS];omega) fun db bO=>?_;rw[nU,<-aX,ao.root]at bO;refine S.bJ ?_ (l:=df.f h.r);refine S.ld 1 ?_;refine S.aF o (show i<xl.length by omega) fun dc bP=>?_;refine S.bl bP fun dd cJ=>?_;refine S.bJ ?_ (l:=df.f h.r) (hl:=by rw[<-bE];(try rfl));refine S.bin ?_ (hv:=Oc _);refine S.aD ?_;refine S.ld 0 ?_;refine S.mv ?_;refine S.aF aj (show i<aA.length by omega) fun dg cK=>?_;refine S.a1 ?_;have:=z5.ax;refine S.build ?_ (l:=eA.f (Jf,⟨aA[i].1,this⟩));refine S.a8 (fun bb=>?_) (dl:=eA.sc _);have ci:af eA (.sl bb 0 1 (.ex 1)) [(Jf,⟨aA[i].1,z5.ax⟩)] (some bb):=af.new rfl;refine S.cd 0 ci fun dL M f128=>?_;have A:=A.mono M;have o:=o.mono M;have Z:=Z.mono M;have k2:=k2.mono M;have ab:=ab.mono M;have ae:=ae.mono M;have ac:=ac.mono M;have ah:=ah.mono M;have aj:=aj.mono M;have ai:=ai.mono M;have Q:=Q.mono M;have ak:=ak.mono M;have z3:=z3.mono M;have z4:=z4.mono M;have z5:=z5.mono M;have fr:=fr.mono M;refine S.aD ?_;refine S.ld 1 ?_;refine S.mv ?_;refine S.aF o (show i<xl.length by omega) fun dh bQ=>?_;refine S.bl bQ fun di cL=>?_;refine S.a1 ?_;have:=ak.ax;refine S.build ?_ (l:=eA.f (Jf,⟨(xl[i]).2.1,this⟩));refine S.a8 (fun bc=>?_) (dl:=eA.sc _);have cj:af eA (.sl bc 0 1 (.ex 1)) [(Jf,⟨(xl[i]).2.1,ak.ax⟩)] (some bc):=af.new rfl;refine S.cd 0 cj fun cq I f136=>?_;have A:=A.mono I;have o:=o.mono I;have Z:=Z.mono I;have k2:=k2.mono I;have ab:=ab.mono I;have ae:=ae.mono I;have ac:=ac.mono I;have ah:=ah.mono I;have aj:=aj.mono I;have ai:=ai.mono I;have Q:=Q.mono I;have ak:=ak.mono I;have z3:=z3.mono I;have z4:=z4.mono I;have z5:=z5.mono I;have fr:=fr.mono I;have f128:=f128.mono I;have ce:x.tree=h.t:=ao.tree;have cW:=(rv ao.may).1;refine S.al (QW (Qa f128 (by rw[<-ce];exact z5)) (Qa f136 ak) (by simp) (fun q hq=>by rw[hB.1 hq];show h.t.length<=_;omega)) ?_;refine S.un ?_;refine S.pick ?_;refine S.aD ?_;refine S.ld 0 ?_;refine S.mv ?_;refine S.aF ab (show i<aI.length by omega) fun dj cM=>?_;refine S.a1 ?_;refine S.len ?_ (hl:=aa.len z3);rw[hS,bG];refine S.mv ?_;refine S.len ?_ (hl:=aa.len fr);refine S.bin ?_ (hv:=xq _);refine S.pick ?_;refine S.aD ?_;refine S.ld 0 ?_;refine S.mv ?_;refine S.aF ac (show i<aJ.length by omega) fun dk cN=>?_;refine S.a1 ?_;refine S.len ?_ (hl:=aa.len z4);rw[hS,bG];refine S.mv ?_;refine S.len ?_ (hl:=aa.len fr);refine S.bin ?_ (hv:=xq _);refine S.pick ?_;refine C.B (fun bd=>?_) fun bd=>?_
      ·cases bd
      ·refine SW.bF (fun m E ψ R=>∃k:Nat,k+m=(b3 h.t).length/\cq=ψ/\R=[(some a5,.cells [.j s.next,.j s.id,v2,v3,v4,v5] false),(some a3,.cells (bf an wv aB w) false)]/\Sub [(3,.ptr a3 0),(5,.ptr a5 0),(7,ar),(9,.j (i:Int)),(10,cn),(11,.j (k:Int))] E) (m:=(b3 h.t).length) (.done ⟨0,by omega,rfl,rfl,.r rfl⟩) ?_;intro cg E ψ R bv ay;obtain⟨k,cc,rfl,rfl,aw⟩:=ay;refine C.sub aw ?_;refine S.len ?_ (hl:=aa.len fr);refine S.bin ?_;refine C.D (fun bK=>?_) fun bK=>?_
       ·have hk:k<(b3 h.t).length:=by omega
        obtain⟨p,y,bp,aP,aQ,aE,aH⟩:=ao.at cb k hk;obtain⟨r,hr⟩:∃r,r=(b3 h.t)[k]:=⟨_,rfl⟩
        rw[<-hr]at aP aH;have c2:=Kv aE;refine S.ag 1 ?_ (l:=[an,wv,.j w.d.arm,.bool w.d.down]);refine S.ld 0 ?_;refine S.aF ac (show i<aJ.length by omega) fun dm cO=>?_;refine S.a1 ?_;refine S.aF z4 (dS.1 bp).1 fun dn bk=>?_;rw[(dS.1 bp).2]at bk;refine S.bl bk fun dp cP=>?_;refine S.a1 ?_;refine S.al (JC A (by omega)) ?_;rw[aQ];refine S.al (JI) ?_;rw[aE];refine S.alloc fun cB=>?_;refine S.store (v:=.agg (bu.f y)) 0 ?_;refine S.ag 0 ?_ (l:=bu.f y);refine S.al (Kr (x:=y) (by omega)) ?_;rw[aH];refine S.alloc fun cC=>?_;refine S.store (v:=.agg (bq.f r)) 0 ?_;refine S.un ?_;refine S.mv ?_;refine S.un ?_;refine S.pick ?_;refine S.ag 0 ?_ (l:=bq.f r);refine S.mv ?_;refine S.mv ?_;refine S.aF fr hk fun dq bR=>?_;rw[<-hr]at bR;refine S.bJ ?_ (l:=bq.f r);refine S.bin ?_ (hv:=P9 _);refine S.pick ?_;refine S.aD ?_;refine S.ld 2 ?_;refine S.mv ?_;refine S.aF ab (show i<aI.length by omega) fun ds cQ=>?_;refine S.a1 ?_;refine S.mv ?_;refine S.aF z3 (dS.1 aP).1 fun dt bS=>?_;rw[(dS.1 aP).2]at bS;refine S.bJ ?_ (l:=bq.f ⟨r.ino,r.idx,[]⟩);refine S.aD ?_;refine S.ld 0 ?_;refine S.aD ?_;refine S.ld 0 ?_;refine S.build ?_ (l:=bq.f ⟨r.ino,r.idx,[]⟩);refine S.bin ?_ (hv:=P9 _);refine S.pick ?_;refine C.B (fun bg=>?_) fun bg=>?_
        ·cases bg
        ·refine S.bin ?_;exact⟨cg-1,by omega,.drop 0 (.drop 0 (.done ⟨k+1,by omega,rfl,rfl,.r rfl⟩))⟩
       ·refine S.bin ?_;exact⟨cf-1,by omega,.done ⟨i+1,by omega,Y.trans (W.trans (M.trans I)),rfl,.r rfl⟩⟩
     ·rename Fz=>co
      have A:=A.mono Y;have Q:=Q.mono Y;refine SW.bF (fun m E ψ R=>∃k:Nat,k+m=L.length/\co=ψ/\R=[(some a5,.cells [.j s.next,.j s.id,v2,v3,v4,v5] false),(some a3,.cells (bf an wv aB w) false)]/\Sub [(3,.ptr a3 0),(5,.ptr a5 0),(7,ar),(18,.j (k:Int))] E) (m:=L.length) (.done ⟨0,by omega,rfl,rfl,.r rfl⟩) ?_;intro ch E ψ R bv ay;obtain⟨k,cc,rfl,rfl,aw⟩:=ay;refine C.sub aw ?_;refine S.len ?_ (hl:=aa.len Q);refine S.bin ?_;refine C.D (fun bL=>?_) fun bL=>?_
      ·have hk:k<L.length:=by omega
       obtain⟨y,aQ,aE,aH⟩:=bI _ (cw hk);refine S.ag 1 ?_ (l:=[an,wv,.j w.d.arm,.bool w.d.down]);refine S.aF Q hk fun du bT=>?_;refine S.bl bT fun dw cR=>?_;refine S.a1 ?_;refine S.al (JC A (by omega)) ?_;rw[aQ];refine S.al (JI) ?_;rw[aE];refine S.alloc fun cD=>?_;refine S.store (v:=.agg (bu.f y)) 0 ?_;refine S.un ?_;refine S.aD ?_;refine S.ld 0 ?_;refine S.mv ?_;refine S.mv ?_;refine S.aF Q hk fun dx bU=>?_;refine S.bl bU fun dy cS=>?_;refine S.a1 ?_ (u:=.j (L[k]).gen);rw[<-aH];refine S.bin ?_ (hv:=xq _);refine S.pick ?_;refine S.mv ?_;refine G.bin ?_;refine G.mv ?_;refine G.mv ?_;refine G.mv ?_;refine G.bin ?_ (v:=.j ((k-1:Nat):Int)) (hv:=fun b7=>by rw[fU (by omega) (by omega)];congr 2;simp at b7;omega);refine G.aF Q (j:=k-1) (z:=L[k-1]'(by omega)) (fun dA bV=>?_) (hj:=fun _=>bj (by omega));refine G.bl bV fun dB cT=>?_;refine G.a1 ?_;refine G.mv ?_;refine G.mv ?_;refine G.aF Q (j:=k) (z:=L[k]) (fun dC bW=>?_) (hj:=fun _=>bj hk);refine G.bl bW fun dD cU=>?_;refine G.a1 ?_;refine G.bin ?_;refine G.fV ?_;refine G.or ?_;refine C.B (fun aC=>?_) fun aC=>?_
       ·have aC:(decide (0<(k:Int))&&decide ((L[k]).addr<=(L[k-1]'(by omega)).addr))=true:=aC;simp only[be,aR]at aC;have:=List.pairwise_iff_getElem.1 bH (k-1) k (by omega) hk (by omega);omega
       ·refine S.bin ?_;exact⟨ch-1,by omega,.drop 0 (.done ⟨k+1,by omega,rfl,rfl,.r rfl⟩)⟩
      ·exact⟨_,.t rfl .nil,.none rfl⟩
end Go.Ev
