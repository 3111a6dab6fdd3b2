/- A part of the proof of glacislaw13.LiveOnce. -/
import Derived.Test.YtebhegkangheiaaGreatDoorOM
import Derived.Shelf.SlSortCmp.WholeK
namespace Go.Ev
open Go Go.Sort Go.Proofs
def jt (x y:ah):Int:=if x.addr<y.addr then-1 else if x.addr>y.addr then 1 else if x.gen<y.gen then-1 else if x.gen>y.gen then 1 else 0
def e7 (x y:ah):Bool:=decide (x.addr<y.addr)||(decide (x.addr=y.addr)&&decide (x.gen<=y.gen))
def o1 (p:ah):List ah->List ah
 |[]=>[p]
 |a::l=>if e7 p a then p::a::l else a::o1 p l
def fJ:List ah->List ah
 |[]=>[]
 |a::l=>o1 a (fJ l)
theorem xb (p:ah):∀l,(o1 p l).Perm (p::l)
 |[]=>.refl _
 |a::l=>by
  unfold o1;split
  ·exact .refl _
  ·exact((xb p l).cons a).trans (.swap p a l)
theorem tU:∀l,(fJ l).Perm l
 |[]=>.refl _
 |a::l=>(xb a _).trans ((tU l).cons a)
theorem lZ {x y:ah}:e7 x y=true↔x.addr<y.addr\/(x.addr=y.addr/\x.gen<=y.gen):=by unfold e7;simp
theorem Nl (x y:ah):e7 x y=true\/e7 y x=true:=by rw[lZ,lZ];omega
theorem Nn {x y z:ah} (h:e7 x y=true) (k:e7 y z=true):e7 x z=true:=by rw[lZ]at*;omega
theorem Ca {x y:ah} (h:e7 x y=true) (k:e7 y x=true):x=y:=by
 rw[lZ]at*;have o:x.addr=y.addr:=by omega
 have aj:x.gen=y.gen:=by omega
 cases x;cases y;simp_all
theorem Cb (p:ah):∀{l:List ah},l.Pairwise (fun a b=>e7 a b=true)->(o1 p l).Pairwise (fun a b=>e7 a b=true)
 |[],_=>by simp[o1]
 |a::l,h=>by
  rw[jU]at h;unfold o1;split
  ·rename_i hp;rw[jU,jU];refine⟨fun b d=>?_,h⟩;rcases bS.1 d with rfl|d
   ·exact hp
   ·exact Nn hp (h.1 b d)
  ·rename_i hp;rw[jU];refine⟨fun b d=>?_,Cb p h.2⟩;rcases bS.1 ((xb p l).mem_iff.1 d)with rfl|d
   ·exact(Nl a b).resolve_right hp
   ·exact h.1 b d
theorem xd:∀l,(fJ l).Pairwise (fun a b=>e7 a b=true)
 |[]=>.nil
 |a::l=>Cb a (xd l)
theorem Cc:∀{l m:List ah},l.Perm m->l.Pairwise (fun a b=>e7 a b=true)->m.Pairwise (fun a b=>e7 a b=true)->l=m
 |[],m,h,_,_=>by rw[h.nil_eq]
 |a::l,[],h,_,_=>by have:=h.length_eq;simp at this
 |a::l,b::m,h,o,aj=>by
  have j:a=b:=by
   rcases bS.1 (h.mem_iff.1 (dc:a∈a::l))with e|e
   ·exact e
   ·rcases bS.1 (h.mem_iff.2 (dc:b∈b::m))with d|d
    ·exact d.symm
    ·exact Ca ((jU.1 o).1 b d) ((jU.1 aj).1 a e)
  subst j;rw[Cc ((List.perm_cons a).1 h) (jU.1 o).2 (jU.1 aj).2]
theorem rL (l:List ah):(fJ l).length=l.length:=(tU l).length_eq
instance:Inhabited ah:=⟨⟨0,0⟩⟩
theorem Cd (x y:ah):ltOf jt x y=true↔e7 y x=false:=by
 unfold ltOf;rw[aR,l2,Ne,lZ];unfold jt;split<;>(try split)<;>(try split)<;>(try split)<;>omega
theorem xe (x y:ah):ltOf jt x y=false↔e7 y x=true:=by
 have:=Cd x y;cases o:ltOf jt x y<;>cases aj:e7 y x<;>simp_all
theorem No:SWO (ltOf jt)where
 irrefl x:=by rw[xe,lZ];omega
 trans x y z h k:=by rw[Cd,l2,Ne,lZ]at*;omega
 ntrans x y z h k:=by rw[xe,lZ]at*;omega
def dQ (p:ah):List Value:=[.int .i64 p.addr,.int .i64 p.gen]
def l0:List V->Option (List ah)
 |[]=>some []
 |x::r=>match x with
  |.int k a=>match k with
   |.i64=>match r with
    |y::d=>match y with
     |.int j b=>match j with
      |.i64=>(l0 d).map (⟨a,b⟩::·)
      |_=>none
     |_=>none
    |[]=>none
   |_=>none
  |_=>none
theorem Ce:∀(n:Nat) {xs:List V} {l:List ah},xs.length<=n->l0 xs=some l->xs=aq.fl l
 |_,[],l,_,h=>by simp only[l0,aL]at h;subst h;rfl
 |0,x::r,l,hn,_=>by simp at hn
 |n+1,x::r,l,hn,h=>by
  unfold l0 at h;cases x<;>simp only at h<;>(try(cases h;done))
  rename_i k a;cases k<;>simp only at h<;>(try(cases h;done))
  cases r with
  |nil=>cases h
  |cons y d=>
   simp only at h;cases y<;>simp only at h<;>(try(cases h;done))
   rename_i j b;cases j<;>simp only at h<;>(try(cases h;done))
   cases hr:l0 d with
   |none=>rw[hr]at h;cases h
   |some l'=>
    rw[hr]at h;simp only[dM,aL]at h;subst h;rw[Ce n (by simp at hn;omega) hr];(try rfl)
theorem Cf:∀l:List ah,l0 (aq.fl l)=some l
 |[]=>rfl
 |⟨a,b⟩::l=>by
  show(l0 (aq.fl l)).map (⟨a,b⟩::·)=_;rw[Cf l];(try rfl)
noncomputable def jQ (j:Nat):List V->Hp->Option (V×Hp):=fun args h=>match args with
 |[x,y]=>match y with
  |.fn g a2=>match a2 with
   |[]=>bif Nat.beq g j then match x with
    |.sl a I n _=>bif Nat.ble n 1000000000 then match h.get a with
     |some b=>match b with
      |.cells _ d=>bif d then none else match n with
       |0=>none
       |_+1=>match h.b1 a I (n*2)with
        |some xs=>match l0 xs with
         |some l=>match h.cG a I (aq.fl (fJ l))with
          |some h'=>some (.aN [],h')
          |none=>none
         |none=>none
        |none=>none
      |_=>none
     |none=>none else none
    |.no k=>match k with
     |.sl=>some (.aN [],h)
     |_=>none
    |_=>none else none
   |_::_=>none
  |_=>none
 |_=>none
theorem Cg {U:AM}:∀{l:List ah} {cs:List Value},bd U (aq.fl l) cs->cs=l.flatMap dQ
 |[],cs,h=>by cases h;rfl
 |p::l,cs,h=>by
  have aj:bd U (.int .i64 p.addr::.int .i64 p.gen::aq.fl l) cs:=h;cases aj with
  |cons _ eH _ B d o=>
   cases o with
   |cons _ Pf _ D j A=>
    cases d;cases j;rw[Cg A];(try rfl)
theorem Ch {U:AM}:∀(l:List ah),bd U (aq.fl l) (l.flatMap dQ)
 |[]=>.nil
 |_::l=>.cons _ _ _ _ (.int _ _) (.cons _ _ _ _ (.int _ _) (Ch l))
theorem xf:∀(l:List ah) (t:Nat),t<l.length*2->(l.flatMap dQ)[t]? =some ((dQ (l.toArray)[t/2]!)[t%2]!)
 |[],t,h=>by simp at h
 |_::_,0,_=>by simp[dQ]
 |_::_,1,_=>by simp[dQ]
 |p::l,t+2,h=>by
  have A:=xf l t (by simp at h;omega);have d:(t+2)/2=t/2+1:=by omega
  have j:(t+2)%2=t%2:=by omega
  rw[d,j];show(dQ p++l.flatMap dQ)[t+2]? =_;rw[db (by simp[dQ])];have o:t+2-(dQ p).length=t:=by simp[dQ]
  rw[o,A];simp
theorem Ci {C:Cx} {ls:List LE} {U:AM} {Λ:Pa->Prop} {h:Hp} {w:World} (s:aS C U Λ h ls w) {a:Pa} {L:Loc} {B:List V} (Y:U a=some L) (R:h.get a=some (.cells B false)) {I n:Nat} {l l':List ah} (hn:n=l.length) (W:l'.length=n) (hl:h.b1 a I (n*2)=some (aq.fl l)) {h':Hp} (d:h.cG a I (aq.fl l')=some h') (m:Nat) (os:Array Obj) (dl:C.sd=false):
 HoldsK dQ 2 w L.aw (L.base+I) l.toArray/\L.aw<w.heap.size/\aS C U Λ h' ls (sortWorldK dQ 2 w L.aw (L.base+I) m l'.toArray os)/\h'.next=h.next:=by
 obtain⟨ay,A,el,fr,G,aj,Z,⟨aB,ac⟩,ak⟩:=s.FR Y R;obtain⟨cs,eH,Pf,Pm⟩:=s.FQ Y hl;have an:=Cg Pf;have ao:L.aw<w.heap.size:=(gI.1 G).1;unfold bn.cG at d;rw[R]at d;simp only[bw]at d;have ar:aY (aq.fl l')=true:=iW l';rw[ar]at d;simp only[aE]at d;cases ch:cT I B (aq.fl l')with
 |none=>rw[ch]at d;cases d
 |some az=>
 rw[ch]at d;simp only[aL]at d;subst d;obtain⟨am,D⟩:=qB ch;have F:(aq.fl l').length=n*2:=by rw[gz,W];(try rfl)
 rw[F]at am D;have aC:L.base+I+n*2<=A.size:=by omega
 refine⟨fun j hj=>?_,ao,?_,rfl⟩
 ·have ag:j<l.length*2:=by simpa using hj
  have o:=xf l j ag;rw[<-an]at o;refine⟨?_,x9 G Z (by omega)⟩;rw[Pm j _ o];show _=some (id _);rw[get_flatK _ _ _ _ (by simpa using ag)];(try rfl)
 ·
  obtain⟨cs',O⟩:∃cs',cs'=putCells id (L.base+I) (flatK dQ 2 l'.toArray) A:=⟨_,rfl⟩
  have Q:cs'.size=A.size:=by rw[O];simp[putCells]
  have av:(putRowK dQ 2 (Sort.ahead w m) L.aw (L.base+I) l'.toArray).heap[L.aw]? =some (.cells cs' el fr):=by
   show(w.heap.modify L.aw _)[L.aw]? =_;rw[mX,ae rfl,G];show some (onCells _ (.cells A el fr))=_;rw[O];(try rfl)
  have ht:gx w (putRowK dQ 2 (Sort.ahead w m) L.aw (L.base+I) l'.toArray) L.aw:=by
   refine⟨?_,fun i hi=>?_,rfl,rfl,rfl,qe _ _⟩
   ·show(w.heap.modify L.aw _).size=_;simp
   ·show(w.heap.modify L.aw _)[i]? =_;rw[mX,ab (Ne.symm hi)]
  have aA:=s.oe Y ay R rfl rfl ht (b':=.cells az false) ⟨cs',el,fr,av,by rw[Q];exact aj,by rw[Q];exact Z,⟨by rw[Q,D];simp;omega,fun i v hv=>?_⟩,ak⟩
  ·exact aA.below dl ⟨rfl,rfl,rfl,by show _<=(_++os).size;rw[rT];exact qe _ _,fun k hk=>by
    show(_++os)[k]? =_;exact p7 hk⟩
  ·have hi:i<B.length:=by
    have:=(dS.1 hv).1;rw[D]at this;simp at this;omega
   rw[D]at hv;have S:cs'[L.base+i]? =if L.base+I<=L.base+i/\L.base+i<L.base+I+n*2 then some ((flatK dQ 2 l'.toArray)[L.base+i-(L.base+I)]!)else A[L.base+i]? :=by
    rw[O];unfold putCells;rw[Array.getElem?_mapIdx];have au:(flatK dQ 2 l'.toArray).size=n*2:=by rw[size_flatK];simp[W]
    rw[au];have ap:L.base+i<A.size:=by omega
    rw[Array.getElem?_eq_getElem ap];simp only[dM];split<;>rfl
   by_cases O9:i<I
   ·rw[bp,dt (by simp;omega),rM O9]at hv;rw[S,ab (by omega)];exact ac i v hv
   ·by_cases Po:i<I+n*2
    ·rw[bp,db (by simp;omega),dt (by simp[F];omega)]at hv;have M:i-(B.take I).length=i-I:=by simp;omega
     rw[M]at hv;obtain⟨c,ai,k2⟩:=(Ch (U:=U) l').get hv;rw[S,ae (by omega)];refine⟨_,rfl,?_⟩;have al:L.base+i-(L.base+I)=i-I:=by omega
     rw[al,get_flatK _ _ _ _ (by simp[W];omega)];rw[xf l' _ (by omega)]at ai;cases ai;exact k2
    ·rw[db (by simp[F];omega),gJ]at hv;have M:I+n*2+(i-(B.take I++aq.fl l').length)=i:=by simp[F];omega
     rw[M]at hv;rw[S,ab (by omega)];exact ac i v hv
theorem Np {d d':Array ah} (hp:PermIn 0 d.size d d') (hs:SortedIn (ltOf jt) 0 d.size d'):d'=(fJ d.toList).toArray:=by
 obtain⟨o,_,h⟩:=hp;have A:(d'.extract 0 d.size).toList=d'.toList:=by rw[<-o];simp
 have B:(d.extract 0 d.size).toList=d.toList:=by simp
 rw[A,B]at h;have I:d'.toList.Pairwise (fun a b=>e7 a b=true):=by
  rw[List.pairwise_iff_getElem];intro i j hi hj F;have:=hs i j (cS _) F (by rw[<-o];simpa using hj);rw[xe]at this;have D:i<d'.size:=by simpa using hi
  have G:j<d'.size:=by simpa using hj
  rw[getElem!_pos d' i D,getElem!_pos d' j G]at this;simpa using this
 have:=Cc (h.trans (tU _).symm) I (xd _);rw[<-this]
theorem Nq {h:Hp} {a:Pa} {I n:Nat} {l:List V} (hl:h.b1 a I n=some l):l.length=n:=by
 unfold bn.b1 at hl;cases hc:h.cells a with
 |none=>simp[hc]at hl
 |some m=>
  simp only[hc,lq]at hl;obtain⟨o,aj⟩:=od hl;rw[aj,cE];omega
theorem Nr {P:Program} {f g:Nat}
 (hc:∀(aw off cap:Nat) (d:Array ah) (w:World),HoldsK dQ 2 w aw off d->aw<w.heap.size->d.size<4611686018427387904->
   Calls P f #[.slice (some ⟨aw,off,none⟩) d.size cap,.func (.func g) #[] #[]] w fun e w'=>e=.returned (.tuple #[])/\∃d' n os,PermIn 0 d.size d d'/\SortedIn (ltOf jt) 0 d.size d'/\w'=sortWorldK dQ 2 w aw off n d' os)
 (ag:∀w,Calls P f #[.slice none 0 0,.func (.func g) #[] #[]] w fun e w'=>e=.returned (.tuple #[])/\Kept w w'):pB P f (jQ g):=by
 intro C U Λ h ls w args ce v h' ap dl s ha j;cases ha with
 |nil=>cases j
 |cons x an r W hx hr=>
 cases hr with
 |nil=>cases j
 |cons y ao r W ak hr=>
 cases hr with
 |cons=>cases j
 |nil=>
 simp only[jQ]at j;cases y<;>simp only at j<;>(try(cases j;done))
 rename_i Y a2;cases a2 with
 |cons=>cases j
 |nil=>
 simp only at j;cases G:Nat.beq Y g with
 |false=>rw[G]at j;cases j
 |true=>
 have:=dG G;subst this;rw[G]at j;simp only[aE]at j;cases ak with
 |fn _ _ _ ae=>
 cases ae;cases x<;>simp only at j<;>(try(cases j;done))
 case no k=>
  cases k<;>simp only at j<;>(try(cases j;done))
  simp only[aL,dH]at j;obtain⟨rfl,rfl⟩:=j;cases hx;refine(ag w).mono fun e w' M=>?_;obtain⟨rfl,o,aj,Z⟩:=M;refine⟨_,U,Λ,rfl,AM.le_refl U,?_,.aN [] [] .nil,fun a o aj=>absurd o aj,aB _⟩
  exact{fQ:=s.fQ,aw:=fun a L ha Q=>let⟨b,ab,ac⟩:=s.aw a L ha Q;⟨b,ab,ac.mono (AM.le_refl U) (fun _ _ h=>h) (aj _ (s.lt ha Q))⟩,
        inj:=s.inj,live:=s.live,wr:=s.wr,low:=fun i hi=>by rw[aj i (kl hi s.size)];exact s.low i hi,
        size:=fL s.size o,still:=s.still.xF dl Z,fresh:=s.fresh,gS:=s.gS}
 case sl a I n c=>
  cases F:Nat.ble n 1000000000 with
  |false=>rw[F]at j;cases j
  |true=>
  have ar:=eT F;rw[F]at j;simp only[aE]at j;cases B:h.get a with
  |none=>rw[B]at j;cases j
  |some b=>
  rw[B]at j;simp only at j;cases b<;>simp only at j<;>(try(cases j;done))
  rename_i av ec;cases ec with
  |true=>simp only[aE]at j;cases j
  |false=>
  simp only[bw]at j;cases n with
  |zero=>cases j
  |succ n=>
  simp only at j;cases hl:h.b1 a I ((n+1)*2)with
  |none=>rw[hl]at j;cases j
  |some xs=>
  rw[hl]at j;simp only at j;cases hp:l0 xs with
  |none=>rw[hp]at j;cases j
  |some l=>
  rw[hp]at j;simp only at j;cases D:h.cG a I (aq.fl (fJ l))with
  |none=>rw[D]at j;cases j
  |some aj=>
  rw[D]at j;simp only[aL,dH]at j;obtain⟨rfl,rfl⟩:=j;have ai:=Ce xs.length (aB _) hp;subst ai;have A:l.length=n+1:=by
   have o:=Nq hl;rw[gz]at o;have e:aq.k=2:=rfl;rw[e]at o;omega
  cases hx with
  |sl _ _ _ _ L capC R hn au=>
   obtain⟨al,am,_,_⟩:=Ci s R B (n:=n+1) (l:=l) (l':=fJ l) A.symm (by rw[rL,A]) hl D 0 #[] dl;have O:l.toArray.size=n+1:=by simpa using A
   have:=hc L.aw (L.base+I) capC l.toArray w al am (by rw[O];omega);rw[O]at this;refine this.mono fun e w' M=>?_;obtain⟨rfl,d',m,os,S,k2,rfl⟩:=M;rw[<-O]at S k2;have hd:=Np S k2;subst hd;obtain⟨_,_,t3,t4⟩:=Ci s R B (n:=n+1) (l:=l) (l':=fJ l) A.symm (by rw[rL,A]) hl D m os dl;exact⟨_,U,Λ,rfl,AM.le_refl U,t3,.aN [] [] .nil,fun a o aj=>absurd o aj,by rw[t4];exact aB _⟩
end Go.Ev
namespace Go.Ev
variable{F:Nat->Option aP} {O:Fz}
def mR (a b:Int):Int:=if a<b then-1 else if a>b then 1 else 0
def mS:List Int->Int
 |[]=>0
 |a::l=>if a≠0 then a else mS l
theorem Ns (x y:ah):mS [mR x.addr y.addr,mR x.gen y.gen]=jt x y:=by
 unfold mS mS mS mR jt;split<;>(try split)<;>(try split)<;>(try split)<;>(try split)<;>(try split)<;>omega
theorem Cj [Fx F] {a:Int}:bm F 79 [.j a] O (.bool false):=by
 refine ai.al (ar ?_);refine S.bin ?_;refine⟨_,.t rfl .nil,.done ?_⟩;show V.bool _=_;simp
theorem Ck [Fx F] {a b:Int}:bm F 41 [.j a,.j b] O (.j (mR a b)):=by
 refine ai.al (ar ?_);refine S.al (Cj) ?_;refine S.al (Cj) ?_;refine C.B (fun Pg=>?_) fun Pg=>?_
 ·cases Pg
 ·refine C.B (fun O6=>?_) fun O6=>?_
  ·cases O6
  ·refine S.bin ?_;refine C.D (fun O3=>?_) fun O3=>?_
   ·exact⟨_,.t rfl .nil,.done (by unfold mR;rw[ae O3];(try rfl))⟩
   ·refine S.bin ?_;refine C.D (fun OZ=>?_) fun OZ=>?_
    ·exact⟨_,.t rfl .nil,.done (by unfold mR;rw[ab O3,ae OZ];(try rfl))⟩
    ·exact⟨_,.t rfl .nil,.done (by unfold mR;rw[ab O3,ab OZ];(try rfl))⟩
theorem Nt [Fx F] {v:V} {l:List Int} (hl:aa bt O v l) (hlen:l.length<=1000000):bm F 40 [v] O (.j (mS l)):=by
 refine ai.al (ar ?_);refine S.len ?_ (hl:=aa.len hl);refine SW.loop (fun m E ψ R=>∃j:Nat,j+m=l.length/\mS l=mS (l.drop j)/\O=ψ/\R=[]/\Sub [(3,.j 0),(6,v),(7,.j (l.length:Int)),(8,.j (j:Int))] E) (m:=l.length) ⟨0,by omega,rfl,rfl,rfl,.r rfl⟩ ?_;intro A E ψ R I o;obtain⟨j,hm,d,rfl,rfl,h⟩:=o;refine C.sub h ?_;refine S.bin ?_;refine C.D (fun O7=>?_) fun O7=>?_
 ·have hj:j<l.length:=by omega
  rw[bQ hj]at d;simp only[mS]at d;refine S.aF hl hj fun L G=>?_;refine S.a1 ?_;refine S.bin ?_;refine C.B (fun O0=>?_) fun O0=>?_
  ·rw[ae (by simpa using O0)]at d;refine⟨_,.t rfl .nil,.done ?_⟩;rw[d];(try rfl)
  ·rw[ab (by simpa using O0)]at d;refine S.bin ?_;exact⟨A-1,by omega,j+1,by omega,d,rfl,rfl,.r rfl⟩
 ·obtain rfl:j=l.length:=by omega
  rw[b6]at d;refine⟨_,.t rfl .nil,.done ?_⟩;rw[d];(try rfl)
theorem Nu [Fx F] (x y:ah):SW F ⟨⟨39,17,false,none⟩,fun _=>True⟩ B.qW.den [(0,.agg [.j x.addr,.j x.gen]),(1,.agg [.j y.addr,.j y.gen])] O [] (mz [(pa 4,none)] (fun u _ _=>u=.j (jt x y)) never):=by
 show SW F _ B.qW.den [(0,.agg [.j x.addr,.j x.gen]),(1,.agg [.j y.addr,.j y.gen])] O [] _;refine SC.w ?_;refine S.box fun A=>?_;refine S.box fun a3=>?_;refine S.ld 1 ?_;refine S.ld 0 ?_;refine S.ld 1 ?_;refine S.ld 0 ?_;refine S.al (Ck) ?_;refine S.bE 0 ?_;refine S.bE 1 ?_;refine S.al (Ck) ?_;refine S.a8 fun d=>?_;have o:af bt (.sl d 0 2 (.ex 2)) [mR x.addr y.addr,mR x.gen y.gen] (some d):=af.new rfl;refine S.cd 0 o fun G D h=>?_;refine S.al (Nt h (by simp)) ?_;rw[Ns];exact⟨_,.t rfl .nil,.none rfl⟩
theorem Nv (hs:F 38=some (.cA (jQ 39))) {v:V} {l:List ah} {s:Option Pa} (ho:af aq v l s) (h0:l=[]->v=.no .sl) (hl:l.length<=1000000000):
 ai F 38 [v,.fn 39 []] O [aq.ob s l] (fun _ ψ R=>ψ=O/\R=[aq.ob s (fJ l)]) never:=fun ad h sh=>by
 have j:Nat.beq 39 39=true:=dU _;cases l with
 |nil=>
  have:=h0 rfl;subst this;refine .inl ⟨.aN [],h,vr hs ?_,O,[aq.ob s []],.refl O,sh,rfl,rfl⟩;simp only[jQ,j,aE]
 |cons p l=>
  have A:∃a c,v=.sl a 0 (p::l).length c/\s=some a:=by
   rcases ho.2.2 with⟨_,o,_⟩|⟨a,rfl,aj⟩|⟨a,rfl,aj⟩
   ·simp at o
   ·exact⟨a,_,rfl,aj⟩
   ·exact⟨a,_,rfl,aj⟩
  obtain⟨a,c,rfl,rfl⟩:=A;have d:h.get a=some (.cells (aq.fl (p::l)) false):=sh.fy (i:=0) rfl;have hlen:(aq.fl (p::l)).length=(p::l).length*2:=gz _;have o:h.b1 a 0 ((p::l).length*2)=some (aq.fl (p::l)):=by
   have:=yN (h:=h) (a:=a) (I:=0) (n:=(p::l).length*2) (m:=aq.fl (p::l)) (by unfold bn.cells;rw[d];(try rfl)) (by omega);rw[this,nb,<-hlen,dT]
  have aj:h.cG a 0 (aq.fl (fJ (p::l)))=some (h.put a (.cells (aq.fl (fJ (p::l))) false)):=
   sO d (iW _) (w7 (by rw[gz,gz,rL]))
  refine .inl ⟨.aN [],h.put a (.cells (aq.fl (fJ (p::l))) false),vr hs ?_,O,_,.refl O,sh.pI (i:=0) rfl _,rfl,rfl⟩;have hn:Nat.ble (p::l).length 1000000000=true:=hA hl;simp only[jQ,j,aE,hn,d,bw];show(match h.b1 a 0 ((p::l).length*2)with
   |some xs=>match l0 xs with
    |some l=>match h.cG a 0 (aq.fl (fJ l))with
     |some h'=>some (V.aN [],h')
     |none=>none
    |none=>none
   |none=>none)=_
  rw[o];simp only[Cf,aj]
set_option maxHeartbeats 1000000
theorem Nw (a b:ah):b0 .eql (.agg [(0,.i),(1,.i)]) (.agg (aq.f a)) (.agg (aq.f b))=some (.bool (decide (a=b))):=by
 have h:=v8 a b;have aj:∀I:Option Bool,I.map (fun b=>V.bool (!b))=some (.bool (!decide (a=b)))->I.map V.bool=some (.bool (decide (a=b))):=by
  intro I ho;cases I with
  |none=>cases ho
  |some c=>simp only[dM,aL,V.bool.injEq]at ho⊢;revert ho;cases c<;>cases decide (a=b)<;>simp
 exact aj _ h
def o2 (d:List ah) (p:ah):List ah:=if d.getLast? =some p then d else d++[p]
def ec (l:List ah):List ah:=l.foldl o2 []
theorem xg (l:List ah) (p:ah):ec (l++[p])=o2 (ec l) p:=by unfold ec;rw[rR];(try rfl)
theorem Cl (d:List ah) (p:ah):(o2 d p).getLast? =some p:=by
 unfold o2;split
 ·assumption
 ·simp
theorem Cm {l:List ah} {i:Nat} (o:1<=i) (hi:i<l.length):ec (l.take (i+1))=if l[i]=l[i-1]'(by omega)then ec (l.take i)else ec (l.take i)++[l[i]]:=by
 rw[fm hi,xg];obtain⟨j,rfl⟩:∃j,i=j+1:=⟨i-1,by omega⟩
 have hl:(ec (l.take (j+1))).getLast? =some (l[j]'(by omega)):=by
  rw[fm (by omega),xg];exact Cl _ _
 unfold o2;rw[hl];show _=if l[j+1]=l[j]'(by omega)then _ else _
 by_cases he:l[j+1]=l[j]'(by omega)
 ·rw[ae (by rw[he]),ae he]
 ·rw[ab (by rw[aL];exact fun h=>he h.symm),ab he]
theorem Ny (l:List ah) (h:0<l.length):ec (l.take 1)=l.take 1:=by
 cases l with
 |nil=>simp at h
 |cons a l=>rfl
theorem Nz (l:List ah) (h:l.length<2):ec l=l:=by
 match l,h with
 |[],_=>rfl
 |[a],_=>rfl
theorem Cn (n:Nat):c5 [(.j 0),(.j 0)] n=aq.fl (List.replicate n ⟨0,0⟩):=JS (e:=aq) ⟨0,0⟩ n
theorem NA {m:List ah} {k:Nat} (hk:k<=m.length):cT (k*2) (aq.fl m) (c5 [(.j 0),(.j 0)] (m.length-k))=some (aq.fl (m.take k++List.replicate (m.length-k) ⟨0,0⟩)):=by
 have d:aq.k=2:=rfl;have o:(aq.fl m).length=m.length*2:=gz _;have aj:(aq.fl (List.replicate (m.length-k) (⟨0,0⟩:ah))).length=(m.length-k)*2:=by rw[gz,k0];(try rfl)
 rw[Cn,zn (by rw[o,aj];omega),aj,nD];have h:(aq.fl m).take (k*2)=aq.fl (m.take k):=by have:=s0 (e:=aq) m k;rw[d]at this;exact this
 rw[h,jS (by rw[o];omega),e9]
theorem ND [Fx F] {v:V} {l:List ah} {s:Option Pa} (ho:af aq v l s) (hl:l.length<=1000000):
 ai F 42 [v] O [aq.ob s l] (fun r ψ R=>R=[]/\aa aq ψ r (ec l)) never:=by
 refine ar ?_;refine S.len ?_ (hl:=af.len ho);refine S.bin ?_;refine C.D (fun Pc=>?_) fun Pc=>?_
 ·exact⟨_,.t rfl .nil,.bL 0 rfl ho fun ψ aL A=>.done ⟨rfl,by rw[Nz l (by omega)];exact A⟩⟩
 ·obtain⟨a,c,rfl,rfl⟩:∃a c,v=.sl a 0 l.length c/\s=some a:=by
   rcases ho.2.2 with⟨_,o,_⟩|⟨a,rfl,aj⟩|⟨a,rfl,aj⟩
   ·omega
   ·exact⟨a,_,rfl,aj⟩
   ·exact⟨a,_,rfl,aj⟩
  have al:∀m:List ah,m.length=l.length->af aq (.sl a 0 l.length c) m (some a):=fun m hm=>by
   rcases ho.2.2 with⟨o,_⟩|⟨b,o,aj⟩|⟨b,o,aj⟩
   ·cases o
   ·cases o;exact⟨by rw[gz],iW _,.inr (.inl ⟨a,by rw[hm],rfl⟩)⟩
   ·cases o;exact⟨by rw[gz],iW _,.inr (.inr ⟨a,by rw[hm],rfl⟩)⟩
  refine SW.loop (fun m E ψ R=>∃k:Nat,k+m=l.length/\1<=k/\ec (l.take k)=l.take k/\O=ψ/\R=[aq.ob (some a) l]/\Sub [(0,.sl a 0 l.length c),(3,.j (k:Int))] E) (m:=l.length-1) ⟨1,by omega,by omega,Ny l (by omega),rfl,rfl,.r rfl⟩ ?_;intro aM E ψ R aI ac;obtain⟨k,aV,aF,G,rfl,rfl,Z⟩:=ac;refine C.sub Z ?_;refine S.len ?_ (hl:=af.len ho);refine S.bin ?_;refine C.D (fun O6=>?_) fun O6=>?_
  ·have hk:k<l.length:=by omega
   have L:=Cm aF hk;refine S.ct ho hk fun aQ ay=>?_;cases ay;refine S.qY (e:=aq) (l:=l) 0 hk ?_;refine S.bin ?_ (v:=.j ((k-1:Nat):Int)) (hv:=by rw[fU (by omega) (by omega)];congr 2;omega);refine S.ct ho (j:=k-1) (by omega) fun aS az=>?_;cases az;refine S.qY (e:=aq) (l:=l) (j:=k-1) 0 (by omega) ?_;refine S.bin ?_ (hv:=Nw l[k] (l[k-1]'(by omega)));refine C.D (fun OW=>?_) fun OW=>?_
   ·rw[ae (by simpa using OW)]at L;obtain⟨aR,aO,Pf,aD,aJ,ag⟩:=af.lo ho (j:=k) (by omega) (by omega);cases aD;have ag:aO=k*2:=by rcases ag with h|h;exact h;omega
    subst ag;refine S.slice aJ ?_;refine SW.loop (fun m E ψ R=>∃(k2 d:Nat) (m':List ah),k+k2+m=l.length/\1<=k2/\d+1<=k+k2/\m'.length=l.length/\m'.take d=ec (l.take (k+k2))/\(∀i,k+k2<=i+1->m'[i]? =l[i]?)/\O=ψ/\R=[aq.ob (some a) m']/\Sub [(0,.sl a 0 l.length c),(3,.j (d:Int)),(4,.sl a (k*2) (l.length-k) Pf),(5,.j (k2:Int))] E) (m:=l.length-(k+1)) ⟨1,k,l,by omega,by omega,by omega,rfl,by rw[L,G],fun i hi=>rfl,rfl,rfl,.r rfl⟩ ?_;intro au E ψ R aI ac;obtain⟨k2,d,m',aW,aT,aU,U,W,Q,rfl,rfl,Z⟩:=ac;refine C.sub Z ?_;refine S.len ?_ (n:=l.length-k);refine S.bin ?_;refine C.D (fun av=>?_) fun av=>?_
    ·have ap:k+k2<l.length:=by omega
     have M:=Cm (i:=k+k2) (by omega) ap;have am:af aq (.sl a 0 l.length c) m' (some a):=al m' U;have ao:m'[k+k2]'(by omega)=l[k+k2]:=by
      have:=Q (k+k2) (by omega);rw[bj (by omega),bj ap]at this;exact rU this
     have aw:m'[k+k2-1]'(by omega)=l[k+k2-1]'(by omega):=by
      have:=Q (k+k2-1) (by omega);rw[bj (by omega),bj (by omega)]at this;exact rU this
     refine S.qV (n:=l.length-k) (I:=k*2) (j:=k2) (by omega) ?_;rw[show k*2+k2*2=(k+k2)*aq.k by show _=_*2;omega];refine S.qY (e:=aq) (l:=m') (j:=k+k2) 0 (by omega) ?_;rw[ao];refine S.bin ?_ (v:=.j ((k2-1:Nat):Int)) (hv:=by rw[fU (by omega) (by omega)];congr 2;omega);refine S.qV (n:=l.length-k) (I:=k*2) (j:=k2-1) (by omega) ?_;rw[show k*2+(k2-1)*2=(k+k2-1)*aq.k by show _=_*2;omega];refine S.qY (e:=aq) (l:=m') (j:=k+k2-1) 0 (by omega) ?_;rw[aw];refine S.bin ?_ (hv:=v8 l[k+k2] (l[k+k2-1]'(by omega)));refine C.B (fun Y=>?_) fun Y=>?_
     ·rw[ab (by simpa using Y)]at M;refine S.qV (n:=l.length-k) (I:=k*2) (j:=k2) (by omega) ?_;rw[show k*2+k2*2=(k+k2)*aq.k by show _=_*2;omega];refine S.qY (e:=aq) (l:=m') (j:=k+k2) 0 (by omega) ?_;rw[ao];refine S.ct am (j:=d) (by omega) fun a51 aA=>?_;cases aA;refine S.kK (e:=aq) (l:=m') (j:=d) l[k+k2] 0 ?_ (hj:=by omega);refine S.bin ?_ (v:=.j ((d+1:Nat):Int)) (hv:=by rw[dz (by omega) (by omega)];(try rfl));refine S.bin ?_ (v:=.j ((k2+1:Nat):Int)) (hv:=by rw[dz (by omega) (by omega)];(try rfl));refine⟨au-1,by omega,k2+1,d+1,m'.set d l[k+k2],by omega,by omega,by omega,by simpa using U,?_,fun i hi=>?_,rfl,rfl,.r rfl⟩
      ·rw[show k+(k2+1)=k+k2+1 by omega,M,<-W,fm (by simp;omega),List.take_set_of_le (aB _),ua]
      ·rw[List.getElem?_set_ne (by omega)];exact Q i (by omega)
     ·refine S.bin ?_ (v:=.j ((k2+1:Nat):Int)) (hv:=by rw[dz (by omega) (by omega)];(try rfl));rw[ae (by simpa using Y)]at M;exact⟨au-1,by omega,k2+1,d,m',by omega,by omega,by omega,U,by rw[show k+(k2+1)=k+k2+1 by omega,M,W],fun i hi=>Q i (by omega),rfl,rfl,.r rfl⟩
    ·have aH:k+k2=l.length:=by omega
     rw[aH,dT]at W;have am:af aq (.sl a 0 l.length c) m' (some a):=al m' U;obtain⟨a3,aP,Pm,aE,aK,ak⟩:=af.lo am (j:=d) (by omega) (by omega);cases aE;have ak:aP=d*2:=by rcases ak with h|h;exact h;omega
     subst ak;refine S.slice aK ?_;refine S.clear 0 ?_ (ch:=NA (m:=m') (k:=d) (by omega)) (hs:=by rw[Cn];exact iW _);refine S.cd (e:=aq) (l:=m'.take d++List.replicate (m'.length-d) ⟨0,0⟩) (s:=some a) 0 (al _ (by simp;omega)) fun aZ lk A=>?_;obtain⟨aX,aC,an⟩:=A.hi (j:=d) (by simp;omega);refine S.slice aC ?_;rw[List.take_append_of_le_length (by simp;omega),List.take_take,Nat.min_self,W]at an;exact⟨_,.t rfl .nil,.none ⟨rfl,an⟩⟩
   ·refine S.bin ?_ (v:=.j ((k+1:Nat):Int)) (hv:=by rw[dz (by omega) (by omega)];(try rfl));rw[ab (by simpa using OW)]at L;exact⟨aM-1,by omega,k+1,by omega,by omega,by rw[L,G,fm hk],rfl,rfl,.r rfl⟩
  ·obtain rfl:k=l.length:=by omega
   rw[dT]at G;exact⟨_,.t rfl .nil,.bL 0 rfl ho fun ψ aL A=>.done ⟨rfl,by rw[G];exact A⟩⟩
set_option maxHeartbeats 1000000
def QM (O:Fz) (cs:List V) (y:oX):Prop:=∃v2 v3 v4 v5 d h o,cs=[.j y.next,.j y.id,v2,v3,v4,v5]/\aa df O v2 (y.trees.map (·.root))/\aa bN O v3 d/\NR bq O d (y.trees.map (fun t=>t.an.map (·.1)))/\aa bN O v4 h/\NR aq O h (y.trees.map (fun t=>t.an.map (·.2)))/\aa bN O v5 o/\NR aG O o (y.trees.map (·.tree))
theorem N9 [Fx F] (hr:F 215=some (.cA gR)) {cs:List V} {d:au} {sum:Int} (hd:cu O cs d) (Y:d.wait.length<=1000000):ai F 11 [.agg cs,.j sum] O [] (fun r ψ R=>R=[]/\∃cs',r=.aN [.agg cs',.bool (eR d sum).isSome]/\QM ψ cs' ((eR d sum).getD mQ)) never:=by
 obtain⟨ac,wv,rfl,hl,hw,sl,aw⟩:=hd.open;refine ar ?_;refine S.box fun ao=>?_;refine S.alloc fun a4=>?_;refine S.ag 1 ?_ (l:=[ac,wv,.j d.arm,.bool d.down]);refine S.call (Nd hr (sum:=sum) hd Y) fun ay aB an ap W=>?_;obtain⟨a,av,az,d',u6,u7,u8,u9,d2,q6,q7,q8,q9,d4,m7,m8,m9,rfl,rfl,h,h0⟩:=W;obtain⟨y,Z⟩:∃y,y=(eR d sum).getD mQ:=⟨_,rfl⟩
 rw[<-Z]at h h0⊢;refine S.ag 0 ?_ (l:=[.j y.next,.j y.id,u6,u7,u8,u9]);refine S.cd 2 h.roots fun aA ab f6=>?_;refine S.cd 2 h.ON fun aC M Q=>?_;refine S.cd 2 h.OP fun aD A U=>?_;refine S.cd 2 h.trees fun aE o D=>?_;have G:=((f6.mono M).mono A).mono o;have I:=(Q.mono A).mono o;have L:=U.mono o;have B:=((ab.trans M).trans A).trans o;have ae:=h.OO.mono B;have ah:=h.tC.mono B;have aj:=h.nt.mono B;have ak:=G.ax;have al:=I.ax;have am:=L.ax;have z9:=D.ax;refine S.mv ?_;refine S.store 2 ?_ (hs:=by simp[V.cells,aY,iV,ak,al,am,z9]);exact⟨_,.cN 2 rfl rfl rfl rfl (.t rfl .nil),.none ⟨rfl,_,rfl,u6,u7,u8,u9,m7,m8,m9,rfl,G,I,ae,L,ah,D,aj⟩⟩
theorem NG [Fx F] (hr:F 215=some (.cA gR)) {cs:List V} {d:au} {sum:Int} (hd:cu O cs d) (Q:d.wait.length<=1000000) (hs:F 38=some (.cA (jQ 39))) (B:((eR d sum).getD mQ).all.length<=1000000):ai F 12 [.agg cs,.j sum] O [] (fun r ψ R=>R=[]/\∃G,r=.aN [G,.bool (eR d sum).isSome]/\aa aq ψ G (ec (fJ ((eR d sum).getD mQ).all))) never:=by
 obtain⟨U,wv,rfl,hl,hw,sl,al⟩:=hd.open;refine ar ?_;refine S.box fun ab=>?_;refine S.ag 0 ?_ (l:=[U,wv,.j d.arm,.bool d.down]);refine S.call (Nd hr (sum:=sum) hd Q) fun am ao W ac I=>?_;obtain⟨a,ak,an,d',u6,u7,u8,u9,d2,q6,q7,q8,q9,d4,m7,m8,m9,rfl,rfl,A,h0⟩:=I;obtain⟨y,D⟩:∃y,y=(eR d sum).getD mQ:=⟨_,rfl⟩
 rw[<-D]at A h0⊢;rw[<-D]at B;refine S.ld 0 ?_;refine S.ba 1 rfl (Nv hs A.all h0 (by omega)) fun v20 ap Y ae h=>?_;obtain⟨h,rfl⟩:=h;have h:=h.symm;subst h;have os:af aq d2 (fJ y.all) d4:=by
  have hlen:=rL y.all;rcases A.all.2.2 with⟨o,aj,M⟩|⟨b,o,aj⟩|⟨b,o,aj⟩
  ·exact⟨by rw[gz],iW _,.inl ⟨o,by rw[hlen];exact aj,M⟩⟩
  ·exact⟨by rw[gz],iW _,.inr (.inl ⟨b,by rw[hlen];exact o,aj⟩)⟩
  ·exact⟨by rw[gz],iW _,.inr (.inr ⟨b,by rw[hlen];exact o,aj⟩)⟩
 refine S.ba 0 rfl (ND os (by rw[rL];exact B)) fun v22 av Z ah L=>?_;obtain⟨rfl,f22⟩:=L;exact⟨_,.t rfl (.t rfl .nil),.none ⟨rfl,v22,rfl,f22⟩⟩
end Go.Ev
namespace Go.Ev
def kY (d:au) (z:ah):Prop:=∃x,bP d z.addr (-1)=some x/\x.gen=z.gen
theorem NH {d:au} {a g:Int} {x:aT} (h:bP d a g=some x):bP d a (-1)=some x:=by
 unfold bP at h⊢;split at h
 ·rename_i h0;rw[ae h0];cases ht:er (d.read a).1 with
  |none=>rw[ht]at h;cases h
  |some y=>
   rw[ht]at h;simp only at h⊢;rw[ab (by omega)];split at h
   ·cases h
   ·exact h
 ·cases h
theorem xh {d:au} {z:ah} {x:aT} (h:bP d z.addr z.gen=some x) (j:0<=z.gen):kY d z:=⟨x,NH h,tM h j⟩
theorem Cp {d:au} {y z:ah} (A:kY d y) (hz:kY d z) (h:y.addr=z.addr):y=z:=by
 obtain⟨a,o,aj⟩:=A;obtain⟨b,j,B⟩:=hz;rw[h,j]at o;cases o;cases y;cases z;simp_all
theorem Cq {d:au}:∀{q:List ah} {an o:List bO},(∀z∈q,0<=z.gen)->e5 d q an=some o->∀z∈q,kY d z
 |[],_,_,_,_,z,hz=>by cases hz
 |p::q,an,o,j,h,z,hz=>by
  simp only[e5]at h;split at h
  ·cases h
  ·rename_i l hl;obtain⟨b,A,_⟩:=gf.1 hl;rcases bS.1 hz with rfl|hz
   ·exact xh A (j _ dc)
   ·exact Cq (fun z hz=>j z (cR _ hz)) h z hz
theorem Cr {d:au}:∀{l:List bO} {o r:List bA},(∀i∈l,0<=i.2.gen)->fI d l o=some r->∀i∈l,kY d i.2
 |[],_,_,_,_,z,hz=>by cases hz
 |p::l,o,r,A,h,z,hz=>by
  simp only[fI]at h;split at h
  ·cases h
  ·rename_i x hx;have j:∃b,bP d p.2.addr p.2.gen=some b:=by
    unfold recAt at hx;split at hx
    ·cases hx
    ·rename_i y D;obtain⟨b,B,_⟩:=gf.1 D;exact⟨b,B⟩
   obtain⟨b,j⟩:=j;rcases bS.1 hz with rfl|hz
   ·exact xh j (A _ dc)
   ·exact Cr (fun z hz=>A z (cR _ hz)) h z hz
theorem NI {d:au} {p:ah} {x:gY} {l:List ah} (B:0<=p.gen) (h:jP d p=some (x,l)):kY d p/\∀z∈l,kY d z:=by
 unfold jP at h;split at h
 ·cases h
 ·rename_i r q hq;obtain⟨b,o,A⟩:=gf.1 hq;split at h
  ·cases h
  ·rename_i an j;split at h
   ·cases h
   ·rename_i cP D;split at h
    ·cases h
    ·cases h;refine⟨xh o B,fun z hz=>?_⟩;rcases fK.1 hz with hz|hz
     ·exact Cq (BF A) j z hz
     ·obtain⟨i,hi,rfl⟩:=nZ.1 hz;exact Cr ((w6 j).2 (fun i hi=>by cases hi)) D i hi
theorem Cs {d:au}:∀(q:List ah) (s:jh) (j:List ah),(∀z∈q,0<=z.gen)->(∀z∈j,kY d z)->(∀z,z∈s.all↔z∈j\/z∈q)->
 (match iy d q s with
 |none=>iE d q s.trees j=none
 |some s'=>∃y,iE d q s.trees j=some y/\s'.next=s.next/\s'.id=s.id/\s'.trees=y.1/\(∀z,z∈s'.all↔z∈y.2)/\∀z∈y.2,kY d z)
 |[],s,j,_,o,hm=>⟨_,rfl,rfl,rfl,rfl,fun z=>by rw[hm z];simp,o⟩
 |p::q,s,j,A,o,hm=>by
  simp only[iy,iE];rw[<-BE];cases ht:jP d p with
  |none=>rfl
  |some G=>
   obtain⟨x,l⟩:=G;obtain⟨D,F⟩:=NI (A p dc) ht;simp only;have B:=Cs q {s with trees:=s.trees++[x],all:=s.all++l} (j++p::l) (fun z hz=>A z (cR _ hz)) (fun z hz=>by
    rcases fK.1 hz with hz|hz
    ·exact o z hz
    ·rcases bS.1 hz with rfl|hz
     ·exact D
     ·exact F z hz) (fun z=>by
    simp only[fK,bS];have:=hm z;rw[bS]at this;constructor
    ·rintro(h|h)
     ·rcases this.1 h with h|h|h
      ·exact .inl (.inl h)
      ·exact .inl (.inr (.inl h))
      ·exact .inr h
     ·exact .inl (.inr (.inr h))
    ·rintro((h|h|h)|h)
     ·exact .inl (this.2 (.inl h))
     ·exact .inl (this.2 (.inr (.inl h)))
     ·exact .inr h
     ·exact .inl (this.2 (.inr (.inr h))))
   exact B
theorem NJ (d:au) (sum:Int):match look d sum with
 |none=>eR d sum=none
 |some s=>∃y,eR d sum=some y/\s.next=y.next/\s.id=y.id/\s.trees=y.trees/\(∀z,z∈s.all↔z∈y.all)/\∀z∈y.all,kY d z:=by
 unfold look eR;cases F:bP d sum (-1)with
 |none=>rfl
 |some x=>
  simp only;cases ht:c0 x with
  |none=>rfl
  |some t=>
   obtain⟨n,i,q⟩:=t;simp only;have h:=Cs q ⟨n,i,[],⟨sum,x.gen⟩::q⟩ [⟨sum,x.gen⟩] (BG ht) (fun z hz=>by obtain rfl:=hB.1 hz;exact⟨x,F,rfl⟩) (fun z=>by simp);cases hl:iy d q ⟨n,i,[],⟨sum,x.gen⟩::q⟩with
   |none=>rw[hl]at h;simp only at h⊢;rw[h];(try rfl)
   |some s=>
    rw[hl]at h;simp only at h⊢;obtain⟨y,o,aj,j,A,B,D⟩:=h;exact⟨⟨n,i,y.1,y.2⟩,by rw[o];(try rfl),aj,j,A,B,D⟩
theorem Ct {ad:ah->ah->Prop} (hi:∀a,¬ad a a) (ht:∀a b,ad a b->¬ad b a):∀{l m:List ah},l.Pairwise ad->m.Pairwise ad->(∀z,z∈l↔z∈m)->l=m
 |[],[],_,_,_=>rfl
 |[],b::m,_,_,h=>by have:=(h b).2 dc;cases this
 |a::l,[],_,_,h=>by have:=(h a).1 dc;cases this
 |a::l,b::m,o,aj,h=>by
  rw[jU]at o aj;have j:a=b:=by
   rcases bS.1 ((h a).1 dc)with e|e
   ·exact e
   ·rcases bS.1 ((h b).2 dc)with d|d
    ·exact d.symm
    ·exact absurd (o.1 b d) (ht _ _ (aj.1 a e))
  subst j;rw[Ct hi ht o.2 aj.2 (fun z=>?_)];constructor
  ·intro hz;rcases bS.1 ((h z).1 (cR _ hz))with e|e
   ·subst e;exact absurd (o.1 _ hz) (hi _)
   ·exact e
  ·intro hz;rcases bS.1 ((h z).2 (cR _ hz))with e|e
   ·subst e;exact absurd (aj.1 _ hz) (hi _)
   ·exact e
theorem xi {p z:ah}:∀{l:List ah},z∈cW p l->z=p\/z∈l
 |[],h=>by simp[cW]at h;exact .inl h
 |a::l,h=>by
  simp only[cW]at h;split at h
  ·exact .inr h
  ·split at h
   ·rcases bS.1 h with h|h
    ·exact .inl h
    ·exact .inr h
   ·rcases bS.1 h with h|h
    ·exact .inr (h▸dc)
    ·rcases xi h with h|h
     ·exact .inl h
     ·exact .inr (cR _ h)
theorem Cu {p z:ah}:∀{l:List ah},z∈l->z∈cW p l
 |[],h=>by cases h
 |a::l,h=>by
  simp only[cW];split
  ·exact h
  ·split
   ·exact cR _ h
   ·rcases bS.1 h with h|h
    ·exact h▸dc
    ·exact cR _ (Cu h)
theorem Cv (p:ah):∀(l:List ah),∃z∈cW p l,z.addr=p.addr
 |[]=>⟨p,by simp[cW],rfl⟩
 |a::l=>by
  simp only[cW];split
  ·rename_i h;exact⟨a,dc,h⟩
  ·split
   ·exact⟨p,dc,rfl⟩
   ·obtain⟨z,o,aj⟩:=Cv p l;exact⟨z,cR _ o,aj⟩
theorem Cw {p:ah}:∀{l:List ah},l.Pairwise (fun a b=>a.addr<b.addr)->(cW p l).Pairwise (fun a b=>a.addr<b.addr)
 |[],_=>by simp[cW]
 |a::l,h=>by
  have h0:=jU.1 h;simp only[cW];split
  ·exact h
  ·split
   ·rename_i o aj;rw[jU];refine⟨fun b d=>?_,h⟩;rcases bS.1 d with rfl|d
    ·exact aj
    ·have:=h0.1 b d;omega
   ·rename_i o aj;rw[jU];refine⟨fun b d=>?_,Cw h0.2⟩;rcases xi d with rfl|d
    ·omega
    ·exact h0.1 b d
theorem Cy:∀(l out:List ah),out.Pairwise (fun a b=>a.addr<b.addr)->
 (l.foldl (fun out p=>cW p out) out).Pairwise (fun a b=>a.addr<b.addr)/\(∀z∈l.foldl (fun out p=>cW p out) out,z∈out\/z∈l)/\(∀z∈out,z∈l.foldl (fun out p=>cW p out) out)/\∀z∈l,∃w∈l.foldl (fun out p=>cW p out) out,w.addr=z.addr
 |[],out,h=>⟨h,fun z hz=>.inl hz,fun z hz=>hz,fun z hz=>by cases hz⟩
 |p::l,out,h=>by
  obtain⟨j,k2,d,A⟩:=Cy l (cW p out) (Cw h);rw[gK];refine⟨j,fun z hz=>?_,fun z hz=>d z (Cu hz),fun z hz=>?_⟩
  ·rcases k2 z hz with o|o
   ·rcases xi o with o|o
    ·exact .inr (o▸dc)
    ·exact .inl o
   ·exact .inr (cR _ o)
  ·rcases bS.1 hz with rfl|hz
   ·obtain⟨w,o,aj⟩:=Cv z out;exact⟨w,d w o,aj⟩
   ·exact A z hz
theorem Cz:∀(n:Nat) (l:List ah),l.length<=n->l.Pairwise (fun a b=>e7 a b=true)->(ec l).Pairwise (fun a b=>e7 a b=true/\a≠b)/\(∀z,z∈ec l↔z∈l)/\(ec l).getLast? =l.getLast?
 |_,[],_,_=>⟨.nil,fun _=>Iff.rfl,rfl⟩
 |0,a::l,h,_=>by simp at h
 |n+1,a::l,h,hs=>by
  have A:a::l≠[]:=by simp
  have e:a::l=(a::l).dropLast++[(a::l).getLast A]:=(tX A).symm;generalize (a::l).dropLast=m at e;generalize (a::l).getLast A=p at e;rw[e]at hs h⊢;rw[c2]at h;rw[List.pairwise_append]at hs;obtain⟨B,_,G⟩:=hs;obtain⟨D,k2,F⟩:=Cz n m (by simp at h;omega) B;rw[xg];refine⟨?_,fun z=>?_,by rw[Cl];simp⟩
  ·unfold o2;split
   ·exact D
   ·rename_i hl;rw[List.pairwise_append];refine⟨D,by simp,fun z hz w hw=>?_⟩;obtain rfl:=hB.1 hw;have j:=(k2 z).1 hz;refine⟨G z j w (by simp),fun M=>?_⟩;subst M;have d:m≠[]:=by intro I;rw[I]at j;cases j
    have O:m.getLast? =some (m.getLast d):=List.getLast?_eq_some_getLast d;have o:e7 z (m.getLast d)=true:=by
     have L:m=m.dropLast++[m.getLast d]:=(tX d).symm;rw[L]at j B;rcases fK.1 j with aj|aj
     ·exact(List.pairwise_append.1 B).2.2 z aj _ (by simp)
     ·have:=hB.1 aj;rw[this];rw[lZ];omega
    have aj:e7 (m.getLast d) z=true:=G _ (List.getLast_mem d) z (by simp);have:=Ca o aj;rw[F,O,<-this]at hl;exact hl rfl
  ·unfold o2;split
   ·rename_i hl;rw[k2 z,fK,hB];constructor
    ·exact .inl
    ·rintro(o|rfl)
     ·exact o
     ·rw[F]at hl;exact List.mem_of_getLast? hl
   ·rw[fK,fK,k2 z]
theorem NM {d:au} {l m:List ah} (h:∀z,z∈l↔z∈m) (hr:∀z∈m,kY d z):ec (fJ m)=oQ l:=by
 obtain⟨L,k2,_,M⟩:=Cy l [] .nil;obtain⟨G,I,_⟩:=Cz (fJ m).length (fJ m) (aB _) (xd m);have j:∀z,z∈ec (fJ m)↔z∈m:=fun z=>(I z).trans (tU m).mem_iff;have D:∀z,z∈oQ l↔z∈m:=fun z=>by
  constructor
  ·intro hz;rcases k2 z hz with o|o
   ·cases o
   ·exact(h z).1 o
  ·intro hz;obtain⟨w,B,O⟩:=M z ((h z).2 hz);have hw:w∈m:=by
    rcases k2 w B with o|o
    ·cases o
    ·exact(h w).1 o
   have:=Cp (hr w hw) (hr z hz) O;rw[<-this];exact B
 refine Ct (ad:=fun a b=>a.addr<b.addr) (fun a=>by omega) (fun a b h=>by omega) ?_ L (fun z=>(j z).trans (D z).symm);refine List.Pairwise.imp_of_mem (fun{a b} ha F A=>?_) G;have o:=lZ.1 A.1;rcases o with o|o
 ·exact o
 ·exact absurd (Cp (hr a ((j a).1 ha)) (hr b ((j b).1 F)) o.1) A.2
theorem CA (d:au) (sum:Int):(eR d sum).isSome=(blocks d sum).isSome/\ec (fJ ((eR d sum).getD mQ).all)=(blocks d sum).getD []:=by
 have h:=NJ d sum;unfold blocks;cases hl:look d sum with
 |none=>rw[hl]at h;simp only at h;rw[h];exact⟨rfl,rfl⟩
 |some s=>
  rw[hl]at h;obtain⟨y,o,_,_,_,j,A⟩:=h;rw[o];exact⟨rfl,NM j A⟩
theorem xj {v:aV} {lo hi:Int} (h:0<=v.pos):(cq v lo hi).1.d.last.length=v.d.last.length:=(ru h).1
theorem xk {v x:aV} (hp:0<=x.pos) (hd:x.d=v.d):(dK v x).1.d.last.length=v.d.last.length:=by
 have h:=xj (v:=x) (lo:=0) (hi:=0) hp;rw[hd]at h;unfold dK;simp only;split
 ·exact h
 ·split
  ·rfl
  ·exact h
theorem NN {v:aV} (hp:0<=v.pos):(hR v).1.d.last.length=v.d.last.length:=by
 unfold hR;split
 ·rfl
 ·have:=xk (v:=v) (x:={v with trees:=dX v.trees ⟨⟨3,v.next,v.id*65536+v.next,0,0⟩,dD v.trees⟩,next:=v.next+1}) hp rfl;simp only;split<;>exact this
theorem NO {v:aV} (hp:0<=v.pos) (s:eC):(fG v s).d.last.length=v.d.last.length:=by
 unfold fG;split
 ·exact xk hp rfl
 ·split
  ·exact NN hp
  ·split
   ·unfold kf;split
    ·rfl
    ·rename_i l hl;exact xk (x:={v with trees:=l}) hp rfl
   ·split
    ·unfold kg;split
     ·rfl
     ·rfl
    ·unfold jN;split
     ·rfl
     ·rename_i s hs;have o:=xj (v:=v) (lo:=bB s) (hi:=bB s+64) hp;simp only;split
      ·exact o
      ·split
       ·rfl
       ·exact o
theorem NP {v:aV} (hp:0<=v.pos) (s:eC):(eP v s).d.last.length=v.d.last.length:=by
 unfold eP;split
 ·split<;>rfl
 ·split
  ·rfl
  ·exact NO hp s
theorem NQ (ap:Nat) (id:Int):(mK ap id).1.d.last.length=2+64*ap:=by
 have aj:=xj (v:=eB ap id) (lo:=0) (hi:=0) (ej 0);have h0:(eB ap id).d.last.length=2+64*ap:=by show(List.replicate _ _).length=_;rw[k0];omega
 obtain⟨Y,h⟩:∃Y,Y=(cq (eB ap id) 0 0).1:=⟨_,rfl⟩
 show({(cq (eB ap id) 0 0).1 with d:=(nM (cq (eB ap id) 0 0).1).1,n:=1}:aV).d.last.length=_;rw[<-h]at aj⊢;exact(rq Y.d ⟨1,Y.seq,Y.sum,Y.aJ,Y.pos⟩).1.trans (aj.trans h0)
theorem CB {l:Bs}:∀(k n K:Nat) {v:aV},VK K v->(kT l k n v).d.last.length=v.d.last.length
 |0,n,K,v,h=>rfl
 |k+1,n,K,v,h=>by
  simp only[kT];split
  ·rfl
  ·rw[CB k _ (K+2) (tH h _),NP h.gF]
theorem CC (l:Bs) {ap:Nat} (dr:Nat) (h:ap<=15):(jo l ap dr).d.last.length=2+64*ap:=by
 unfold jo;rw[CB dr 0 3 (tI h (by decide) (by decide)),NQ]
end Go.Ev
namespace Go.Ev
variable{F:Nat->Option aP} {O:Fz}
theorem CD {d:au}:∀{q:List ah} {j:List gY} {h:List ah} {x:List gY×List ah},iE d q j h=some x->x.2.length<=h.length+337*q.length
 |[],j,h,x,e=>by cases e;exact aB _
 |p::q,j,h,x,e=>by
  simp only[iE]at e;split at e
  ·cases e
  ·rename_i y l A;have o:=B8 A;have:=CD e;simp only[c2,b7]at this⊢;have aj:l.length<=336:=o;omega
theorem NS {d:au} {sum:Int}:((eR d sum).getD mQ).all.length<=1000000:=by
 cases h:eR d sum with
 |none=>exact cS _
 |some y=>
  unfold eR at h;split at h
  ·cases h
  ·split at h
   ·cases h
   ·rename_i n i q hq;obtain⟨z,o,aj⟩:=jR.1 h;subst aj;have j:=CD o;have A:=rh hq;show z.2.length<=_;simp at j;omega
theorem NT [Fx F] (hr:F 215=some (.cA gR)) (hs:F 38=some (.cA (jQ 39))) {cs:List V} {d:au} {sum:Int} (hd:cu O cs d) (A:d.wait.length<=1000000):ai F 12 [.agg cs,.j sum] O [] (fun r ψ R=>R=[]/\∃o,r=.aN [o,.bool (blocks d sum).isSome]/\aa aq ψ o ((blocks d sum).getD [])) never:=by
 have h:=NG hr (sum:=sum) hd A hs NS;rw[(CA d sum).1,(CA d sum).2]at h;exact h
end Go.Ev
namespace Go.Ev
def xq (d:au):Prop:=(∀s∈d.last,s.length=64)/\∀p∈d.wait,p.b.length=64
theorem xq.write {d:au} (h:xq d) (i:Int) (b:Bs):xq (d.write i b).1:=by
 unfold au.write;split
 ·exact h
 ·rename_i hc;have j:b.length=64:=by simp at hc;omega
  have hw:∀p∈d.wait++[⟨i,b⟩],p.b.length=64:=fun p hp=>by
   rcases fK.1 hp with hp|hp
   ·exact h.2 p hp
   ·rw[hB.1 hp];exact j
  split
  ·exact⟨h.1,hw⟩
  ·exact⟨h.1,hw⟩
theorem Q3 {l:List Bs} {p:lK} (h:∀s∈l,s.length=64) (hp:p.b.length=64):∀s∈gA l p,s.length=64:=by
 unfold gA;split
 ·intro s hs;rcases o5 hs with hs|rfl
  ·exact h s hs
  ·exact hp
 ·exact h
theorem QV:∀(w:List lK) {l:List Bs},(∀s∈l,s.length=64)->(∀p∈w,p.b.length=64)->∀s∈w.foldl gA l,s.length=64
 |[],_,h,_=>h
 |p::w,_,h,hw=>QV w (Q3 h (hw p (dc ..))) fun q hq=>hw q (cR _ hq)
theorem xq.flush {d:au} (h:xq d):xq d.flush.1:=by
 unfold au.flush;split
 ·exact h
 ·exact⟨QV d.wait h.1 h.2,fun p hp=>by cases hp⟩
theorem xq.writes:∀(l:List aT) {d:au} (i:Int),xq d->xq (cQ d i l).1
 |[],d,i,h=>by unfold cQ;exact h.flush
 |x::l,d,i,h=>by
  unfold cQ;split
  ·exact xq.writes l (i+1) (h.write i (dn x))
  ·exact h.write i (dn x)
theorem xq.QW {d:au} (h:xq d) (s:mC):xq (gu d s).1:=by
 unfold gu;split
 ·exact(h.write _ _).flush
 ·exact h.write _ _
theorem QX {st v:aV} {gen:Int} {p:List aT×List ah} (h:xq v.d):xq (hh st v gen p).1.d:=by
 have o:=h.writes p.1 (bB v.aJ+v.pos);have aj:=o.writes [eM gen v.next v.id p.2] (bB v.aJ+v.pos+p.1.length);unfold hh;simp only;split
 ·exact o
 ·split
  ·exact aj
  ·exact aj
theorem NV {v:aV} (h:xq v.d) (lo hi:Int):xq (cq v lo hi).1.d:=by
 unfold cq;split
 ·exact h
 ·split
  ·exact h
  ·split
   ·exact h
   ·split
    ·exact h
    ·split
     ·exact h
     ·split
      ·unfold writeNew;split
       ·exact h
       ·rename_i aJ o;split
        ·exact h
        ·split
         ·exact h
         ·rename_i A j;split
          ·exact h
          ·have hs:=h.QW ⟨v.n+1,v.seq,v.sum,aJ,0⟩;simp only;split
           ·exact hs
           ·exact QX hs
      ·exact QX h
theorem P9 {v x:aV} (h:xq v.d) (hd:x.d=v.d):xq (dK v x).1.d:=by
 have o:=NV (v:=x) (by rw[hd];exact h) 0 0;unfold dK;simp only;split
 ·exact o
 ·split
  ·exact h
  ·exact o
theorem Q4 {v:aV} (h:xq v.d):xq (hR v).1.d:=by
 unfold hR;split
 ·exact h
 ·have:=P9 (v:=v) (x:={v with trees:=dX v.trees ⟨⟨3,v.next,v.id*65536+v.next,0,0⟩,dD v.trees⟩,next:=v.next+1}) h rfl;simp only;split<;>exact this
theorem Q5 {v:aV} (h:xq v.d) (s:eC):xq (fG v s).d:=by
 unfold fG;split
 ·exact P9 h rfl
 ·split
  ·exact Q4 h
  ·split
   ·unfold kf;split
    ·exact h
    ·rename_i l hl;exact P9 (x:={v with trees:=l}) h rfl
   ·split
    ·unfold kg;split
     ·exact h
     ·exact h
    ·unfold jN;split
     ·exact h
     ·rename_i s hs;have o:=NV h (bB s) (bB s+64);simp only;split
      ·exact o
      ·split
       ·exact h
       ·exact o
theorem Q6 {v:aV} (h:xq v.d) (s:eC):xq (eP v s).d:=by
 unfold eP;split
 ·split<;>exact h
 ·split
  ·exact h
  ·exact Q5 h s
theorem Q7 (ap:Nat) (id:Int):xq (mK ap id).1.d:=by
 have h0:xq (eB ap id).d:=⟨fun s hs=>by
  rw[mZ (show s∈List.replicate _ _ from hs)];(try rfl),fun p hp=>by cases hp⟩
 have aj:=NV h0 0 0;obtain⟨Y,h⟩:∃Y,Y=(cq (eB ap id) 0 0).1:=⟨_,rfl⟩
 show xq ({(cq (eB ap id) 0 0).1 with d:=(nM (cq (eB ap id) 0 0).1).1,n:=1}:aV).d;rw[<-h]at aj⊢;exact aj.QW ⟨1,Y.seq,Y.sum,Y.aJ,Y.pos⟩
theorem QY {l:Bs}:∀(k n:Nat) {v:aV},xq v.d->xq (kT l k n v).d
 |0,_,_,h=>h
 |k+1,n,v,h=>by
  simp only[kT];split
  ·exact h
  ·exact QY k _ (Q6 h _)
theorem Q8 (l:Bs) (ap dr:Nat):xq (jo l ap dr).d:=by
 unfold jo;exact QY dr 0 (Q7 _ _)
theorem QN {t:ao} (h:bH t=true):t.length=9:=by
 unfold bH at h;split at h
 ·rename_i hc;exact hc.1
 ·cases h
theorem QO {l:List bA} {t:ao} (h:ei l=some t):t.length=9:=by
 unfold ei at h;split at h
 ·cases h
 ·split at h
  ·rename_i hm;cases h;simp only[be]at hm;exact QN hm.1
  ·cases h
theorem QP {d:au} {p:ah} {x:gY} {l:List ah} (h:lR d p=some (x,l)):x.an.length<=336/\x.tree.length=9:=by
 have h0:=Ac h;unfold lR at h;split at h
 ·cases h
 ·split at h
  ·cases h
  ·split at h
   ·cases h
   ·rename_i t ht;cases h;simp only[c2,hS]at h0;exact⟨fL (Nat.le_add_left _ _) h0,QO ht⟩
theorem P8 {d:au}:∀{l:List ah} {s s':jh},iy d l s=some s'->(∀x∈s.trees,x.an.length<=336/\x.tree.length=9)->∀x∈s'.trees,x.an.length<=336/\x.tree.length=9
 |[],s,s',h,hs=>by cases h;exact hs
 |p::r,s,s',h,hs=>by
  simp only[iy]at h;split at h
  ·cases h
  ·rename_i x l hx;refine P8 h fun y j=>?_;rcases fK.1 j with j|j
   ·exact hs y j
   ·rw[hB.1 j];exact QP hx
theorem QQ {d:au} {sum:Int} {s:jh} (h:look d sum=some s):∀x∈s.trees,x.an.length<=336/\x.tree.length=9:=by
 unfold look at h;split at h
 ·cases h
 ·split at h
  ·cases h
  ·exact P8 h fun x hx=>by cases hx
theorem Oa (d:au) (sum:Int):(eR d sum).isSome=(look d sum).isSome/\((eR d sum).getD mQ).next=((look d sum).getD Ag).next/\((eR d sum).getD mQ).id=((look d sum).getD Ag).id/\((eR d sum).getD mQ).trees=((look d sum).getD Ag).trees/\((look d sum).getD Ag).trees.length<=7/\∀x∈((look d sum).getD Ag).trees,x.an.length<=336/\x.tree.length=9:=by
 have h:=NJ d sum;cases hl:look d sum with
 |none=>rw[hl]at h;simp only at h;rw[h];exact⟨rfl,rfl,rfl,rfl,cS _,fun x hx=>by cases hx⟩
 |some s=>
  rw[hl]at h;obtain⟨y,o,aj,j,A,_⟩:=h;rw[o];exact⟨rfl,aj.symm,j.symm,A.symm,(Ae hl).2,QQ hl⟩
end Go.Ev
namespace Go.Ev
variable{F:Nat->Option aP} {O:Fz}
theorem Oj (d:au) (y:Int):((blocks d y).getD []).length<=2360:=by
 cases h:blocks d y with
 |none=>exact cS _
 |some l=>exact rj h
theorem wrap64 {n:Nat} (h:n<=1000000):ek .i64 (n:Int)=(n:Int):=qT (by omega) (by omega)
set_option maxHeartbeats 4000000
theorem QR:(look (jo [] 4 0).d (jo [] 4 0).sum).map (fun s=>(s.trees.length,s.next,s.id))=some (1,1,1):=by decide+kernel
theorem QS:(blocks (jo [] 4 0).d (jo [] 4 0).sum).map List.length=some 4:=by decide+kernel
theorem QT:(look (jo [] 4 0).d 0).isSome=false:=by decide+kernel
theorem QM.mono {O ψ:Fz} {cs:List V} {y:oX} (h:QM O cs y) (d:O.Le ψ):QM ψ cs y:=
 let⟨v2,v3,v4,v5,I,L,M,o,aj,j,A,B,D,F,G⟩:=h
 ⟨v2,v3,v4,v5,I,L,M,o,aj.mono d,j.mono d,A.mono d,B.mono d,D.mono d,F.mono d,G.mono d⟩
theorem Q9 (hr:F 215=some (.cA gR)) (hs:F 38=some (.cA (jQ 39))) [Fx F] {cs ds:List V} {y:oX} {s:jh} (ha:QM O cs y) (d:mI O ds s) (hn:y.next=s.next) (hi:y.id=s.id) (ht:y.trees=s.trees) (hl:s.trees.length<=7) (hz:∀x∈s.trees,x.an.length<=336/\x.tree.length=9):bm F 19 [.agg cs,.agg ds] O (.bool true):=by
 obtain⟨v2,v3,v4,v5,M,Q,R,rfl,k2,h,G,o,I,A,L⟩:=ha;have D:mI O [.j y.next,.j y.id,v2,v3,v4,v5,.no .sl] ⟨y.next,y.id,y.trees,[]⟩:=⟨v2,v3,v4,v5,.no .sl,M,Q,R,rfl,k2,h,G,o,I,A,L,aa.nil _⟩
 have B:bm F 49 [.agg [.j y.next,.j y.id,v2,v3,v4,v5,.no .sl],.agg ds] O (.bool true):=Q2 D d hn hi ht (by show y.trees.length<=_;rw[ht];omega) (fun x hx=>by
  have:=hz x (by rw[<-ht];exact hx);exact⟨by omega,by omega⟩)
 have:=k2.ax;have:=h.ax;have:=o.ax;have:=A.ax;obtain⟨ao,ap,au,av,aw,aj,ak,am,rfl,U,W,ac,Y,ae,Z,ah,q6⟩:=d;have:=U.ax;have:=W.ax;have:=Y.ax;have:=Z.ax;have:=q6.ax;refine ai.al (ar ?_);refine S.box fun ab=>?_;refine S.box fun a3=>?_;refine S.ld 1 ?_;refine S.ld 1 ?_;refine S.ld 1 ?_;refine S.ld 1 ?_;refine S.ld 1 ?_;refine S.ld 1 ?_;refine S.build ?_;refine S.ag 0 ?_;refine S.al B ?_;refine⟨_,.t rfl .nil,.done ?_⟩;rfl
theorem QU (hr:F 215=some (.cA gR)) (hs:F 38=some (.cA (jQ 39))) [Fx F]:bm F 7 [] O (.bool true):=by
 refine ai.al (ar ?_);refine S.call (A9 rfl) fun bv bF aR bh ah=>?_;obtain⟨rfl,aW,rfl,rfl⟩:=ah;refine S.ba 0 rfl (Bj (ap:=4) (dr:=0) (aa.nil _) (by simp) (by omega) (by omega) (by omega)) fun bw bG aS bi ak=>?_;obtain⟨cs,bn,rfl,hv,rfl⟩:=ak;refine S.drop 0 ?_;have Y:=Bi [] (ap:=4) 0 (by omega);have o:=QR;have aj:=QS;have W:=QT;obtain⟨v,av⟩:∃v,v=jo [] 4 0:=⟨_,rfl⟩
 rw[<-av]at hv Y o aj W;obtain⟨M,wv,aO,rfl,a2,a8,a6,aI,aK,aJ,h⟩:=hv.open;have a7:=Y.wait;obtain⟨X,ao,o⟩:=jR.1 o;obtain⟨B,an,aj⟩:=jR.1 aj;simp only[dH]at o;obtain⟨aL,aM,t3⟩:=o;obtain⟨Q,I,L,R,_⟩:=Oa v.d v.sum;obtain⟨f0,_⟩:=Oa v.d 0;rw[ao]at Q I L R;rw[W]at f0;simp only[Option.isSome_some,kq]at Q I L R;rw[aM]at I;rw[t3]at L;refine S.alloc fun aU=>?_;refine S.store (v:=.agg (bf M wv aO v)) 0 ?_ (hs:=cp aI aK aJ);refine S.ag 0 ?_ (l:=[M,wv,.j v.d.arm,.bool v.d.down]);refine S.ld 0 ?_;refine S.call (N9 hr (sum:=v.sum) h (by omega)) fun bs bD aP aA ac=>?_;obtain⟨rfl,aZ,rfl,U⟩:=ac;rw[Q];have h:=h.mono aA;obtain⟨v2,v3,v4,v5,bo,bp,aB,rfl,k2,ay,be,az,bg,A,aw⟩:=U;have:=k2.ax;have:=ay.ax;have:=az.ax;have:=A.ax;rw[I,L];have au:aB.length=1:=by have:=aw.1;rw[hS,R,aL]at this;exact this
 refine S.alloc fun aV=>?_;refine S.store 0 ?_;refine S.ag 1 ?_ (l:=[M,wv,.j v.d.arm,.bool v.d.down]);refine S.ld 1 ?_;refine S.call (NT hr hs (sum:=v.sum) h (by omega)) fun bt bE aQ Z ae=>?_;obtain⟨rfl,br,rfl,D⟩:=ae;rw[an]at D⊢;simp only[Option.isSome_some,kq]at D⊢;have h:=h.mono Z;have A:=A.mono Z;refine S.ag 1 ?_ (l:=[M,wv,.j v.d.arm,.bool v.d.down]);refine S.call (N9 hr (sum:=0) h (by omega)) fun bx bH aT ab am=>?_;obtain⟨rfl,a1,rfl,U⟩:=am;rw[f0];obtain⟨bz,bA,bB,bC,bj,bk,bl,rfl,aC,aE,bb,aF,bc,aH,bd⟩:=U;have:=aC.ax;have:=aE.ax;have:=aF.ax;have:=aH.ax;have A:=A.mono ab;have D:=D.mono ab;refine S.alloc fun aX=>?_;refine S.store 0 ?_;refine G.aD ?_;refine G.ld 1 ?_;refine G.len ?_ (hl:=aa.len A);rw[au];refine G.bin ?_;refine G.and ?_;refine G.aD ?_;refine G.ld 1 ?_;refine G.bin ?_;refine G.and ?_;refine G.aD ?_;refine G.ld 1 ?_;refine G.bin ?_;refine G.and ?_;refine G.mv ?_;refine G.and ?_;refine G.mv ?_;refine G.len ?_ (hl:=aa.len D);rw[aj];refine G.bin ?_;refine G.and ?_;refine G.mv ?_;refine G.un ?_;refine G.and ?_;exact⟨_,.t rfl .nil,.none rfl⟩
set_option maxHeartbeats 8000000
theorem Ra {q:cy} {x m:Nat} (hx:x<256) (hm:0<m):b0 .rem q (.j (x:Int)) (.j (m:Int))=some (.j ((x%m:Nat):Int)):=by
 rw[A8 (by omega) (by omega) (by omega)];(try rfl)
theorem S.Rb {K:KX} {E:Env} {R:List Ob} {Q:bz} {rs:List Op} {d:Nat} {x:Od} {a:Pa} (hn:SA F K rs ((d,.sl a 0 8 (.ex 8))::E) O R Q) (hx:ay E x (.ptr a 0):=by exact .t rfl):
 SR F K (.op ⟨some (pa d),C8 8 1 x none none,none⟩::Op.aK rs) E O R Q:=fun W h sh=>ad.uf .none hx .none .none rfl (S.r hn W h sh)
theorem Rc {d:Bs} {a:Pa} (h:d.length=8):af aU (.sl a 0 8 (.ex 8)) d (some a):=af.new h
theorem Re (d:Bs) (a:Pa):((some a,.cells (V.agg (d.map cz)).cells false):Ob)=aU.ob (some a) d:=by
 show _=(some a,ak.cells (aU.fl d) false);rw[lI];(try rfl)
theorem Rg {v:aV} {s:jh} (hc:Calm v.d) (hs:look v.d v.sum=some s) {k:Nat} (hk:∀p∈(blocks v.d v.sum).getD [],p.addr≠(k:Int)) (b:Bs):look {v.d with last:=v.d.last.set k b} v.sum=some s:=by
 refine Qw hs fun z hz=>?_;obtain⟨q,hq,o⟩:=QD hs hz;have j:=hk q hq;have h:Calm {v.d with last:=v.d.last.set k b}:=⟨hc.down,hc.arm,hc.wait⟩
 rw[h.read,hc.read];show(if 0<=z.addr/\z.addr<((v.d.last.set k b).length:Int)then(((v.d.last.set k b)[z.addr.toNat]?).getD [],true)else([],false))=_;rw[pb];split
 ·rw[List.getElem?_set_ne (by omega)]
 ·rfl
theorem Rh (hr:F 215=some (.cA gR)) (hs:F 38=some (.cA (jQ 39))) [Fx F] {aI:V} {l:Bs} (hl:aa aU O aI l) {t:Nat} (ht:t<256) {A:Bs} (bz:A.length=8):
 SW F ⟨⟨4,131,false,none⟩,fun _=>True⟩ B.CV.den [(0,aI),(1,.int .u8 (t:Int)),(2,.agg (A.map cz))] O [] (mz [(pa 6,none)] (fun u _ _=>u=.bool true) never):=by
 show SW F _ B.CV.den [(0,aI),(1,.int .u8 (t:Int)),(2,.agg (A.map cz))] O [] _;refine SC.w ?_;refine S.box (v:=.agg (A.map cz)) (fun a5=>?_) (hs:=vu A);rw[Re];refine S.al (QU hr hs) ?_;refine S.un ?_;refine C.B (fun Pb=>?_) fun Pb=>?_
 ·cases Pb
 ·refine S.len ?_ (hl:=aa.len hl);refine S.bin ?_;refine C.D (fun O5=>?_) fun O5=>?_
  ·exact⟨_,.t rfl .nil,.drop 0 (.none rfl)⟩
  ·refine S.call (A9 hl.ax) fun cG cN bT cj W=>?_;obtain⟨W,b4,rfl,rfl⟩:=W;have W:=W.symm;subst W;refine S.ba 0 rfl (Bj (ap:=4) (dr:=30) hl (by omega) (by omega) (by omega) (by omega)) fun cH cO bU ck bg=>?_;obtain⟨cs,cl,rfl,hv,rfl⟩:=bg;refine S.drop 0 ?_;have aW:=Bi l (ap:=4) 30 (by omega);have hL:=CC l (ap:=4) 30 (by omega);have aA:=QL l (ap:=4) (dr:=30) (by omega) (by omega) (by omega);have aV:=Q8 l 4 30;obtain⟨v,bB⟩:∃v,v=jo l 4 30:=⟨_,rfl⟩
   rw[<-bB]at hv aW hL aA aV;obtain⟨U,wv,bb,rfl,Q,Y,cc,bN,bP,bO,G⟩:=hv.open;have ce:=aW.wait;refine S.alloc fun aP=>?_;refine S.store (v:=.agg (bf U wv bb v)) 0 ?_ (hs:=cp bN bP bO);refine S.ag 0 ?_ (l:=[U,wv,.j v.d.arm,.bool v.d.down]);refine S.ld 0 ?_;refine S.call (NT hr hs (sum:=v.sum) G (by omega)) fun cJ bQ bV aB bh=>?_;obtain⟨rfl,bM,rfl,h⟩:=bh;obtain⟨L,aw⟩:∃L,L=(blocks v.d v.sum).getD []:=⟨_,rfl⟩
   obtain⟨s,ae,_⟩:=aA.st;have aZ:(blocks v.d v.sum).isSome=true:=by unfold blocks;rw[ae];(try rfl)
   have bt:=Oj v.d v.sum;rw[aZ];rw[<-aw]at h bt;have Q:=Q.mono aB;have Y:=Y.mono aB;have G:=G.mono aB;refine S.mw ?_;rw[wrap64 (by omega)];refine S.ld 0 ?_;refine S.len ?_ (hl:=aa.len Q);rw[hL];refine S.bin ?_ (hv:=Ra ht (by omega));obtain⟨k,hk⟩:∃k,k=t%(2+64*4):=⟨_,rfl⟩
   rw[<-hk];have ay:k<v.d.last.length:=by rw[hL,hk];exact Nat.mod_lt _ (by omega)
   refine SW.bF (fun m E ψ R=>∃i:Nat,i+m=L.length/\bQ=ψ/\(∀q∈L.take i,q.addr≠(k:Int))/\R=[(some aP,.cells (bf U wv bb v) false),aU.ob (some a5) A]/\Sub [(7,.ptr aP 0),(5,.ptr a5 0),(8,bM),(9,.bool true),(10,.j (k:Int)),(11,.j (i:Int))] E) (m:=L.length) (.done ⟨0,by omega,rfl,(fun q hq=>by simp at hq),rfl,.r rfl⟩) ?_;intro bG E ψ R cb bs;obtain⟨i,ca,rfl,az,rfl,bp⟩:=bs;refine C.sub bp ?_;refine S.len ?_ (hl:=aa.len h);refine S.bin ?_;refine C.D (fun bc=>?_) fun bc=>?_
   ·have hi:i<L.length:=by omega
    refine S.aF h hi fun cy bd=>?_;refine S.bl bd fun cB b7=>?_;refine S.a1 ?_;refine S.bin ?_;refine C.D (fun aQ=>?_) fun aQ=>?_
    ·exact⟨_,.t rfl .nil,.none rfl⟩
    ·refine S.bin ?_;exact⟨bG-1,by omega,.done ⟨i+1,by omega,rfl,(fun q hq=>by
      rw[fm hi]at hq;rcases fK.1 hq with hq|hq
      ·exact az q hq
      ·rw[hB.1 hq];exact aQ),rfl,.r rfl⟩⟩
   ·have bA:∀q∈L,q.addr≠(k:Int):=by rw[show i=L.length by omega,dT]at az;exact az
    obtain⟨u,hu⟩:∃u,u=v.d.last.set k (A++(v.d.last[k]).drop 8):=⟨_,rfl⟩
    have b8:(v.d.last[k]).length=64:=aV.1 _ (cw ay);have aX:look ⟨u,v.d.wait,v.d.arm,v.d.down⟩ v.sum=some s:=by
     rw[hu];exact Rg aA.cD.calm ae (by rw[<-aw];exact bA) _
    have bo:blocks ⟨u,v.d.wait,v.d.arm,v.d.down⟩ v.sum=blocks v.d v.sum:=by unfold blocks;rw[ae,aX]
    refine S.ag 0 ?_ (l:=[U,wv,.j v.d.arm,.bool v.d.down]);refine S.alloc fun b1=>?_;refine S.store (v:=.agg [U,wv,.j v.d.arm,.bool v.d.down]) 0 ?_;refine S.a8 fun aO=>?_;have bK:af dA (.sl aO 0 0 (.ex 0)) [] (some aO):=af.new rfl;refine S.ld 2 ?_;refine S.br 0 bK (.f Q) (by simp;omega) fun ab cE o=>?_;rw[fo]at o⊢;have cF:=o.ax;refine S.store 1 ?_ (hs:=by rw[gV o.ax];simp[aY,o.ax]) (ch:=by rw[gV o.ax];(try rfl)) (hl:=by rw[gV o.ax];(try rfl));refine S.ld 1 ?_;refine S.Rb ?_;refine S.hM 3 (Rc bz) ?_;refine S.ld 1 ?_;refine S.ct o ay fun a72 bi=>?_;subst bi;refine S.eJ 0 0 ?_;refine S.gO (Ju (s:=v.d.last[k]) (i:=8) (by omega)) ?_;refine S.bin ?_ (hv:=my (by rw[bW];omega));refine S.ct o ay fun a76 bj=>?_;cases bj;refine S.kK (A++(v.d.last[k]).drop 8) 0 ?_;rw[<-hu];have bL:af dA ab u (some a72):=by rw[hu];exact o.set k _
    refine S.cd 0 bL fun bS Z be=>?_;have M:cu bS [ab,wv,.j v.d.arm,.bool v.d.down] ⟨u,v.d.wait,v.d.arm,v.d.down⟩:=⟨ab,wv,rfl,be,Y.mono Z⟩
    have Q:=Q.mono Z;have Y:=Y.mono Z;have G:=G.mono Z;have h:=h.mono Z;refine S.ag 0 ?_ (l:=[ab,wv,.j v.d.arm,.bool v.d.down]);refine S.ld 1 ?_;refine S.call (NT hr hs (sum:=v.sum) M (by show v.d.wait.length<=_;omega)) fun cK cP bY aC bk=>?_;obtain⟨rfl,cC,rfl,I⟩:=bk;rw[bo]at I⊢;rw[aZ];rw[<-aw]at I;have G:=G.mono aC;have M:=M.mono aC;have h:=h.mono aC;refine S.ag 1 ?_ (l:=[U,wv,.j v.d.arm,.bool v.d.down]);refine S.ld 1 ?_;refine S.call (N9 hr (sum:=v.sum) G (by omega)) fun cL cQ bZ aE bm=>?_;obtain⟨rfl,b5,rfl,ac⟩:=bm;obtain⟨ah,ai,aj,ak,am,an⟩:=Oa v.d v.sum;rw[ae]at ah ai aj ak am an;simp only[Option.isSome_some,kq]at ah ai aj ak am an;rw[ah];have M:=M.mono aE;have h:=h.mono aE;have I:=I.mono aE;have bw:=ac;obtain⟨cq,cr,cv,cx,cm,cn,co,rfl,k2,bC,cf,bD,cg,bE,ci⟩:=bw;have:=k2.ax;have:=bC.ax;have:=bD.ax;have:=bE.ax;refine S.alloc fun b2=>?_;refine S.store 0 ?_;refine S.ag 1 ?_ (l:=[ab,wv,.j v.d.arm,.bool v.d.down]);refine S.ld 2 ?_;refine S.call (N9 hr (sum:=v.sum) M (by show v.d.wait.length<=_;omega)) fun cM bR b0 aH bn=>?_;obtain⟨rfl,b6,rfl,bv⟩:=bn;obtain⟨f0,ao,ar,au,_,_⟩:=Oa ⟨u,v.d.wait,v.d.arm,v.d.down⟩ v.sum;rw[aX]at f0 ao ar au;simp only[Option.isSome_some,kq]at f0 ao ar au;rw[f0];have ac:=ac.mono aH;have h:=h.mono aH;have I:=I.mono aH;obtain⟨aJ,aK,aL,aM,bH,bI,bJ,rfl,av,aR,a2,aS,a6,aT,a7⟩:=bv;have:=av.ax;have:=aR.ax;have:=aS.ax;have:=aT.ax;rw[au]at av a2 a6 a7;rw[ao,ar];refine S.alloc fun b3=>?_;refine S.store 0 ?_;refine S.mv ?_;refine S.pick ?_;refine S.mv ?_;refine S.mv ?_;refine S.al (Kx h I (by omega)) ?_;rw[decide_eq_true rfl];refine S.pick ?_;refine S.mv ?_;refine S.pick ?_;refine S.mv ?_;refine S.pick ?_;refine S.ag 1 ?_;refine S.aD ?_;refine S.ld 0 ?_;refine S.aD ?_;refine S.ld 0 ?_;refine S.aD ?_;refine S.ld 0 ?_;refine S.aD ?_;refine S.ld 0 ?_;refine S.aD ?_;refine S.ld 0 ?_;refine S.aD ?_;refine S.ld 0 ?_;refine S.build ?_ (l:=[.j s.next,.j s.id,aJ,aK,aL,aM,.no .sl]);have bx:mI bR [.j s.next,.j s.id,aJ,aK,aL,aM,.no .sl] ⟨s.next,s.id,s.trees,[]⟩:=⟨aJ,aK,aL,aM,.no .sl,bH,bI,bJ,rfl,av,aR,a2,aS,a6,aT,a7,aa.nil _⟩
    refine S.al (Q9 hr hs ac bx ai aj ak am an) ?_;refine S.pick ?_;exact⟨_,.t rfl .nil,.none rfl⟩
end Go.Ev
