/- A part of the proof of glacislaw13.LiveAll (made short by a program). -/
import Derived.Test.YtmglhbclhfgmaaaGreatDoorVL
import Derived.Shelf.SlSortCmp.WholeK
namespace Go.Ev
open Go Go.Sort Go.Proofs
def l5 (x y:ag):Int:=if x.addr<y.addr then-1 else if x.addr>y.addr then 1 else if x.gen<y.gen then-1 else if x.gen>y.gen then 1 else 0
def gr (x y:ag):Bool:=decide (x.addr<y.addr)||(decide (x.addr=y.addr)&&decide (x.gen≤y.gen))
def xK (p:ag):List ag→List ag
 |[]=>[p]
 |a::l=>if gr p a then p::a::l else a::xK p l
def hV:List ag→List ag
 |[]=>[]
 |a::l=>xK a (hV l)
theorem Nu (p:ag):∀l,(xK p l).Perm (p::l)
 |[]=>.refl _
 |a::l=>by
  unfold xK;split
  ·exact .refl _
  ·exact((Nu p l).cons a).trans (.swap p a l)
theorem G5:∀l,(hV l).Perm l
 |[]=>.refl _
 |a::l=>(Nu a _).trans ((G5 l).cons a)
theorem rq {x y:ag}:gr x y=true↔x.addr<y.addr∨(x.addr=y.addr∧x.gen≤y.gen):=by unfold gr;simp
theorem al4 (x y:ag):gr x y=true∨gr y x=true:=by rw[rq,rq];omega
theorem al5 {x y z:ag} (h:gr x y=true) (k:gr y z=true):gr x z=true:=by rw[rq]at*;omega
theorem Wp {x y:ag} (h:gr x y=true) (k:gr y x=true):x=y:=by
 rw[rq]at*;have I:x.addr=y.addr:=by omega
 have J:x.gen=y.gen:=by omega
 cases x;cases y;simp_all
theorem Wq (p:ag):∀{l:List ag},l.Pairwise (fun a b=>gr a b=true)→(xK p l).Pairwise (fun a b=>gr a b=true)
 |[],_=>by simp[xK]
 |a::l,h=>by
  rw[aqx]at h;unfold xK;split
  ·rename_i hp;rw[aqx,aqx];refine⟨fun b hb=>?_,h⟩;rcases Ro.1 hb with rfl|hb
   ·exact hp
   ·exact al5 hp (h.1 b hb)
  ·rename_i hp;rw[aqx];refine⟨fun b hb=>?_,Wq p h.2⟩;rcases Ro.1 ((Nu p l).mem_iff.1 hb)with rfl|hb
   ·exact(al4 a b).resolve_right hp
   ·exact h.1 b hb
theorem Nv:∀l,(hV l).Pairwise (fun a b=>gr a b=true)
 |[]=>.nil
 |a::l=>Wq a (Nv l)
theorem Wr:∀{l m:List ag},l.Perm m→l.Pairwise (fun a b=>gr a b=true)→m.Pairwise (fun a b=>gr a b=true)→l=m
 |[],m,h,_,_=>by rw[h.nil_eq]
 |a::l,[],h,_,_=>by have:=h.length_eq;simp at this
 |a::l,b::m,h,I,J=>by
  have jA:a=b:=by
   rcases Ro.1 (h.mem_iff.1 (apV:a∈a::l))with e|e
   ·exact e
   ·rcases Ro.1 (h.mem_iff.2 (apV:b∈b::m))with e2|e2
    ·exact e2.symm
    ·exact Wp ((aqx.1 I).1 b e2) ((aqx.1 J).1 a e)
  subst jA;rw[Wr ((List.perm_cons a).1 h) (aqx.1 I).2 (aqx.1 J).2]
theorem Dm (l:List ag):(hV l).length=l.length:=(G5 l).length_eq
instance:Inhabited ag:=⟨⟨0,0⟩⟩
theorem Ws (x y:ag):ltOf l5 x y=true↔gr y x=false:=by
 unfold ltOf;rw[G6,aqO,Ne,rq];unfold l5;split<;>(try split)<;>(try split)<;>(try split)<;>omega
theorem Nw (x y:ag):ltOf l5 x y=false↔gr y x=true:=by
 have:=Ws x y;cases I:ltOf l5 x y<;>cases J:gr y x<;>simp_all
theorem al6:SWO (ltOf l5)where
 irrefl x:=by rw[Nw,rq];omega
 trans x y z h k:=by rw[Ws,aqO,Ne,rq]at*;omega
 ntrans x y z h k:=by rw[Nw,rq]at*;omega
def eG (p:ag):List Value:=[.int .i64 p.addr,.int .i64 p.gen]
def rr:List V→Option (List ag)
 |[]=>some []
 |x::r=>match x with
  |.int k a=>match k with
   |.i64=>match r with
    |y::r'=>match y with
     |.int j b=>match j with
      |.i64=>(rr r').map (⟨a,b⟩::·)
      |_=>none
     |_=>none
    |[]=>none
   |_=>none
  |_=>none
theorem Wt:∀(n:Nat) {xs:List V} {l:List ag},xs.length≤n→rr xs=some l→xs=aq.fl l
 |_,[],l,_,h=>by simp only[rr,E8]at h;subst h;rfl
 |0,x::r,l,hn,_=>by simp at hn
 |n+1,x::r,l,hn,h=>by
  unfold rr at h;cases x<;>simp only at h<;>(try(cases h;done))
  rename_i k a;cases k<;>simp only at h<;>(try(cases h;done))
  cases r with
  |nil=>cases h
  |cons y r'=>
   simp only at h;cases y<;>simp only at h<;>(try(cases h;done))
   rename_i j b;cases j<;>simp only at h<;>(try(cases h;done))
   cases hr:rr r' with
   |none=>rw[hr]at h;cases h
   |some l'=>
    rw[hr]at h;simp only[ap0,E8]at h;subst h;rw[Wt n (by simp at hn;omega) hr];(try rfl)
theorem Wu:∀l:List ag,rr (aq.fl l)=some l
 |[]=>rfl
 |⟨a,b⟩::l=>by
  show(rr (aq.fl l)).map (⟨a,b⟩::·)=_;rw[Wu l];(try rfl)
noncomputable def nh (cmp:Nat):List V→Hp→Option (V×Hp):=fun args h=>match args with
 |[x,y]=>match y with
  |.fn g bf=>match bf with
   |[]=>bif Nat.beq g cmp then match x with
    |.sl a o n _=>bif Nat.ble n 1000000000 then match h.get a with
     |some b=>match b with
      |.cells _ d=>bif d then none else match n with
       |0=>none
       |_+1=>match h.cl a o (n*2)with
        |some xs=>match rr xs with
         |some l=>match h.db a o (aq.fl (hV l))with
          |some h'=>some (.aM [],h')
          |none=>none
         |none=>none
        |none=>none
      |_=>none
     |none=>none else none
    |.no k=>match k with
     |.sl=>some (.aM [],h)
     |_=>none
    |_=>none else none
   |_::_=>none
  |_=>none
 |_=>none
theorem Wv {U:AM}:∀{l:List ag} {cs:List Value},bd U (aq.fl l) cs→cs=l.flatMap eG
 |[],cs,h=>by cases h;rfl
 |p::l,cs,h=>by
  have J:bd U (.int .i64 p.addr::.int .i64 p.gen::aq.fl l) cs:=h;cases J with
  |cons _ fK _ r1 bs h3=>
   cases h3 with
   |cons _ jw _ r2 a2 h4=>
    cases bs;cases a2;rw[Wv h4];(try rfl)
theorem Ww {U:AM}:∀(l:List ag),bd U (aq.fl l) (l.flatMap eG)
 |[]=>.nil
 |_::l=>.cons _ _ _ _ (.int _ _) (.cons _ _ _ _ (.int _ _) (Ww l))
theorem Ny:∀(l:List ag) (t:Nat),t<l.length*2→(l.flatMap eG)[t]? =some ((eG (l.toArray)[t/2]!)[t%2]!)
 |[],t,h=>by simp at h
 |_::_,0,_=>by simp[eG]
 |_::_,1,_=>by simp[eG]
 |p::l,t+2,h=>by
  have ih:=Ny l t (by simp at h;omega);have e1:(t+2)/2=t/2+1:=by omega
  have e2:(t+2)%2=t%2:=by omega
  rw[e1,e2];show(eG p++l.flatMap eG)[t+2]? =_;rw[apG (by simp[eG])];have e3:t+2-(eG p).length=t:=by simp[eG]
  rw[e3,ih];simp
theorem Wx {C:Cx} {ls:List LE} {U:AM} {Λ:Pa→Prop} {h:Hp} {w:World} (s:aP C U Λ h ls w) {a:Pa} {L:Loc} {yU:List V} (ge:U a=some L) (hg:h.get a=some (.cells yU false)) {o n:Nat} {l l':List ag} (hn:n=l.length) (pV:l'.length=n) (hl:h.cl a o (n*2)=some (aq.fl l)) {h':Hp} (aj:h.db a o (aq.fl l')=some h') (m:Nat) (os:Array Obj) (d3:C.sd=false):
 HoldsK eG 2 w L.aw (L.base+o) l.toArray∧L.aw<w.heap.size∧aP C U Λ h' ls (sortWorldK eG 2 w L.aw (L.base+o) m l'.toArray os)∧h'.next=h.next:=by
 obtain⟨bn,yV,el,fr,ci,eq,f7,⟨g0,f9⟩,oF⟩:=s.aeQ ge hg;obtain⟨cs,fK,jw,pT⟩:=s.aeP ge hl;have tr:=Wv jw;have ap:L.aw<w.heap.size:=(lb1.1 ci).1;unfold bm.db at aj;rw[hg]at aj;simp only[KL]at aj;have iI:aY (aq.fl l')=true:=lI l';rw[iI]at aj;simp only[E7]at aj;cases cI:dk o yU (aq.fl l')with
 |none=>rw[cI]at aj;cases aj
 |some abX=>
 rw[cI]at aj;simp only[E8]at aj;subst aj;obtain⟨g1,g2⟩:=Ci cI;have E0:(aq.fl l').length=n*2:=by rw[iT,pV];(try rfl)
 rw[E0]at g1 g2;have bJ:L.base+o+n*2≤yV.size:=by omega
 refine⟨fun j hj=>?_,ap,?_,rfl⟩
 ·have o3:j<l.length*2:=by simpa using hj
  have I:=Ny l j o3;rw[←tr]at I;refine⟨?_,Sf ci f7 (by omega)⟩;rw[pT j _ I];show _=some (id _);rw[get_flatK _ _ _ _ (by simpa using o3)];(try rfl)
 ·
  obtain⟨cs',KA⟩:∃cs',cs'=putCells id (L.base+o) (flatK eG 2 l'.toArray) yV:=⟨_,rfl⟩
  have KB:cs'.size=yV.size:=by rw[KA];simp[putCells]
  have cw:(putRowK eG 2 (Sort.ahead w m) L.aw (L.base+o) l'.toArray).heap[L.aw]? =some (.cells cs' el fr):=by
   show(w.heap.modify L.aw _)[L.aw]? =_;rw[lb2,B4 rfl,ci];show some (onCells _ (.cells yV el fr))=_;rw[KA];(try rfl)
  have ht:iR w (putRowK eG 2 (Sort.ahead w m) L.aw (L.base+o) l'.toArray) L.aw:=by
   refine⟨?_,fun i hi=>?_,rfl,rfl,rfl,arq _ _⟩
   ·show(w.heap.modify L.aw _).size=_;simp
   ·show(w.heap.modify L.aw _)[i]? =_;rw[lb2,pg (Ne.symm hi)]
  have s2:=s.w5 ge bn hg rfl rfl ht (b':=.cells abX false) ⟨cs',el,fr,cw,by rw[KB];exact eq,by rw[KB];exact f7,⟨by rw[KB,g2];simp;omega,fun i v hv=>?_⟩,oF⟩
  ·exact s2.below d3 ⟨rfl,rfl,rfl,by show _≤(_++os).size;rw[lb6];exact arq _ _,fun k hk=>by
    show(_++os)[k]? =_;exact lb0 hk⟩
  ·have hi:i<yU.length:=by
    have:=(ap1.1 hv).1;rw[g2]at this;simp at this;omega
   rw[g2]at hv;have bE:cs'[L.base+i]? =if L.base+o≤L.base+i∧L.base+i<L.base+o+n*2 then some ((flatK eG 2 l'.toArray)[L.base+i-(L.base+o)]!)else yV[L.base+i]? :=by
    rw[KA];unfold putCells;rw[Array.getElem?_mapIdx];have hsf:(flatK eG 2 l'.toArray).size=n*2:=by rw[size_flatK];simp[pV]
    rw[hsf];have abY:L.base+i<yV.size:=by omega
    rw[Array.getElem?_eq_getElem abY];simp only[ap0];split<;>rfl
   by_cases fj:i<o
   ·rw[KK,apQ (by simp;omega),arH fj]at hv;rw[bE,pg (by omega)];exact f9 i v hv
   ·by_cases rN:i<o+n*2
    ·rw[KK,apG (by simp;omega),apQ (by simp[E0];omega)]at hv;have e1:i-(yU.take o).length=i-o:=by simp;omega
     rw[e1]at hv;obtain⟨c,k1,k2⟩:=(Ww (U:=U) l').get hv;rw[bE,B4 (by omega)];refine⟨_,rfl,?_⟩;have e2:L.base+i-(L.base+o)=i-o:=by omega
     rw[e2,get_flatK _ _ _ _ (by simp[pV];omega)];rw[Ny l' _ (by omega)]at k1;cases k1;exact k2
    ·rw[apG (by simp[E0];omega),aqi]at hv;have e1:o+n*2+(i-(yU.take o++aq.fl l').length)=i:=by simp[E0];omega
     rw[e1]at hv;rw[bE,pg (by omega)];exact f9 i v hv
theorem al7 {d d':Array ag} (hp:PermIn 0 d.size d d') (hs:SortedIn (ltOf l5) 0 d.size d'):d'=(hV d.toList).toArray:=by
 obtain⟨I,_,h3⟩:=hp;have e1:(d'.extract 0 d.size).toList=d'.toList:=by rw[←I];simp
 have e2:(d.extract 0 d.size).toList=d.toList:=by simp
 rw[e1,e2]at h3;have abZ:d'.toList.Pairwise (fun a b=>gr a b=true):=by
  rw[List.pairwise_iff_getElem];intro i j hi hj dr;have:=hs i j (amu _) dr (by rw[←I];simpa using hj);rw[Nw]at this;have b8:i<d'.size:=by simpa using hi
  have d7:j<d'.size:=by simpa using hj
  rw[getElem!_pos d' i b8,getElem!_pos d' j d7]at this;simpa using this
 have:=Wr (h3.trans (G5 _).symm) abZ (Nv _);rw[←this]
theorem al8 {h:Hp} {a:Pa} {o n:Nat} {l:List V} (hl:h.cl a o n=some l):l.length=n:=by
 unfold bm.cl at hl;cases hc:h.cells a with
 |none=>simp[hc]at hl
 |some m=>
  simp only[hc,qI]at hl;obtain⟨I,J⟩:=w3 hl;rw[J,ab7];omega
theorem al9 {P:Program} {f g:Nat}
 (hc:∀(aw off cap:Nat) (d:Array ag) (w:World),HoldsK eG 2 w aw off d→aw<w.heap.size→d.size<4611686018427387904→
   Calls P f #[.slice (some ⟨aw,off,none⟩) d.size cap,.func (.func g) #[] #[]] w fun e w'=>e=.returned (.tuple #[])∧∃d' n os,PermIn 0 d.size d d'∧SortedIn (ltOf l5) 0 d.size d'∧w'=sortWorldK eG 2 w aw off n d' os)
 (Ah:∀w,Calls P f #[.slice none 0 0,.func (.func g) #[] #[]] w fun e w'=>e=.returned (.tuple #[])∧Kept w w'):zf P f (nh g):=by
 intro C U Λ h ls w args cE v h' jX d3 s ha hg;cases ha with
 |nil=>cases hg
 |cons x XX r HO hx hr=>
 cases hr with
 |nil=>cases hg
 |cons y XY r HO hy hr=>
 cases hr with
 |cons=>cases hg
 |nil=>
 simp only[nh]at hg;cases y<;>simp only at hg<;>(try(cases hg;done))
 rename_i ab0 bf;cases bf with
 |cons=>cases hg
 |nil=>
 simp only at hg;cases vF:Nat.beq ab0 g with
 |false=>rw[vF]at hg;cases hg
 |true=>
 have:=apY vF;subst this;rw[vF]at hg;simp only[E7]at hg;cases hy with
 |fn _ _ _ ab1=>
 cases ab1;cases x<;>simp only at hg<;>(try(cases hg;done))
 case no k=>
  cases k<;>simp only at hg<;>(try(cases hg;done))
  simp only[E8,apW]at hg;obtain⟨rfl,rfl⟩:=hg;cases hx;refine(Ah w).mono fun e w' hh=>?_;obtain⟨rfl,I,J,h3⟩:=hh;refine⟨_,U,Λ,rfl,AM.le_refl U,?_,.aM [] [] .nil,fun a I J=>absurd I J,B5 _⟩
  exact{ia:=s.ia,aw:=fun a L ha bn=>let⟨b,h4,h5⟩:=s.aw a L ha bn;⟨b,h4,h5.mono (AM.le_refl U) (fun _ _ h=>h) (J _ (s.lt ha bn))⟩,
        inj:=s.inj,live:=s.live,wr:=s.wr,low:=fun i hi=>by rw[J i (aqB hi s.size)];exact s.low i hi,
        size:=aqb s.size I,still:=s.still.RF d3 h3,fresh:=s.fresh,jj:=s.jj}
 case sl a o n c=>
  cases b0:Nat.ble n 1000000000 with
  |false=>rw[b0]at hg;cases hg
  |true=>
  have Hk:=ap5 b0;rw[b0]at hg;simp only[E7]at hg;cases E3:h.get a with
  |none=>rw[E3]at hg;cases hg
  |some b=>
  rw[E3]at hg;simp only at hg;cases b<;>simp only at hg<;>(try(cases hg;done))
  rename_i yU fb;cases fb with
  |true=>simp only[E7]at hg;cases hg
  |false=>
  simp only[KL]at hg;cases n with
  |zero=>cases hg
  |succ n=>
  simp only at hg;cases hl:h.cl a o ((n+1)*2)with
  |none=>rw[hl]at hg;cases hg
  |some xs=>
  rw[hl]at hg;simp only at hg;cases hp:rr xs with
  |none=>rw[hp]at hg;cases hg
  |some l=>
  rw[hp]at hg;simp only at hg;cases aj:h.db a o (aq.fl (hV l))with
  |none=>rw[aj]at hg;cases hg
  |some J=>
  rw[aj]at hg;simp only[E8,apW]at hg;obtain⟨rfl,rfl⟩:=hg;have eV:=Wt xs.length (B5 _) hp;subst eV;have h1:l.length=n+1:=by
   have I:=al8 hl;rw[iT]at I;have e:aq.k=2:=rfl;rw[e]at I;omega
  cases hx with
  |sl _ _ _ _ L capC ge hn bK=>
   obtain⟨t1,t2,_,_⟩:=Wx s ge E3 (n:=n+1) (l:=l) (l':=hV l) h1.symm (by rw[Dm,h1]) hl aj 0 #[] d3;have bJ:l.toArray.size=n+1:=by simpa using h1
   have:=hc L.aw (L.base+o) capC l.toArray w t1 t2 (by rw[bJ];omega);rw[bJ]at this;refine this.mono fun e w' hh=>?_;obtain⟨rfl,d',m,os,k1,k2,rfl⟩:=hh;rw[←bJ]at k1 k2;have hd:=al7 k1 k2;subst hd;obtain⟨_,_,t3,t4⟩:=Wx s ge E3 (n:=n+1) (l:=l) (l':=hV l) h1.symm (by rw[Dm,h1]) hl aj m os d3;exact⟨_,U,Λ,rfl,AM.le_refl U,t3,.aM [] [] .nil,fun a I J=>absurd I J,by rw[t4];exact B5 _⟩
end Go.Ev
namespace Go.Ev
variable{F:Nat→Option aN} {O:Fz}
def tm (a b:Int):Int:=if a<b then-1 else if a>b then 1 else 0
def tn:List Int→Int
 |[]=>0
 |a::l=>if a≠0 then a else tn l
theorem ama (x y:ag):tn [tm x.addr y.addr,tm x.gen y.gen]=l5 x y:=by
 unfold tn tn tn tm l5;split<;>(try split)<;>(try split)<;>(try split)<;>(try split)<;>(try split)<;>omega
theorem Wy [Fx F] {a:Int}:bk F 66 [.j a] O (.bool false):=by
 refine ai.ak (au ?_);refine S.bin ?_;refine⟨_,.t rfl .nil,.done ?_⟩;show V.bool _=_;simp
theorem Wz [Fx F] {a b:Int}:bk F 40 [.j a,.j b] O (.j (tm a b)):=by
 refine ai.ak (au ?_);refine S.ak (Wy) ?_;refine S.ak (Wy) ?_;refine C.B (fun jE=>?_) fun jE=>?_
 ·cases jE
 ·refine C.B (fun eM=>?_) fun eM=>?_
  ·cases eM
  ·refine S.bin ?_;refine C.D (fun d9=>?_) fun d9=>?_
   ·exact⟨_,.t rfl .nil,.done (by unfold tm;rw[B4 d9];(try rfl))⟩
   ·refine S.bin ?_;refine C.D (fun cG=>?_) fun cG=>?_
    ·exact⟨_,.t rfl .nil,.done (by unfold tm;rw[pg d9,B4 cG];(try rfl))⟩
    ·exact⟨_,.t rfl .nil,.done (by unfold tm;rw[pg d9,pg cG];(try rfl))⟩
theorem amb [Fx F] {v:V} {l:List Int} (hl:aa bp O v l) (hlen:l.length≤1000000):bk F 39 [v] O (.j (tn l)):=by
 refine ai.ak (au ?_);refine S.len ?_ (hl:=aa.len hl);refine SW.loop (fun m E ψ R=>∃j:Nat,j+m=l.length∧tn l=tn (l.drop j)∧O=ψ∧R=[]∧Sub [(3,.j 0),(6,v),(7,.j (l.length:Int)),(8,.j (j:Int))] E) (m:=l.length) ⟨0,by omega,rfl,rfl,rfl,.r rfl⟩ ?_;intro m0 E ψ R ac hI;obtain⟨j,hm,ab,rfl,rfl,hE⟩:=hI;refine C.sub hE ?_;refine S.bin ?_;refine C.D (fun eN=>?_) fun eN=>?_
 ·have hj:j<l.length:=by omega
  rw[Rm hj]at ab;simp only[tn]at ab;refine S.aF hl hj fun J6 J7=>?_;refine S.aX ?_;refine S.bin ?_;refine C.B (fun dG=>?_) fun dG=>?_
  ·rw[B4 (by simpa using dG)]at ab;refine⟨_,.t rfl .nil,.done ?_⟩;rw[ab];(try rfl)
  ·rw[pg (by simpa using dG)]at ab;refine S.bin ?_;exact⟨m0-1,by omega,j+1,by omega,ab,rfl,rfl,.r rfl⟩
 ·obtain rfl:j=l.length:=by omega
  rw[WV]at ab;refine⟨_,.t rfl .nil,.done ?_⟩;rw[ab];(try rfl)
theorem amc [Fx F] (x y:ag):SW F ⟨⟨38,17,false,none⟩,fun _=>True⟩ B.CG.den [(0,.agg [.j x.addr,.j x.gen]),(1,.agg [.j y.addr,.j y.gen])] O [] (sU [(pa 4,none)] (fun u _ _=>u=.j (l5 x y)) never):=by
 show SW F _ B.CG.den [(0,.agg [.j x.addr,.j x.gen]),(1,.agg [.j y.addr,.j y.gen])] O [] _;refine SC.w ?_;refine S.box fun a2=>?_;refine S.box fun a3=>?_;refine S.ld 1 ?_;refine S.ld 0 ?_;refine S.ld 1 ?_;refine S.ld 0 ?_;refine S.ak (Wz) ?_;refine S.bF 0 ?_;refine S.bF 1 ?_;refine S.ak (Wz) ?_;refine S.a8 fun r6=>?_;have x8:ae bp (.sl r6 0 2 (.ex 2)) [tm x.addr y.addr,tm x.gen y.gen] (some r6):=ae.new rfl;refine S.ct 0 x8 fun qd oR dR=>?_;refine S.ak (amb dR (by simp)) ?_;rw[ama];exact⟨_,.t rfl .nil,.none rfl⟩
theorem amd (hs:F 37=some (.c7 (nh 38))) {v:V} {l:List ag} {s:Option Pa} (ho:ae aq v l s) (h0:l=[]→v=.no .sl) (hl:l.length≤1000000000):
 ai F 37 [v,.fn 38 []] O [aq.ob s l] (fun _ ψ R=>ψ=O∧R=[aq.ob s (hV l)]) never:=fun ad h sh=>by
 have hb:Nat.beq 38 38=true:=eQ _;cases l with
 |nil=>
  have:=h0 rfl;subst this;refine .inl ⟨.aM [],h,LZ hs ?_,O,[aq.ob s []],.refl O,sh,rfl,rfl⟩;simp only[nh,hb,E7]
 |cons p l=>
  have bx:∃a c,v=.sl a 0 (p::l).length c∧s=some a:=by
   rcases ho.2.2 with⟨_,I,_⟩|⟨a,rfl,J⟩|⟨a,rfl,J⟩
   ·simp at I
   ·exact⟨a,_,rfl,J⟩
   ·exact⟨a,_,rfl,J⟩
  obtain⟨a,c,rfl,rfl⟩:=bx;have hg:h.get a=some (.cells (aq.fl (p::l)) false):=sh.hC (i:=0) rfl;have hlen:(aq.fl (p::l)).length=(p::l).length*2:=iT _;have I:h.cl a 0 ((p::l).length*2)=some (aq.fl (p::l)):=by
   have:=S4 (h:=h) (a:=a) (o:=0) (n:=(p::l).length*2) (m:=aq.fl (p::l)) (by unfold bm.cells;rw[hg];(try rfl)) (by omega);rw[this,aqY,←hlen,ap2]
  have J:h.db a 0 (aq.fl (hV (p::l)))=some (h.put a (.cells (aq.fl (hV (p::l))) false)):=
   F2 hg (lI _) (Nq (by rw[iT,iT,Dm]))
  refine .inl ⟨.aM [],h.put a (.cells (aq.fl (hV (p::l))) false),LZ hs ?_,O,_,.refl O,sh.zn (i:=0) rfl _,rfl,rfl⟩;have hn:Nat.ble (p::l).length 1000000000=true:=aqm hl;simp only[nh,hb,E7,hn,hg,KL];show(match h.cl a 0 ((p::l).length*2)with
   |some xs=>match rr xs with
    |some l=>match h.db a 0 (aq.fl (hV l))with
     |some h'=>some (V.aM [],h')
     |none=>none
    |none=>none
   |none=>none)=_
  rw[I];simp only[Wu,J]
end Go.Ev
set_option maxHeartbeats 1000000
namespace Go.Ev
variable{F:Nat→Option aN} {O:Fz}
theorem eqP (a b:ag):cg .eql (.agg [(0,.i),(1,.i)]) (.agg (aq.f a)) (.agg (aq.f b))=some (.bool (decide (a=b))):=by
 have h:=My a b;have J:∀o:Option Bool,o.map (fun b=>V.bool (!b))=some (.bool (!decide (a=b)))→o.map V.bool=some (.bool (decide (a=b))):=by
  intro o ho;cases o with
  |none=>cases ho
  |some c=>simp only[ap0,E8,V.bool.injEq]at ho⊢;revert ho;cases c<;>cases decide (a=b)<;>simp
 exact J _ h
def xL (am:List ag) (p:ag):List ag:=if am.getLast? =some p then am else am++[p]
def fb (l:List ag):List ag:=l.foldl xL []
theorem Nz (l:List ag) (p:ag):fb (l++[p])=xL (fb l) p:=by unfold fb;rw[arM];(try rfl)
theorem WA (am:List ag) (p:ag):(xL am p).getLast? =some p:=by
 unfold xL;split
 ·assumption
 ·simp
theorem WB {l:List ag} {i:Nat} (I:1≤i) (hi:i<l.length):fb (l.take (i+1))=if l[i]=l[i-1]'(by omega)then fb (l.take i)else fb (l.take i)++[l[i]]:=by
 rw[aqd hi,Nz];obtain⟨j,rfl⟩:∃j,i=j+1:=⟨i-1,by omega⟩
 have hl:(fb (l.take (j+1))).getLast? =some (l[j]'(by omega)):=by
  rw[aqd (by omega),Nz];exact WA _ _
 unfold xL;rw[hl];show _=if l[j+1]=l[j]'(by omega)then _ else _
 by_cases he:l[j+1]=l[j]'(by omega)
 ·rw[B4 (by rw[he]),B4 he]
 ·rw[pg (by rw[E8];exact fun h=>he h.symm),pg he]
theorem ame (l:List ag) (h:0<l.length):fb (l.take 1)=l.take 1:=by
 cases l with
 |nil=>simp at h
 |cons a l=>rfl
theorem amf (l:List ag) (h:l.length<2):fb l=l:=by
 match l,h with
 |[],_=>rfl
 |[a],_=>rfl
theorem WD (n:Nat):dI [(.j 0),(.j 0)] n=aq.fl (List.replicate n ⟨0,0⟩):=aiK (e:=aq) ⟨0,0⟩ n
theorem amg {m:List ag} {k:Nat} (hk:k≤m.length):dk (k*2) (aq.fl m) (dI [(.j 0),(.j 0)] (m.length-k))=some (aq.fl (m.take k++List.replicate (m.length-k) ⟨0,0⟩)):=by
 have e2:aq.k=2:=rfl;have I:(aq.fl m).length=m.length*2:=iT _;have J:(aq.fl (List.replicate (m.length-k) (⟨0,0⟩:ag))).length=(m.length-k)*2:=by rw[iT,aqL];(try rfl)
 rw[WD,TG (by rw[I,J];omega),J,uX];have h3:(aq.fl m).take (k*2)=aq.fl (m.take k):=by have:=Gf (e:=aq) m k;rw[e2]at this;exact this
 rw[h3,aqw (by rw[I];omega),ap9]
theorem amh [Fx F] {v:V} {l:List ag} {s:Option Pa} (ho:ae aq v l s) (hl:l.length≤1000000):
 ai F 41 [v] O [aq.ob s l] (fun r ψ R=>R=[]∧aa aq ψ r (fb l)) never:=by
 refine au ?_;refine S.len ?_ (hl:=ae.len ho);refine S.bin ?_;refine C.D (fun g7=>?_) fun g7=>?_
 ·exact⟨_,.t rfl .nil,.bR 0 rfl ho fun ψ l1 hf=>.done ⟨rfl,by rw[amf l (by omega)];exact hf⟩⟩
 ·obtain⟨a,c,rfl,rfl⟩:∃a c,v=.sl a 0 l.length c∧s=some a:=by
   rcases ho.2.2 with⟨_,I,_⟩|⟨a,rfl,J⟩|⟨a,rfl,J⟩
   ·omega
   ·exact⟨a,_,rfl,J⟩
   ·exact⟨a,_,rfl,J⟩
  have wF:∀m:List ag,m.length=l.length→ae aq (.sl a 0 l.length c) m (some a):=fun m hm=>by
   rcases ho.2.2 with⟨I,_⟩|⟨b,I,J⟩|⟨b,I,J⟩
   ·cases I
   ·cases I;exact⟨by rw[iT],lI _,.inr (.inl ⟨a,by rw[hm],rfl⟩)⟩
   ·cases I;exact⟨by rw[iT],lI _,.inr (.inr ⟨a,by rw[hm],rfl⟩)⟩
  refine SW.loop (fun m E ψ R=>∃k:Nat,k+m=l.length∧1≤k∧fb (l.take k)=l.take k∧O=ψ∧R=[aq.ob (some a) l]∧Sub [(0,.sl a 0 l.length c),(3,.j (k:Int))] E) (m:=l.length-1) ⟨1,by omega,by omega,ame l (by omega),rfl,rfl,.r rfl⟩ ?_;intro m0 E ψ R ac hI;obtain⟨k,DU,rX,p0,rfl,rfl,hE⟩:=hI;refine C.sub hE ?_;refine S.len ?_ (hl:=ae.len ho);refine S.bin ?_;refine C.D (fun eM=>?_) fun eM=>?_
  ·have hk:k<l.length:=by omega
   have E4:=WB rX hk;refine S.cX ho hk fun p6 cK=>?_;cases cK;refine S.CJ (e:=aq) (l:=l) 0 hk ?_;refine S.bin ?_ (v:=.j ((k-1:Nat):Int)) (hv:=by rw[ig (by omega) (by omega)];congr 2;omega);refine S.cX ho (j:=k-1) (by omega) fun Bh eB=>?_;cases eB;refine S.CJ (e:=aq) (l:=l) (j:=k-1) 0 (by omega) ?_;refine S.bin ?_ (hv:=eqP l[k] (l[k-1]'(by omega)));refine C.D (fun bV=>?_) fun bV=>?_
   ·rw[B4 (by simpa using bV)]at E4;obtain⟨a2,o2,jw,Kk,ab2,nH⟩:=ae.lo ho (j:=k) (by omega) (by omega);cases Kk;have nH:o2=k*2:=by rcases nH with h|h;exact h;omega
    subst nH;refine S.slice ab2 ?_;refine SW.loop (fun m E ψ R=>∃(k2 k3:Nat) (m':List ag),k+k2+m=l.length∧1≤k2∧k3+1≤k+k2∧m'.length=l.length∧m'.take k3=fb (l.take (k+k2))∧(∀i,k+k2≤i+1→m'[i]? =l[i]?)∧O=ψ∧R=[aq.ob (some a) m']∧Sub [(0,.sl a 0 l.length c),(3,.j (k3:Int)),(4,.sl a (k*2) (l.length-k) jw),(5,.j (k2:Int))] E) (m:=l.length-(k+1)) ⟨1,k,l,by omega,by omega,by omega,rfl,by rw[E4,p0],fun i hi=>rfl,rfl,rfl,.r rfl⟩ ?_;intro m2 E ψ R ac hI;obtain⟨k2,k3,m',apE,apF,hk3,yR,yi,E5,rfl,rfl,hE⟩:=hI;refine C.sub hE ?_;refine S.len ?_ (n:=l.length-k);refine S.bin ?_;refine C.D (fun eA=>?_) fun eA=>?_
    ·have wi:k+k2<l.length:=by omega
     have E6:=WB (i:=k+k2) (by omega) wi;have KC:ae aq (.sl a 0 l.length c) m' (some a):=wF m' yR;have g1:m'[k+k2]'(by omega)=l[k+k2]:=by
      have:=E5 (k+k2) (by omega);rw[KJ (by omega),KJ wi]at this;exact arO this
     have g2:m'[k+k2-1]'(by omega)=l[k+k2-1]'(by omega):=by
      have:=E5 (k+k2-1) (by omega);rw[KJ (by omega),KJ (by omega)]at this;exact arO this
     refine S.CF (n:=l.length-k) (o:=k*2) (j:=k2) (by omega) ?_;rw[show k*2+k2*2=(k+k2)*aq.k by show _=_*2;omega];refine S.CJ (e:=aq) (l:=m') (j:=k+k2) 0 (by omega) ?_;rw[g1];refine S.bin ?_ (v:=.j ((k2-1:Nat):Int)) (hv:=by rw[ig (by omega) (by omega)];congr 2;omega);refine S.CF (n:=l.length-k) (o:=k*2) (j:=k2-1) (by omega) ?_;rw[show k*2+(k2-1)*2=(k+k2-1)*aq.k by show _=_*2;omega];refine S.CJ (e:=aq) (l:=m') (j:=k+k2-1) 0 (by omega) ?_;rw[g2];refine S.bin ?_ (hv:=My l[k+k2] (l[k+k2-1]'(by omega)));refine C.B (fun fX=>?_) fun fX=>?_
     ·rw[pg (by simpa using fX)]at E6;refine S.CF (n:=l.length-k) (o:=k*2) (j:=k2) (by omega) ?_;rw[show k*2+k2*2=(k+k2)*aq.k by show _=_*2;omega];refine S.CJ (e:=aq) (l:=m') (j:=k+k2) 0 (by omega) ?_;rw[g1];refine S.cX KC (j:=k3) (by omega) fun a51 vV=>?_;cases vV;refine S.pE (e:=aq) (l:=m') (j:=k3) l[k+k2] 0 ?_ (hj:=by omega);refine S.bin ?_ (v:=.j ((k3+1:Nat):Int)) (hv:=by rw[ei (by omega) (by omega)];(try rfl));refine S.bin ?_ (v:=.j ((k2+1:Nat):Int)) (hv:=by rw[ei (by omega) (by omega)];(try rfl));refine⟨m2-1,by omega,k2+1,k3+1,m'.set k3 l[k+k2],by omega,by omega,by omega,by simpa using yR,?_,fun i hi=>?_,rfl,rfl,.r rfl⟩
      ·rw[show k+(k2+1)=k+k2+1 by omega,E6,←yi,aqd (by simp;omega),List.take_set_of_le (B5 _),arX]
      ·rw[List.getElem?_set_ne (by omega)];exact E5 i (by omega)
     ·refine S.bin ?_ (v:=.j ((k2+1:Nat):Int)) (hv:=by rw[ei (by omega) (by omega)];(try rfl));rw[B4 (by simpa using fX)]at E6;exact⟨m2-1,by omega,k2+1,k3,m',by omega,by omega,by omega,yR,by rw[show k+(k2+1)=k+k2+1 by omega,E6,yi],fun i hi=>E5 i (by omega),rfl,rfl,.r rfl⟩
    ·have nB:k+k2=l.length:=by omega
     rw[nB,ap2]at yi;have KC:ae aq (.sl a 0 l.length c) m' (some a):=wF m' yR;obtain⟨a3,p3,pT,ha3,ab3,KD⟩:=ae.lo KC (j:=k3) (by omega) (by omega);cases ha3;have KD:p3=k3*2:=by rcases KD with h|h;exact h;omega
     subst KD;refine S.slice ab3 ?_;refine S.clear 0 ?_ (cI:=amg (m:=m') (k:=k3) (by omega)) (hs:=by rw[WD];exact lI _);refine S.ct (e:=aq) (l:=m'.take k3++List.replicate (m'.length-k3) ⟨0,0⟩) (s:=some a) 0 (wF _ (by simp;omega)) fun ψk lk hf=>?_;obtain⟨v59,BK,Rk⟩:=hf.hi (j:=k3) (by simp;omega);refine S.slice BK ?_;rw[List.take_append_of_le_length (by simp;omega),List.take_take,Nat.min_self,yi]at Rk;exact⟨_,.t rfl .nil,.none ⟨rfl,Rk⟩⟩
   ·refine S.bin ?_ (v:=.j ((k+1:Nat):Int)) (hv:=by rw[ei (by omega) (by omega)];(try rfl));rw[pg (by simpa using bV)]at E4;exact⟨m0-1,by omega,k+1,by omega,by omega,by rw[E4,p0,aqd hk],rfl,rfl,.r rfl⟩
  ·obtain rfl:k=l.length:=by omega
   rw[ap2]at p0;exact⟨_,.t rfl .nil,.bR 0 rfl ho fun ψ l1 hf=>.done ⟨rfl,by rw[p0];exact hf⟩⟩
end Go.Ev
set_option maxHeartbeats 1000000
namespace Go.Ev
variable{F:Nat→Option aN} {O:Fz}
def arC (O:Fz) (cs:List V) (y:xH):Prop:=∃v2 v3 v4 v5 n3 ql qm,cs=[.j y.next,.j y.id,v2,v3,v4,v5]∧aa dW O v2 (y.trees.map (·.root))∧aa bT O v3 n3∧NR br O n3 (y.trees.map (fun t=>t.ao.map (·.1)))∧aa bT O v4 ql∧NR aq O ql (y.trees.map (fun t=>t.ao.map (·.2)))∧aa bT O v5 qm∧NR aH O qm (y.trees.map (·.tree))
theorem arY [Fx F] (hr:F 223=some (.c7 ji)) {cs:List V} {d:ay} {sum:Int} (hd:cP O cs d) (cL:d.wait.length≤1000000):ai F 9 [.agg cs,.j sum] O [] (fun r ψ R=>R=[]∧∃cs',r=.aM [.agg cs',.bool (fS d sum).isSome]∧arC ψ cs' ((fS d sum).getD tl)) never:=by
 obtain⟨lv,wv,rfl,hl,hw,sl,sw⟩:=hd.open;refine au ?_;refine S.box fun a2=>?_;refine S.alloc fun a4=>?_;refine S.af 1 ?_ (l:=[lv,wv,.j d.arm,.bool d.down]);refine S.call (alX hr (sum:=sum) hd cL) fun p9 AA AB qa dB=>?_;obtain⟨a,lv',wv',d',u6,u7,u8,u9,iv,q6,q7,q8,q9,jK,m7,m8,m9,rfl,rfl,hR,h0⟩:=dB;obtain⟨y,hy⟩:∃y,y=(fS d sum).getD tl:=⟨_,rfl⟩
 rw[←hy]at hR h0⊢;refine S.af 0 ?_ (l:=[.j y.next,.j y.id,u6,u7,u8,u9]);refine S.ct 2 hR.roots fun ψ1 l1 f6=>?_;refine S.ct 2 hR.apS fun ψ2 l2 iL=>?_;refine S.ct 2 hR.apU fun ψ3 Ap abM=>?_;refine S.ct 2 hR.trees fun ψ4 aas mI=>?_;have IF:=((f6.mono l2).mono Ap).mono aas;have aaQ:=(iL.mono Ap).mono aas;have aaR:=abM.mono aas;have wK:=((l1.trans l2).trans Ap).trans aas;have vB:=hR.apT.mono wK;have yE:=hR.GM.mono wK;have BX:=hR.nt.mono wK;have abV:=IF.av;have BZ:=aaQ.av;have B2:=aaR.av;have z9:=mI.av;refine S.mv ?_;refine S.store 2 ?_ (hs:=by simp[V.cells,aY,lH,abV,BZ,B2,z9]);exact⟨_,.cN 2 rfl rfl rfl rfl (.t rfl .nil),.none ⟨rfl,_,rfl,u6,u7,u8,u9,m7,m8,m9,rfl,IF,aaQ,vB,aaR,yE,mI,BX⟩⟩
theorem ami [Fx F] (hr:F 223=some (.c7 ji)) {cs:List V} {d:ay} {sum:Int} (hd:cP O cs d) (cL:d.wait.length≤1000000) (hs:F 37=some (.c7 (nh 38))) (Rl:((fS d sum).getD tl).all.length≤1000000):ai F 11 [.agg cs,.j sum] O [] (fun r ψ R=>R=[]∧∃pv,r=.aM [pv,.bool (fS d sum).isSome]∧aa aq ψ pv (fb (hV ((fS d sum).getD tl).all))) never:=by
 obtain⟨lv,wv,rfl,hl,hw,sl,sw⟩:=hd.open;refine au ?_;refine S.box fun a2=>?_;refine S.af 0 ?_ (l:=[lv,wv,.j d.arm,.bool d.down]);refine S.call (alX hr (sum:=sum) hd cL) fun g4 kX p7 mj cd=>?_;obtain⟨a,lv',wv',d',u6,u7,u8,u9,iv,q6,q7,q8,q9,jK,m7,m8,m9,rfl,rfl,hR,h0⟩:=cd;obtain⟨y,hy⟩:∃y,y=(fS d sum).getD tl:=⟨_,rfl⟩
 rw[←hy]at hR h0⊢;rw[←hy]at Rl;refine S.ld 0 ?_;refine S.bb 1 rfl (amd hs hR.all h0 (by omega)) fun v20 sb yr se cU=>?_;obtain⟨cU,rfl⟩:=cU;have cU:=cU.symm;subst cU;have os:ae aq iv (hV y.all) jK:=by
  have hlen:=Dm y.all;rcases hR.all.2.2 with⟨I,J,h3⟩|⟨b,I,J⟩|⟨b,I,J⟩
  ·exact⟨by rw[iT],lI _,.inl ⟨I,by rw[hlen];exact J,h3⟩⟩
  ·exact⟨by rw[iT],lI _,.inr (.inl ⟨b,by rw[hlen];exact I,J⟩)⟩
  ·exact⟨by rw[iT],lI _,.inr (.inr ⟨b,by rw[hlen];exact I,J⟩)⟩
 refine S.bb 0 rfl (amh os (by rw[Dm];exact Rl)) fun v22 wj O22 A7 qj=>?_;obtain⟨rfl,f22⟩:=qj;exact⟨_,.t rfl (.t rfl .nil),.none ⟨rfl,v22,rfl,f22⟩⟩
end Go.Ev
namespace Go.Ev
def pS (d:ay) (z:ag):Prop:=∃x,b7 d z.addr (-1)=some x∧x.gen=z.gen
theorem amj {d:ay} {a g:Int} {x:aV} (h:b7 d a g=some x):b7 d a (-1)=some x:=by
 unfold b7 at h⊢;split at h
 ·rename_i h0;rw[B4 h0];cases ht:hJ (d.read a).1 with
  |none=>rw[ht]at h;cases h
  |some y=>
   rw[ht]at h;simp only at h⊢;rw[pg (by omega)];split at h
   ·cases h
   ·exact h
 ·cases h
theorem NA {d:ay} {z:ag} {x:aV} (h:b7 d z.addr z.gen=some x) (hg:0≤z.gen):pS d z:=⟨x,amj h,GV h hg⟩
theorem WE {d:ay} {y z:ag} (hy:pS d y) (hz:pS d z) (h:y.addr=z.addr):y=z:=by
 obtain⟨a,I,J⟩:=hy;obtain⟨b,h3,h4⟩:=hz;rw[h,h3]at I;cases I;cases y;cases z;simp_all
theorem WG {d:ay}:∀{q:List ag} {ao iN:List b2},(∀z∈q,0≤z.gen)→gp d q ao=some iN→∀z∈q,pS d z
 |[],_,_,_,_,z,hz=>by cases hz
 |p::q,ao,iN,hg,h,z,hz=>by
  simp only[gp]at h;split at h
  ·cases h
  ·rename_i l hl;obtain⟨b,b0,_⟩:=aqg.1 hl;rcases Ro.1 hz with rfl|hz
   ·exact NA b0 (hg _ apV)
   ·exact WG (fun z hz=>hg z (amI _ hz)) h z hz
theorem WH {d:ay}:∀{l:List b2} {am r:List bH},(∀i∈l,0≤i.2.gen)→hU d l am=some r→∀i∈l,pS d i.2
 |[],_,_,_,_,z,hz=>by cases hz
 |p::l,am,r,hg,h,z,hz=>by
  simp only[hU]at h;split at h
  ·cases h
  ·rename_i x hx;have hb:∃b,b7 d p.2.addr p.2.gen=some b:=by
    unfold recAt at hx;split at hx
    ·cases hx
    ·rename_i y hy;obtain⟨b,b0,_⟩:=aqg.1 hy;exact⟨b,b0⟩
   obtain⟨b,hb⟩:=hb;rcases Ro.1 hz with rfl|hz
   ·exact NA hb (hg _ apV)
   ·exact WH (fun z hz=>hg z (amI _ hz)) h z hz
theorem amk {d:ay} {p:ag} {x:jW} {l:List ag} (hg:0≤p.gen) (h:nf d p=some (x,l)):pS d p∧∀z∈l,pS d z:=by
 unfold nf at h;split at h
 ·cases h
 ·rename_i r q hq;obtain⟨b,b0,dl⟩:=aqg.1 hq;split at h
  ·cases h
  ·rename_i ao wh;split at h
   ·cases h
   ·rename_i dp ab4;split at h
    ·cases h
    ·cases h;refine⟨NA b0 hg,fun z hz=>?_⟩;rcases aqh.1 hz with hz|hz
     ·exact WG (VU dl) wh z hz
     ·obtain⟨i,hi,rfl⟩:=arf.1 hz;exact WH ((Np wh).2 (fun i hi=>by cases hi)) ab4 i hi
theorem WI {d:ay}:∀(q:List ag) (s:oa) (bQ:List ag),(∀z∈q,0≤z.gen)→(∀z∈bQ,pS d z)→(∀z,z∈s.all↔z∈bQ∨z∈q)→
 (match mZ d q s with
 |none=>kQ d q s.trees bQ=none
 |some s'=>∃y,kQ d q s.trees bQ=some y∧s'.next=s.next∧s'.id=s.id∧s'.trees=y.1∧(∀z,z∈s'.all↔z∈y.2)∧∀z∈y.2,pS d z)
 |[],s,bQ,_,hb,hm=>⟨_,rfl,rfl,rfl,rfl,fun z=>by rw[hm z];simp,hb⟩
 |p::q,s,bQ,hg,hb,hm=>by
  simp only[mZ,kQ];rw[←VT];cases ht:nf d p with
  |none=>rfl
  |some ab5=>
   obtain⟨x,l⟩:=ab5;obtain⟨r1,r2⟩:=amk (hg p apV) ht;simp only;have ih:=WI q {s with trees:=s.trees++[x],all:=s.all++l} (bQ++p::l) (fun z hz=>hg z (amI _ hz)) (fun z hz=>by
    rcases aqh.1 hz with hz|hz
    ·exact hb z hz
    ·rcases Ro.1 hz with rfl|hz
     ·exact r1
     ·exact r2 z hz) (fun z=>by
    simp only[aqh,Ro];have:=hm z;rw[Ro]at this;constructor
    ·rintro(h|h)
     ·rcases this.1 h with h|h|h
      ·exact .inl (.inl h)
      ·exact .inl (.inr (.inl h))
      ·exact .inr h
     ·exact .inl (.inr (.inr h))
    ·rintro((h|h|h)|h)
     ·exact .inl (this.2 (.inl h))
     ·exact .inl (this.2 (.inr (.inl h)))
     ·exact .inr h
     ·exact .inl (this.2 (.inr (.inr h))))
   exact ih
theorem aml (d:ay) (sum:Int):match look d sum with
 |none=>fS d sum=none
 |some s=>∃y,fS d sum=some y∧s.next=y.next∧s.id=y.id∧s.trees=y.trees∧(∀z,z∈s.all↔z∈y.all)∧∀z∈y.all,pS d z:=by
 unfold look fS;cases hb:b7 d sum (-1)with
 |none=>rfl
 |some x=>
  simp only;cases ht:dX x with
  |none=>rfl
  |some t=>
   obtain⟨n,i,q⟩:=t;simp only;have h:=WI q ⟨n,i,[],⟨sum,x.gen⟩::q⟩ [⟨sum,x.gen⟩] (VV ht) (fun z hz=>by obtain rfl:=aqj.1 hz;exact⟨x,hb,rfl⟩) (fun z=>by simp);cases hl:mZ d q ⟨n,i,[],⟨sum,x.gen⟩::q⟩with
   |none=>rw[hl]at h;simp only at h⊢;rw[h];(try rfl)
   |some s=>
    rw[hl]at h;simp only at h⊢;obtain⟨y,I,J,h3,h4,h5,h6⟩:=h;exact⟨⟨n,i,y.1,y.2⟩,by rw[I];(try rfl),J,h3,h4,h5,h6⟩
theorem WJ {ad:ag→ag→Prop} (hi:∀a,¬ad a a) (ht:∀a b,ad a b→¬ad b a):∀{l m:List ag},l.Pairwise ad→m.Pairwise ad→(∀z,z∈l↔z∈m)→l=m
 |[],[],_,_,_=>rfl
 |[],b::m,_,_,h=>by have:=(h b).2 apV;cases this
 |a::l,[],_,_,h=>by have:=(h a).1 apV;cases this
 |a::l,b::m,I,J,h=>by
  rw[aqx]at I J;have jA:a=b:=by
   rcases Ro.1 ((h a).1 apV)with e|e
   ·exact e
   ·rcases Ro.1 ((h b).2 apV)with e2|e2
    ·exact e2.symm
    ·exact absurd (I.1 b e2) (ht _ _ (J.1 a e))
  subst jA;rw[WJ hi ht I.2 J.2 (fun z=>?_)];constructor
  ·intro hz;rcases Ro.1 ((h z).1 (amI _ hz))with e|e
   ·subst e;exact absurd (I.1 _ hz) (hi _)
   ·exact e
  ·intro hz;rcases Ro.1 ((h z).2 (amI _ hz))with e|e
   ·subst e;exact absurd (J.1 _ hz) (hi _)
   ·exact e
theorem ND {p z:ag}:∀{l:List ag},z∈dq p l→z=p∨z∈l
 |[],h=>by simp[dq]at h;exact .inl h
 |a::l,h=>by
  simp only[dq]at h;split at h
  ·exact .inr h
  ·split at h
   ·rcases Ro.1 h with h|h
    ·exact .inl h
    ·exact .inr h
   ·rcases Ro.1 h with h|h
    ·exact .inr (h▸apV)
    ·rcases ND h with h|h
     ·exact .inl h
     ·exact .inr (amI _ h)
theorem WK {p z:ag}:∀{l:List ag},z∈l→z∈dq p l
 |[],h=>by cases h
 |a::l,h=>by
  simp only[dq];split
  ·exact h
  ·split
   ·exact amI _ h
   ·rcases Ro.1 h with h|h
    ·exact h▸apV
    ·exact amI _ (WK h)
theorem WL (p:ag):∀(l:List ag),∃z∈dq p l,z.addr=p.addr
 |[]=>⟨p,by simp[dq],rfl⟩
 |a::l=>by
  simp only[dq];split
  ·rename_i h;exact⟨a,apV,h⟩
  ·split
   ·exact⟨p,apV,rfl⟩
   ·obtain⟨z,I,J⟩:=WL p l;exact⟨z,amI _ I,J⟩
theorem WM {p:ag}:∀{l:List ag},l.Pairwise (fun a b=>a.addr<b.addr)→(dq p l).Pairwise (fun a b=>a.addr<b.addr)
 |[],_=>by simp[dq]
 |a::l,h=>by
  have h0:=aqx.1 h;simp only[dq];split
  ·exact h
  ·split
   ·rename_i I J;rw[aqx];refine⟨fun b hb=>?_,h⟩;rcases Ro.1 hb with rfl|hb
    ·exact J
    ·have:=h0.1 b hb;omega
   ·rename_i I J;rw[aqx];refine⟨fun b hb=>?_,WM h0.2⟩;rcases ND hb with rfl|hb
    ·omega
    ·exact h0.1 b hb
theorem WN:∀(l out:List ag),out.Pairwise (fun a b=>a.addr<b.addr)→
 (l.foldl (fun out p=>dq p out) out).Pairwise (fun a b=>a.addr<b.addr)∧(∀z∈l.foldl (fun out p=>dq p out) out,z∈out∨z∈l)∧(∀z∈out,z∈l.foldl (fun out p=>dq p out) out)∧∀z∈l,∃w∈l.foldl (fun out p=>dq p out) out,w.addr=z.addr
 |[],out,h=>⟨h,fun z hz=>.inl hz,fun z hz=>hz,fun z hz=>by cases hz⟩
 |p::l,out,h=>by
  obtain⟨k1,k2,k3,k4⟩:=WN l (dq p out) (WM h);rw[aqk];refine⟨k1,fun z hz=>?_,fun z hz=>k3 z (WK hz),fun z hz=>?_⟩
  ·rcases k2 z hz with I|I
   ·rcases ND I with I|I
    ·exact .inr (I▸apV)
    ·exact .inl I
   ·exact .inr (amI _ I)
  ·rcases Ro.1 hz with rfl|hz
   ·obtain⟨w,I,J⟩:=WL z out;exact⟨w,k3 w I,J⟩
   ·exact k4 z hz
theorem WO:∀(n:Nat) (l:List ag),l.length≤n→l.Pairwise (fun a b=>gr a b=true)→(fb l).Pairwise (fun a b=>gr a b=true∧a≠b)∧(∀z,z∈fb l↔z∈l)∧(fb l).getLast? =l.getLast?
 |_,[],_,_=>⟨.nil,fun _=>Iff.rfl,rfl⟩
 |0,a::l,h,_=>by simp at h
 |n+1,a::l,h,hs=>by
  have bx:a::l≠[]:=by simp
  have e:a::l=(a::l).dropLast++[(a::l).getLast bx]:=(arT bx).symm;generalize (a::l).dropLast=m at e;generalize (a::l).getLast bx=p at e;rw[e]at hs h⊢;rw[amv]at h;rw[List.pairwise_append]at hs;obtain⟨s1,_,s3⟩:=hs;obtain⟨k1,k2,k3⟩:=WO n m (by simp at h;omega) s1;rw[Nz];refine⟨?_,fun z=>?_,by rw[WA];simp⟩
  ·unfold xL;split
   ·exact k1
   ·rename_i hl;rw[List.pairwise_append];refine⟨k1,by simp,fun z hz w hw=>?_⟩;obtain rfl:=aqj.1 hw;have yo:=(k2 z).1 hz;refine⟨s3 z yo w (by simp),fun ezp=>?_⟩;subst ezp;have tp:m≠[]:=by intro e0;rw[e0]at yo;cases yo
    have ab6:m.getLast? =some (m.getLast tp):=List.getLast?_eq_some_getLast tp;have I:gr z (m.getLast tp)=true:=by
     have e2:m=m.dropLast++[m.getLast tp]:=(arT tp).symm;rw[e2]at yo s1;rcases aqh.1 yo with J|J
     ·exact(List.pairwise_append.1 s1).2.2 z J _ (by simp)
     ·have:=aqj.1 J;rw[this];rw[rq];omega
    have J:gr (m.getLast tp) z=true:=s3 _ (List.getLast_mem tp) z (by simp);have:=Wp I J;rw[k3,ab6,←this]at hl;exact hl rfl
  ·unfold xL;split
   ·rename_i hl;rw[k2 z,aqh,aqj];constructor
    ·exact .inl
    ·rintro(I|rfl)
     ·exact I
     ·rw[k3]at hl;exact List.mem_of_getLast? hl
   ·rw[aqh,aqh,k2 z]
theorem amm {d:ay} {l m:List ag} (h:∀z,z∈l↔z∈m) (hr:∀z∈m,pS d z):fb (hV m)=xB l:=by
 obtain⟨k1,k2,_,k4⟩:=WN l [] .nil;obtain⟨np,oL,_⟩:=WO (hV m).length (hV m) (B5 _) (Nv m);have KE:∀z,z∈fb (hV m)↔z∈m:=fun z=>(oL z).trans (G5 m).mem_iff;have hb:∀z,z∈xB l↔z∈m:=fun z=>by
  constructor
  ·intro hz;rcases k2 z hz with I|I
   ·cases I
   ·exact(h z).1 I
  ·intro hz;obtain⟨w,w1,w2⟩:=k4 z ((h z).2 hz);have hw:w∈m:=by
    rcases k2 w w1 with I|I
    ·cases I
    ·exact(h w).1 I
   have:=WE (hr w hw) (hr z hz) w2;rw[←this];exact w1
 refine WJ (ad:=fun a b=>a.addr<b.addr) (fun a=>by omega) (fun a b h=>by omega) ?_ k1 (fun z=>(KE z).trans (hb z).symm);refine List.Pairwise.imp_of_mem (fun{a b} ha jY jA=>?_) np;have I:=rq.1 jA.1;rcases I with I|I
 ·exact I
 ·exact absurd (WE (hr a ((KE a).1 ha)) (hr b ((KE b).1 jY)) I.1) jA.2
theorem WQ (d:ay) (sum:Int):(fS d sum).isSome=(blocks d sum).isSome∧fb (hV ((fS d sum).getD tl).all)=(blocks d sum).getD []:=by
 have h:=aml d sum;unfold blocks;cases hl:look d sum with
 |none=>rw[hl]at h;simp only at h;rw[h];exact⟨rfl,rfl⟩
 |some s=>
  rw[hl]at h;obtain⟨y,I,_,_,_,h5,h6⟩:=h;rw[I];exact⟨rfl,amm h5 h6⟩
end Go.Ev
namespace Go.Ev
theorem NG {v:aW} {lo hi:Int} (h:0≤v.pos):(dz v lo hi).1.d.last.length=v.d.last.length:=(C7 h).1
theorem NH {v x:aW} (hp:0≤x.pos) (hd:x.d=v.d):(eU v x).1.d.last.length=v.d.last.length:=by
 have h:=NG (v:=x) (lo:=0) (hi:=0) hp;rw[hd]at h;unfold eU;simp only;split
 ·exact h
 ·split
  ·rfl
  ·exact h
theorem amn {v:aW} (hp:0≤v.pos):(lW v).1.d.last.length=v.d.last.length:=by
 unfold lW;split
 ·rfl
 ·have:=NH (v:=v) (x:={v with trees:=fi v.trees ⟨⟨3,v.next,v.id*65536+v.next,0,0⟩,et v.trees⟩,next:=v.next+1}) hp rfl;simp only;split<;>exact this
theorem amo {v:aW} (hp:0≤v.pos) (s:gk):(iG v s).d.last.length=v.d.last.length:=by
 unfold iG;split
 ·exact NH hp rfl
 ·split
  ·exact amn hp
  ·split
   ·unfold pL;split
    ·rfl
    ·rename_i l hl;exact NH (x:={v with trees:=l}) hp rfl
   ·split
    ·unfold pM;split
     ·rfl
     ·rfl
    ·unfold oh;split
     ·rfl
     ·rename_i s hs;have I:=NG (v:=v) (lo:=bO s) (hi:=bO s+64) hp;simp only;split
      ·exact I
      ·split
       ·rfl
       ·exact I
theorem amp {v:aW} (hp:0≤v.pos) (s:gk):(gK v s).d.last.length=v.d.last.length:=by
 unfold gK;split
 ·split<;>rfl
 ·split
  ·rfl
  ·exact amo hp s
theorem amq (bi:Nat) (id:Int):(vd bi id).1.d.last.length=2+64*bi:=by
 have J:=NG (v:=iq bi id) (lo:=0) (hi:=0) (aqc 0);have h0:(iq bi id).d.last.length=2+64*bi:=by show(List.replicate _ _).length=_;rw[aqL];omega
 obtain⟨Y,hY⟩:∃Y,Y=(dz (iq bi id) 0 0).1:=⟨_,rfl⟩
 show({(dz (iq bi id) 0 0).1 with d:=(xC (dz (iq bi id) 0 0).1).1,n:=1}:aW).d.last.length=_;rw[←hY]at J⊢;exact(C5 Y.d ⟨1,Y.seq,Y.sum,Y.aU,Y.pos⟩).1.trans (J.trans h0)
theorem WS {l:Bs}:∀(k n K:Nat) {v:aW},VK K v→(ti l k n v).d.last.length=v.d.last.length
 |0,n,K,v,h=>rfl
 |k+1,n,K,v,h=>by
  simp only[ti];split
  ·rfl
  ·rw[WS k _ (K+2) (Nb h _),amp h.ju]
theorem WT (l:Bs) {bi:Nat} (eP:Nat) (h:bi≤15):(om l bi eP).d.last.length=2+64*bi:=by
 unfold om;rw[WS eP 0 3 (Nc h (by decide) (by decide)),amq]
end Go.Ev
namespace Go.Ev
variable{F:Nat→Option aN} {O:Fz}
theorem WU {d:ay}:∀{q:List ag} {ts:List jW} {bQ:List ag} {x:List jW×List ag},kQ d q ts bQ=some x→x.2.length≤bQ.length+337*q.length
 |[],ts,bQ,x,e=>by cases e;exact B5 _
 |p::q,ts,bQ,x,e=>by
  simp only[kQ]at e;split at e
  ·cases e
  ·rename_i y l hy;have I:=Wn hy;have:=WU e;simp only[amv,WW]at this⊢;have J:l.length≤336:=I;omega
theorem amr {d:ay} {sum:Int}:((fS d sum).getD tl).all.length≤1000000:=by
 cases h:fS d sum with
 |none=>exact amu _
 |some y=>
  unfold fS at h;split at h
  ·cases h
  ·split at h
   ·cases h
   ·rename_i n i q hq;obtain⟨z,I,J⟩:=aqp.1 h;subst J;have h3:=WU I;have h4:=CV hq;show z.2.length≤_;simp at h3;omega
theorem ams [Fx F] (hr:F 223=some (.c7 ji)) (hs:F 37=some (.c7 (nh 38))) {cs:List V} {d:ay} {sum:Int} (hd:cP O cs d) (cL:d.wait.length≤1000000):ai F 11 [.agg cs,.j sum] O [] (fun r ψ R=>R=[]∧∃pv,r=.aM [pv,.bool (blocks d sum).isSome]∧aa aq ψ pv ((blocks d sum).getD [])) never:=by
 have h:=ami hr (sum:=sum) hd cL hs amr;rw[(WQ d sum).1,(WQ d sum).2]at h;exact h
end Go.Ev
namespace Go.Ev
variable{F:Nat→Option aN} {O:Fz}
theorem wrap64 {n:Nat} (h:n≤1000000):e6 .i64 (n:Int)=(n:Int):=zm (by omega) (by omega)
end Go.Ev
namespace Go.Ev
def D64 (d:ay):Prop:=(∀s∈d.last,s.length=64)∧∀p∈d.wait,p.b.length=64
theorem D64.write {d:ay} (h:D64 d) (i:Int) (b:Bs):D64 (d.write i b).1:=by
 unfold ay.write;split
 ·exact h
 ·rename_i hc;have hb:b.length=64:=by simp at hc;omega
  have hw:∀p∈d.wait++[⟨i,b⟩],p.b.length=64:=fun p hp=>by
   rcases aqh.1 hp with hp|hp
   ·exact h.2 p hp
   ·rw[aqj.1 hp];exact hb
  split
  ·exact⟨h.1,hw⟩
  ·exact⟨h.1,hw⟩
theorem asz {l:List Bs} {p:uZ} (h:∀s∈l,s.length=64) (hp:p.b.length=64):∀s∈kF l p,s.length=64:=by
 unfold kF;split
 ·intro s hs;rcases ara hs with hs|rfl
  ·exact h s hs
  ·exact hp
 ·exact h
theorem ar8:∀(w:List uZ) {l:List Bs},(∀s∈l,s.length=64)→(∀p∈w,p.b.length=64)→∀s∈w.foldl kF l,s.length=64
 |[],_,h,_=>h
 |p::w,_,h,hw=>ar8 w (asz h (hw p (apV ..))) fun q hq=>hw q (amI _ hq)
theorem D64.flush {d:ay} (h:D64 d):D64 d.flush.1:=by
 unfold ay.flush;split
 ·exact h
 ·exact⟨ar8 d.wait h.1 h.2,fun p hp=>by cases hp⟩
theorem D64.writes:∀(l:List aV) {d:ay} (i:Int),D64 d→D64 (dN d i l).1
 |[],d,i,h=>by unfold dN;exact h.flush
 |x::l,d,i,h=>by
  unfold dN;split
  ·exact D64.writes l (i+1) (h.write i (eR x))
  ·exact h.write i (eR x)
theorem D64.ar9 {d:ay} (h:D64 d) (s:xn):D64 (jr d s).1:=by
 unfold jr;split
 ·exact(h.write _ _).flush
 ·exact h.write _ _
theorem asa {st v:aW} {gen:Int} {p:List aV×List ag} (h:D64 v.d):D64 (kL st v gen p).1.d:=by
 have I:=h.writes p.1 (bO v.aU+v.pos);have J:=I.writes [gh gen v.next v.id p.2] (bO v.aU+v.pos+p.1.length);unfold kL;simp only;split
 ·exact I
 ·split
  ·exact J
  ·exact J
theorem arZ {v:aW} (h:D64 v.d) (lo hi:Int):D64 (dz v lo hi).1.d:=by
 unfold dz;split
 ·exact h
 ·split
  ·exact h
  ·split
   ·exact h
   ·split
    ·exact h
    ·split
     ·exact h
     ·split
      ·unfold writeNew;split
       ·exact h
       ·rename_i aU JH;split
        ·exact h
        ·split
         ·exact h
         ·rename_i p2 tZ;split
          ·exact h
          ·have hs:=h.ar9 ⟨v.n+1,v.seq,v.sum,aU,0⟩;simp only;split
           ·exact hs
           ·exact asa hs
      ·exact asa h
theorem ar0 {v x:aW} (h:D64 v.d) (hd:x.d=v.d):D64 (eU v x).1.d:=by
 have I:=arZ (v:=x) (by rw[hd];exact h) 0 0;unfold eU;simp only;split
 ·exact I
 ·split
  ·exact h
  ·exact I
theorem asA {v:aW} (h:D64 v.d):D64 (lW v).1.d:=by
 unfold lW;split
 ·exact h
 ·have:=ar0 (v:=v) (x:={v with trees:=fi v.trees ⟨⟨3,v.next,v.id*65536+v.next,0,0⟩,et v.trees⟩,next:=v.next+1}) h rfl;simp only;split<;>exact this
theorem asB {v:aW} (h:D64 v.d) (s:gk):D64 (iG v s).d:=by
 unfold iG;split
 ·exact ar0 h rfl
 ·split
  ·exact asA h
  ·split
   ·unfold pL;split
    ·exact h
    ·rename_i l hl;exact ar0 (x:={v with trees:=l}) h rfl
   ·split
    ·unfold pM;split
     ·exact h
     ·exact h
    ·unfold oh;split
     ·exact h
     ·rename_i s hs;have I:=arZ h (bO s) (bO s+64);simp only;split
      ·exact I
      ·split
       ·exact h
       ·exact I
theorem asC {v:aW} (h:D64 v.d) (s:gk):D64 (gK v s).d:=by
 unfold gK;split
 ·split<;>exact h
 ·split
  ·exact h
  ·exact asB h s
theorem asD (bi:Nat) (id:Int):D64 (vd bi id).1.d:=by
 have h0:D64 (iq bi id).d:=⟨fun s hs=>by
  rw[aq8 (show s∈List.replicate _ _ from hs)];(try rfl),fun p hp=>by cases hp⟩
 have J:=arZ h0 0 0;obtain⟨Y,hY⟩:∃Y,Y=(dz (iq bi id) 0 0).1:=⟨_,rfl⟩
 show D64 ({(dz (iq bi id) 0 0).1 with d:=(xC (dz (iq bi id) 0 0).1).1,n:=1}:aW).d;rw[←hY]at J⊢;exact J.ar9 ⟨1,Y.seq,Y.sum,Y.aU,Y.pos⟩
theorem asb {l:Bs}:∀(k n:Nat) {v:aW},D64 v.d→D64 (ti l k n v).d
 |0,_,_,h=>h
 |k+1,n,v,h=>by
  simp only[ti];split
  ·exact h
  ·exact asb k _ (asC h _)
theorem asE (l:Bs) (bi eP:Nat):D64 (om l bi eP).d:=by
 unfold om;exact asb eP 0 (asD _ _)
end Go.Ev
namespace Go.Ev
theorem asF {t:an} (h:bL t=true):t.length=9:=by
 unfold bL at h;split at h
 ·rename_i hc;exact hc.1
 ·cases h
theorem asG {l:List bH} {t:an} (h:fh l=some t):t.length=9:=by
 unfold fh at h;split at h
 ·cases h
 ·split at h
  ·rename_i hm;cases h;simp only[G7]at hm;exact asF hm.1
  ·cases h
theorem asH {d:ay} {p:ag} {x:jW} {l:List ag} (h:u4 d p=some (x,l)):x.ao.length≤336∧x.tree.length=9:=by
 have h0:=Ur h;unfold u4 at h;split at h
 ·cases h
 ·split at h
  ·cases h
  ·split at h
   ·cases h
   ·rename_i t ht;cases h;simp only[amv,apZ]at h0;exact⟨aqb (Nat.le_add_left _ _) h0,asG ht⟩
theorem asc {d:ay}:∀{l:List ag} {s s':oa},mZ d l s=some s'→(∀x∈s.trees,x.ao.length≤336∧x.tree.length=9)→∀x∈s'.trees,x.ao.length≤336∧x.tree.length=9
 |[],s,s',h,hs=>by cases h;exact hs
 |p::r,s,s',h,hs=>by
  simp only[mZ]at h;split at h
  ·cases h
  ·rename_i x l hx;refine asc h fun y hy=>?_;rcases aqh.1 hy with hy|hy
   ·exact hs y hy
   ·rw[aqj.1 hy];exact asH hx
theorem asI {d:ay} {sum:Int} {s:oa} (h:look d sum=some s):∀x∈s.trees,x.ao.length≤336∧x.tree.length=9:=by
 unfold look at h;split at h
 ·cases h
 ·split at h
  ·cases h
  ·exact asc h fun x hx=>by cases hx
theorem ar1 (d:ay) (sum:Int):(fS d sum).isSome=(look d sum).isSome∧((fS d sum).getD tl).next=((look d sum).getD Uv).next∧((fS d sum).getD tl).id=((look d sum).getD Uv).id∧((fS d sum).getD tl).trees=((look d sum).getD Uv).trees∧((look d sum).getD Uv).trees.length≤7∧∀x∈((look d sum).getD Uv).trees,x.ao.length≤336∧x.tree.length=9:=by
 have h:=aml d sum;cases hl:look d sum with
 |none=>rw[hl]at h;simp only at h;rw[h];exact⟨rfl,rfl,rfl,rfl,amu _,fun x hx=>by cases hx⟩
 |some s=>
  rw[hl]at h;obtain⟨y,I,J,h3,h4,_⟩:=h;rw[I];exact⟨rfl,J.symm,h3.symm,h4.symm,(Ut hl).2,asI hl⟩
theorem asJ {d:ay} {a g:Int} {x:aV} (h:b7 d a g=some x):(d.read a).2=true:=by
 unfold b7 at h;split at h
 ·assumption
 ·cases h
theorem asK {d:ay} {i:Int} (h:(d.read i).2=true):0≤i∧i<(d.last.length:Int):=by
 unfold ay.read at h;split at h
 ·rename_i hh;unfold ay.has at hh;simp at hh;exact⟨hh.1.2,hh.2⟩
 ·cases h
theorem asL {d:ay} {sum:Int}:∀p∈(blocks d sum).getD [],0≤p.addr∧p.addr<(d.last.length:Int):=by
 have h:=aml d sum;intro p hp;unfold blocks at hp;cases hl:look d sum with
 |none=>rw[hl]at hp;cases hp
 |some s=>
  rw[hl]at h hp;obtain⟨y,_,_,_,_,h5,h6⟩:=h;obtain⟨x,hx,_⟩:=h6 p ((h5 p).1 (UH hp));exact asK (asJ hx)
end Go.Ev
set_option maxHeartbeats 8000000
namespace Go.Ev
variable{F:Nat→Option aN} {O:Fz}
theorem bh1:(look (om [] 4 0).d (om [] 4 0).sum).map (fun s=>(s.trees.length,s.next,s.id))=some (1,1,1):=by decide+kernel
theorem bh2:(blocks (om [] 4 0).d (om [] 4 0).sum).map List.length=some 4:=by decide+kernel
theorem bh3:(look (om [] 4 0).d 0).isSome=false:=by decide+kernel
theorem arC.mono {O ψ:Fz} {cs:List V} {y:xH} (h:arC O cs y) (ac:O.Le ψ):arC ψ cs y:=
 let⟨v2,v3,v4,v5,n3,ql,qm,I,J,h3,h4,h5,h6,h7,h8⟩:=h
 ⟨v2,v3,v4,v5,n3,ql,qm,I,J.mono ac,h3.mono ac,h4.mono ac,h5.mono ac,h6.mono ac,h7.mono ac,h8.mono ac⟩
theorem asM (hr:F 223=some (.c7 ji)) (hs:F 37=some (.c7 (nh 38))) [Fx F] {cs ds:List V} {y:xH} {s:oa} (ha:arC O cs y) (hb:tc O ds s) (hn:y.next=s.next) (hi:y.id=s.id) (ht:y.trees=s.trees) (hl:s.trees.length≤7) (hz:∀x∈s.trees,x.ao.length≤336∧x.tree.length=9):bk F 12 [.agg cs,.agg ds] O (.bool true):=by
 obtain⟨v2,v3,v4,v5,n3,ql,qm,rfl,k2,k3,tM,k4,anO,k5,Er⟩:=ha;have tA:tc O [.j y.next,.j y.id,v2,v3,v4,v5,.no .sl] ⟨y.next,y.id,y.trees,[]⟩:=⟨v2,v3,v4,v5,.no .sl,n3,ql,qm,rfl,k2,k3,tM,k4,anO,k5,Er,aa.nil _⟩
 have jX:=asy (F:=F) tA hb hn hi ht (by show y.trees.length≤_;rw[ht];omega) (fun x hx=>by
  have:=hz x (by rw[←ht];exact hx);exact⟨by omega,by omega⟩)
 have:=k2.av;have:=k3.av;have:=k4.av;have:=k5.av;obtain⟨w2,I8,I9,Ja,Jb,Yw,aaw,Id,rfl,q2,q3,aqZ,Dr,aq0,HA,aq1,q6⟩:=hb;have:=q2.av;have:=q3.av;have:=Dr.av;have:=HA.av;have:=q6.av;refine ai.ak (au ?_);refine S.box fun a2=>?_;refine S.box fun a3=>?_;refine S.ld 1 ?_;refine S.ld 1 ?_;refine S.ld 1 ?_;refine S.ld 1 ?_;refine S.ld 1 ?_;refine S.ld 1 ?_;refine S.build ?_;refine S.af 0 ?_;refine S.ak jX ?_;refine⟨_,.t rfl .nil,.done ?_⟩;rfl
theorem asN (hr:F 223=some (.c7 ji)) (hs:F 37=some (.c7 (nh 38))) [Fx F]:bk F 5 [] O (.bool true):=by
 refine ai.ak (au ?_);refine S.call (Vm rfl) fun DI Ax Ik vI fo=>?_;obtain⟨rfl,g5,rfl,rfl⟩:=fo;refine S.bb 0 rfl (Vv (bi:=4) (eP:=0) (aa.nil _) (by simp) (by omega) (by omega) (by omega)) fun um sq wD o9 c3=>?_;obtain⟨cs,n27,rfl,hv,rfl⟩:=c3;refine S.drop 0 ?_;have iP:=Vu [] (bi:=4) 0 (by omega);have I:=bh1;have J:=bh2;have h3:=bh3;obtain⟨v,KF⟩:∃v,v=om [] 4 0:=⟨_,rfl⟩
 rw[←KF]at hv iP I J h3;obtain⟨lv,wv,tv,rfl,Dw,yC,PS,KG,KH,KI,gw⟩:=hv.open;have dP:=iP.wait;obtain⟨X,hX,I⟩:=aqp.1 I;obtain⟨B,tO,J⟩:=aqp.1 J;simp only[apW]at I;obtain⟨t1,t2,t3⟩:=I;obtain⟨e0,e1,e2,e3,_⟩:=ar1 v.d v.sum;obtain⟨f0,_⟩:=ar1 v.d 0;rw[hX]at e0 e1 e2 e3;rw[h3]at f0;simp only[Option.isSome_some,aqD]at e0 e1 e2 e3;rw[t2]at e1;rw[t3]at e2;refine S.alloc fun bs=>?_;refine S.store (v:=.agg (be lv wv tv v)) 0 ?_ (hs:=cT KG KH KI);refine S.af 0 ?_ (l:=[lv,wv,.j v.d.arm,.bool v.d.down]);refine S.ld 0 ?_;refine S.call (arY hr (sum:=v.sum) gw (by omega)) fun rM qd x7 oR dR=>?_;obtain⟨rfl,asW,rfl,tA⟩:=dR;rw[e0];have gw:=gw.mono oR;obtain⟨v2,v3,v4,v5,n3,ql,qm,rfl,k2,k3,tM,k4,anO,k5,Er⟩:=tA;have:=k2.av;have:=k3.av;have:=k4.av;have:=k5.av;rw[e1,e2];have hn5:qm.length=1:=by have:=Er.1;rw[apZ,e3,t1]at this;exact this
 refine S.alloc fun a2=>?_;refine S.store 0 ?_;refine S.af 1 ?_ (l:=[lv,wv,.j v.d.arm,.bool v.d.down]);refine S.ld 1 ?_;refine S.call (ams hr hs (sum:=v.sum) gw (by omega)) fun Ea Bb Eb uc eB=>?_;obtain⟨rfl,pv,rfl,arj⟩:=eB;rw[tO]at arj⊢;simp only[Option.isSome_some,aqD]at arj⊢;have gw:=gw.mono uc;have k5:=k5.mono uc;refine S.af 1 ?_ (l:=[lv,wv,.j v.d.arm,.bool v.d.down]);refine S.call (arY hr (sum:=0) gw (by omega)) fun yb yc yd oT d6=>?_;obtain⟨rfl,apr,rfl,tA⟩:=d6;rw[f0];obtain⟨w2,I8,I9,Ja,Yw,aaw,Id,rfl,q2,q3,aqZ,Dr,aq0,HA,aq1⟩:=tA;have:=q2.av;have:=q3.av;have:=Dr.av;have:=HA.av;have k5:=k5.mono oT;have arj:=arj.mono oT;refine S.alloc fun cb=>?_;refine S.store 0 ?_;refine G.aE ?_;refine G.ld 1 ?_;refine G.len ?_ (hl:=aa.len k5);rw[hn5];refine G.bin ?_;refine G.and ?_;refine G.aE ?_;refine G.ld 1 ?_;refine G.bin ?_;refine G.and ?_;refine G.aE ?_;refine G.ld 1 ?_;refine G.bin ?_;refine G.and ?_;refine G.mv ?_;refine G.and ?_;refine G.mv ?_;refine G.len ?_ (hl:=aa.len arj);rw[J];refine G.bin ?_;refine G.and ?_;refine G.mv ?_;refine G.un ?_;refine G.and ?_;exact⟨_,.t rfl .nil,.none rfl⟩
theorem asO {q:cV} (a b:Int):∃c:UInt8,cg .xor q (.int .u8 a) (.int .u8 b)=some (c5 c):=by
 refine⟨UInt8.ofNat ((IntKind.wrap .u8 ((BitVec.ofInt (IntKind.bits .u8) a^^^BitVec.ofInt (IntKind.bits .u8) b).toNat:Int)).toNat),?_⟩;show some (V.int .u8 (IntKind.wrap .u8 _))=_;unfold c5;congr 2;simp[IntKind.wrap,IntKind.bits,IntKind.signed];omega
theorem asP {q:cV} {x:Nat}:cg .rem q (.int .u8 (x:Int)) (.int .u8 4)=some (.int .u8 ((x%4:Nat):Int)):=by
 show some (V.int .u8 ((x:Int).tmod 4))=_;rw[arU (by omega)];(try rfl)
theorem asQ {q:cV} {x:Nat} (hx:x<256):cg .quo q (.int .u8 (x:Int)) (.int .u8 4)=some (.int .u8 ((x/4:Nat):Int)):=by
 show some (V.int .u8 (e6 .u8 ((x:Int).tdiv 4)))=_;rw[Int.tdiv_eq_ediv_of_nonneg (by omega)];congr 2;exact F4 .u8 (show x/4≤255 by omega)
theorem asR (d:ay) (y:Int):((blocks d y).getD []).length≤2360:=by
 cases h:blocks d y with
 |none=>exact amu _
 |some l=>exact GD h
theorem ar2 {q:cV} {x m:Nat} (hx:x<256) (hm:0<m):cg .rem q (.j (x:Int)) (.j (m:Int))=some (.j ((x%m:Nat):Int)):=by
 rw[Vl (by omega) (by omega) (by omega)];(try rfl)
theorem asS (hr:F 223=some (.c7 ji)) (hs:F 37=some (.c7 (nh 38))) [Fx F] {pv:V} {l:Bs} (hl:aa aQ O pv l) {t h b:Nat} {a:Int} (ht:t<256) (hh:h<256) (hb:b<256):
 SW F ⟨⟨3,201,false,none⟩,fun _=>True⟩ B.ah5.den [(0,pv),(1,.int .u8 (t:Int)),(2,.int .u8 (h:Int)),(3,.int .u8 (b:Int)),(4,.j a)] O [] (sU [(pa 10,none)] (fun u _ _=>u=.bool true) never):=by
 show SW F _ B.ah5.den [(0,pv),(1,.int .u8 (t:Int)),(2,.int .u8 (h:Int)),(3,.int .u8 (b:Int)),(4,.j a)] O [] _;refine SC.w ?_;refine S.ak (asN hr hs) ?_;refine S.un ?_;refine C.B (fun qf=>?_) fun qf=>?_
 ·cases qf
 ·refine S.len ?_ (hl:=aa.len hl);refine S.bin ?_;refine C.D (fun mu=>?_) fun mu=>?_
  ·exact⟨_,.t rfl .nil,.none rfl⟩
  ·refine S.call (Vm hl.av) fun DI Ax Ik vI fo=>?_;obtain⟨fo,g5,rfl,rfl⟩:=fo;have fo:=fo.symm;subst fo;refine S.bb 0 rfl (Vv (bi:=4) (eP:=30) hl (by omega) (by omega) (by omega) (by omega)) fun um sq wD o9 c3=>?_;obtain⟨cs,n27,rfl,hv,rfl⟩:=c3;refine S.drop 0 ?_;have iP:=Vu l (bi:=4) 30 (by omega);have hL:=WT l (bi:=4) 30 (by omega);have h64:=asE l 4 30;obtain⟨v,KF⟩:∃v,v=om l 4 30:=⟨_,rfl⟩
   rw[←KF]at hv iP hL h64;obtain⟨lv,wv,tv,rfl,Dw,yC,PS,KG,KH,KI,gw⟩:=hv.open;have dP:=iP.wait;refine S.alloc fun gR=>?_;refine S.store (v:=.agg (be lv wv tv v)) 0 ?_ (hs:=cT KG KH KI);refine S.af 0 ?_ (l:=[lv,wv,.j v.d.arm,.bool v.d.down]);refine S.alloc fun ez=>?_;refine S.store (v:=.agg [lv,wv,.j v.d.arm,.bool v.d.down]) 0 ?_;refine S.a8 fun a39=>?_;have o39:ae ec (.sl a39 0 0 (.ex 0)) [] (some a39):=ae.new rfl;refine S.ld 2 ?_;refine S.bu 0 o39 (.f Dw) (by simp;omega) fun Qk s43 o43=>?_;rw[aqa]at o43⊢;have asf:=o43.av;refine S.store 1 ?_ (hs:=by rw[jm o43.av];simp[aY,o43.av]) (cI:=by rw[jm o43.av];(try rfl)) (hl:=by rw[jm o43.av];(try rfl));refine S.af 2 ?_ (l:=[lv,wv,.j v.d.arm,.bool v.d.down]);refine S.ld 2 ?_;refine S.call (MG (sum:=v.sum) gw (by omega)) fun v50 D3 It t7 oV=>?_;obtain⟨rfl,aaf,rfl,mH⟩:=oV;have gc:=asL (d:=v.d) (sum:=v.sum);obtain⟨L,XR⟩:∃L,L=(blocks v.d v.sum).getD []:=⟨_,rfl⟩
   rw[←XR]at mH gc;have Dw:=Dw.mono t7;have yC:=yC.mono t7;have gw:=gw.mono t7;refine S.len ?_ (hl:=aa.len mH);refine S.bin ?_;refine SW.xk (fun E ψ R=>∃u:List Bs,D3=ψ∧R=[ec.ob s43 u,(some ez,.cells [Qk,wv,.j v.d.arm,.bool v.d.down] false),(some gR,.cells (be lv wv tv v) false)]∧ae ec Qk u s43∧Sub [(1,.int .u8 (t:Int)),(4,.j a),(11,.ptr gR 0),(12,.ptr ez 0)] E) ?_ ?_
   ·refine C.D (fun vW=>?_) fun vW=>?_
    ·refine S.qV ?_;rw[wrap64 (by omega)];refine S.len ?_ (hl:=aa.len mH);refine S.bin ?_ (hv:=ar2 ht (by omega));have hj:t%L.length<L.length:=Nat.mod_lt _ (by omega);refine S.aF mH hj fun p62 e62=>?_;have JG:=gc _ (W1 hj);obtain⟨p,hp⟩:∃p,p=L[t%L.length]:=⟨_,rfl⟩
     rw[←hp]at e62 JG;obtain⟨k,hk⟩:∃k:Nat,p.addr=(k:Int):=⟨p.addr.toNat,by omega⟩
     have nB:k<v.d.last.length:=by omega
     have h6:(v.d.last[k]).length=64:=h64.1 _ (W1 nB);refine S.bP ?_ (l:=[.j (k:Int),.j p.gen]) (hl:=by rw[←hk];(try rfl));refine S.alloc fun r6=>?_;refine S.store 0 ?_;refine S.ld 2 ?_;refine S.ld 0 ?_;refine S.cX o43 nB fun a68 AQ=>?_;subst AQ;refine S.fM 0 1 ?_;refine S.aio fun a70 o70=>?_;refine S.bin ?_ (hv:=asP);refine S.bin ?_;refine SW.xk (fun E ψ R=>∃(bC:V) (bQ:Bs) (s:Option Pa),D3=ψ∧R=[aQ.ob s bQ,(some r6,.cells [.j (k:Int),.j p.gen] false),ec.ob (some a68) v.d.last,(some ez,.cells [Qk,wv,.j v.d.arm,.bool v.d.down] false),(some gR,.cells (be lv wv tv v) false)]∧ae aQ bC bQ s∧Sub [(1,.int .u8 (t:Int)),(4,.j a),(11,.ptr gR 0),(12,.ptr ez 0),(15,.ptr r6 0),(16,bC)] E) ?_ ?_
     ·refine C.B (fun Kr=>?_) fun Kr=>?_
      ·refine S.bin ?_ (hv:=asQ hh);refine S.qV ?_;rw[wrap64 (by omega)];refine S.len ?_ (hl:=ae.len o70);refine S.bin ?_ (hv:=ar2 (by omega) (by omega));have o3:h/4%(v.d.last[k]).length<(v.d.last[k]).length:=Nat.mod_lt _ (by omega);refine S.cX o70 o3 fun a82 h82=>?_;cases h82;refine S.fM 0 0 ?_;obtain⟨c,hc⟩:=asO (q:=.flat .i) (((v.d.last[k])[h/4%(v.d.last[k]).length]).toNat:Int) (b:Int);refine S.bin ?_ (v:=c5 c) (hv:=hc);refine S.cX o70 o3 fun qg h86=>?_;cases h86;refine S.pE c 0 ?_;refine .done ⟨_,_,some a70,rfl,rfl,o70.set _ c,.r rfl⟩
      ·refine S.bin ?_;refine C.B (fun A1=>?_) fun A1=>?_
       ·refine S.u0 (e:=aQ) (0:UInt8) (n:=64) (by omega) (by omega) fun a89 o89=>?_;refine .drop 1 (.done ⟨_,_,some a89,rfl,rfl,o89,.r rfl⟩)
       ·refine S.bin ?_;refine C.B (fun YA=>?_) fun YA=>?_
        ·refine S.ld 4 ?_;refine S.qV ?_;rw[wrap64 (by omega)];refine S.len ?_ (hl:=aa.len mH);refine S.bin ?_ (hv:=ar2 hb (by omega));have hj3:b%L.length<L.length:=Nat.mod_lt _ (by omega);refine S.aF mH hj3 fun Zy IG=>?_;have AK:=gc _ (W1 hj3);obtain⟨r,hr⟩:∃r,r=L[b%L.length]:=⟨_,rfl⟩
         rw[←hr]at IG AK;obtain⟨k3,hk3⟩:∃k3:Nat,r.addr=(k3:Int):=⟨r.addr.toNat,by omega⟩
         have asg:k3<v.d.last.length:=by omega
         refine S.bl IG fun ann Zk=>?_;refine S.aX ?_ (u:=.j (k3:Int)) (hu:=by rw[←hk3];(try rfl));refine S.aF Dw asg fun asX asY=>?_;refine S.aX ?_;refine S.aio fun ash PM=>?_;refine .drop 1 (.done ⟨_,_,some ash,rfl,rfl,PM,.r rfl⟩)
        ·refine .done ⟨_,_,some a70,rfl,rfl,o70,.r rfl⟩
     intro E ψ R ac hM;obtain⟨bC,bQ,s,rfl,rfl,ob,hE⟩:=hM;refine C.sub hE ?_;refine S.ld 3 ?_;refine S.ld 1 ?_;refine S.jS 0 ob ?_;refine S.cX o43 nB fun anw aaK=>?_;cases aaK;refine S.pE bQ 2 ?_;refine .drop 0 (.drop 0 (.done ⟨_,rfl,rfl,o43.set _ bQ,.r rfl⟩))
    ·refine .done ⟨_,rfl,rfl,o43,.r rfl⟩
   intro E ψ R ac hM;obtain⟨u,rfl,rfl,o43,hE⟩:=hM;refine C.sub hE ?_;refine S.af 2 ?_ (l:=[lv,wv,.j v.d.arm,.bool v.d.down]);refine S.af 1 ?_ (l:=[Qk,wv,.j v.d.arm,.bool v.d.down]);refine S.a8 fun a117=>?_;refine S.ct 1 o43 fun o4 la arS=>?_;obtain⟨arD,hDD⟩:∃arD,arD=[lv,wv,V.j v.d.arm,.bool v.d.down,Qk,wv,.j v.d.arm,.bool v.d.down]:=⟨_,rfl⟩
   rw[←hDD];have asi:OV (.sl a117 0 2 (.ex 2)) 4 2 arD (some a117):=⟨by rw[hDD];(try rfl),by rw[hDD];simp[aY,lH,mR, *],.inr (.inr ⟨_,rfl,rfl⟩)⟩
   refine S.bR 0 asi rfl fun Bm my f4=>?_;refine S.mv ?_;refine S.ld 1 ?_;refine S.qV ?_;rw[wrap64 (by omega)];refine S.bin ?_;refine S.a8 fun a124=>?_;have asj:ae bp (.sl a124 0 3 (.ex 3)) [v.sum,a,2+(t:Int)] (some a124):=ae.new rfl;refine S.ct 0 asj fun PJ lc aqv=>?_;have lx:=la.trans (my.trans lc);have Dw:=Dw.mono lx;have yC:=yC.mono lx;have gw:=gw.mono lx;have arS:=arS.mono (my.trans lc);have f4:=f4.mono lc;have hX:cP PJ [Qk,wv,.j v.d.arm,.bool v.d.down] ⟨u,v.d.wait,v.d.arm,v.d.down⟩:=⟨Qk,wv,rfl,arS,yC⟩
   have abs:∀i<2,∃(lv' wv':V) (d:ay),(arD.drop (i*4)).take 4=[lv',wv',.j d.arm,.bool d.down]∧cP PJ [lv',wv',.j d.arm,.bool d.down] d∧isScalar lv'=true∧isScalar wv'=true∧d.wait.length≤1000000:=by
    intro i hi;obtain rfl|rfl:i=0∨i=1:=by omega
    ·exact⟨lv,wv,v.d,by rw[hDD];(try rfl),gw,KG,KH,by omega⟩
    ·exact⟨Qk,wv,⟨u,v.d.wait,v.d.arm,v.d.down⟩,by rw[hDD];(try rfl),hX,asf,KH,by show v.d.wait.length≤_;omega⟩
   refine S.mv ?_;refine SW.bG (fun m E ψ R=>∃i:Nat,i+m=2∧PJ.Le ψ∧R=[(some ez,.cells [Qk,wv,.j v.d.arm,.bool v.d.down] false),(some gR,.cells (be lv wv tv v) false)]∧Sub [(17,.sl a117 0 2 (.ex 2)),(18,.sl a124 0 3 (.ex 3)),(19,.j (i:Int))] E) (m:=2) (.done ⟨0,by omega,.refl _,rfl,.r rfl⟩) ?_;intro m1 E ψ R ac hI;obtain⟨i,Bk,lq,rfl,hE⟩:=hI;refine C.sub hE ?_;refine S.bin ?_;refine C.D (fun D5=>?_) fun D5=>?_
   ·have hi:i<2:=by omega
    refine SW.bG (fun m E ψ R=>∃k:Nat,k+m=3∧PJ.Le ψ∧R=[(some ez,.cells [Qk,wv,.j v.d.arm,.bool v.d.down] false),(some gR,.cells (be lv wv tv v) false)]∧Sub [(17,.sl a117 0 2 (.ex 2)),(18,.sl a124 0 3 (.ex 3)),(19,.j (i:Int)),(20,.j (k:Int))] E) (m:=3) (.done ⟨0,by omega,lq,rfl,.r rfl⟩) ?_;intro Yw E ψ R ac hI;obtain⟨k,DU,yq,rfl,hE⟩:=hI;refine C.sub hE ?_;refine S.bin ?_;refine C.D (fun D1=>?_) fun D1=>?_
    ·have hk:k<([v.sum,a,2+(t:Int)]:List Int).length:=by show k<3;omega
     obtain⟨y,hy⟩:∃y,y=([v.sum,a,2+(t:Int)]:List Int)[k]:=⟨_,rfl⟩
     obtain⟨lv',wv',d,tr,hd,sl',sw',hwl⟩:=abs i hi;have hd:=hd.mono yq;have f4:=(f4:FS PJ _ _ _ _).mono yq;have aqv:=(aqv:aa bp PJ _ _).mono yq;refine S.afb f4 hi fun asZ ask=>?_;rw[tr]at ask;refine S.bP ?_ (l:=[lv',wv',.j d.arm,.bool d.down]);refine S.aF aqv hk fun as0 asl=>?_;rw[←hy]at asl;refine S.aX ?_;refine S.alloc fun a21=>?_;refine S.call (arY hr (sum:=y) hd hwl) fun as1 as2 as3 arE asm=>?_;obtain⟨rfl,as4,rfl,hS1⟩:=asm;have hd:=hd.mono arE;have f4:=f4.mono arE;have aqv:=aqv.mono arE;obtain⟨e0,e1,e2,e3,AF,aoy⟩:=ar1 d y;rw[e0];have hS2:=hS1;obtain⟨p2,HC,apP,as5,n3,ql,qm,rfl,k2,k3,tM,k4,anO,k5,Er⟩:=hS2;have:=k2.av;have:=k3.av;have:=k4.av;have:=k5.av;refine S.jq 0 ?_;refine S.store 0 ?_;refine S.afb f4 hi fun as6 asn=>?_;rw[tr]at asn;refine S.bP ?_ (l:=[lv',wv',.j d.arm,.bool d.down]);refine S.aF aqv hk fun as7 aso=>?_;rw[←hy]at aso;refine S.aX ?_;refine S.alloc fun Bh=>?_;refine S.call (UC (sum:=y) hd hwl) fun v154 as8 as9 ark asp=>?_;obtain⟨rfl,ata,rfl,hS2⟩:=asp;have hd:=hd.mono ark;have f4:=f4.mono ark;have aqv:=aqv.mono ark;have hS1:=hS1.mono ark;have hS3:=hS2;obtain⟨q2,q3,Dr,HA,q6,f7,g0,f9,rfl,g2,l8,aqZ,A4,aq0,A5,aq1,IF⟩:=hS3;have:=g2.av;have:=l8.av;have:=A4.av;have:=A5.av;have:=IF.av;refine S.jq 0 ?_;refine S.store 0 ?_;refine S.afb f4 hi fun atb asq=>?_;rw[tr]at asq;refine S.bP ?_ (l:=[lv',wv',.j d.arm,.bool d.down]);refine S.aF aqv hk fun atc asr=>?_;rw[←hy]at asr;refine S.aX ?_;refine S.call (ams hr hs (sum:=y) hd hwl) fun atd ate atf aq7 ass=>?_;obtain⟨rfl,DA,rfl,f1⟩:=ass;have hd:=hd.mono aq7;have f4:=f4.mono aq7;have aqv:=aqv.mono aq7;have hS1:=hS1.mono aq7;have hS2:=hS2.mono aq7;refine S.afb f4 hi fun atg ast=>?_;rw[tr]at ast;refine S.bP ?_ (l:=[lv',wv',.j d.arm,.bool d.down]);refine S.aF aqv hk fun aol aom=>?_;rw[←hy]at aom;refine S.aX ?_;refine S.call (MG (sum:=y) hd hwl) fun ath ati atj arF asu=>?_;obtain⟨rfl,x2,rfl,f8⟩:=asu;have hS1:=hS1.mono arF;have hS2:=hS2.mono arF;have f1:=f1.mono arF;refine S.bin ?_ (hv:=Wk);refine G.af 1 ?_;refine G.af 0 ?_;refine G.ak (fun _=>asM hr hs hS1 hS2 e1 e2 e3 AF aoy) ?_;refine G.un ?_;refine G.or ?_;refine G.mv ?_;refine G.mv ?_;refine G.bin ?_ (hv:=fun _=>Wk);refine G.or ?_;refine G.mv ?_;refine G.mv ?_;refine G.ak (fun _=>ajp f1 f8 (by have:=asR d y;omega)) ?_;refine G.un ?_;refine G.or ?_;refine C.B (fun ar7=>?_) fun ar7=>?_
     ·simp at ar7
     ·refine S.bin ?_;exact⟨Yw-1,by omega,.drop 0 (.drop 0 (.done ⟨k+1,by omega,yq.trans (arE.trans (ark.trans (aq7.trans arF))),rfl,.r rfl⟩))⟩
    ·refine S.bin ?_;exact⟨m1-1,by omega,.done ⟨i+1,by omega,yq,rfl,.r rfl⟩⟩
   ·exact⟨_,.t rfl .nil,.none rfl⟩
end Go.Ev
