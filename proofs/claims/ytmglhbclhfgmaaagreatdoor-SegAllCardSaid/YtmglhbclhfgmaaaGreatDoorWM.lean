/- A part of the proof of SegAll (made short by a program). -/
import Derived.Test.YtmglhbclhfgmaaaGreatDoorWL
import Derived.Shelf.SlSortCmp.WholeK
namespace Go.Ev
open Go Go.Sort Go.Proofs
def l5 (x y:ag):Int:=if x.addr<y.addr then-1 else if x.addr>y.addr then 1 else if x.gen<y.gen then-1 else if x.gen>y.gen then 1 else 0
def gr (x y:ag):Bool:=decide (x.addr<y.addr)||(decide (x.addr=y.addr)&&decide (x.gen≤y.gen))
def xK (p:ag):List ag→List ag
 |[]=>[p]
 |a::l=>if gr p a then p::a::l else a::xK p l
def hV:List ag→List ag
 |[]=>[]
 |a::l=>xK a (hV l)
theorem Nu (p:ag):∀l,(xK p l).Perm (p::l)
 |[]=>.refl _
 |a::l=>by
  unfold xK;split
  ·exact .refl _
  ·exact((Nu p l).cons a).trans (.swap p a l)
theorem G5:∀l,(hV l).Perm l
 |[]=>.refl _
 |a::l=>(Nu a _).trans ((G5 l).cons a)
theorem rq {x y:ag}:gr x y=true↔x.addr<y.addr∨(x.addr=y.addr∧x.gen≤y.gen):=by unfold gr;simp
theorem al4 (x y:ag):gr x y=true∨gr y x=true:=by rw[rq,rq];omega
theorem al5 {x y z:ag} (h:gr x y=true) (k:gr y z=true):gr x z=true:=by rw[rq]at*;omega
theorem Wp {x y:ag} (h:gr x y=true) (k:gr y x=true):x=y:=by
 rw[rq]at*;have I:x.addr=y.addr:=by omega
 have J:x.gen=y.gen:=by omega
 cases x;cases y;simp_all
theorem Wq (p:ag):∀{l:List ag},l.Pairwise (fun a b=>gr a b=true)→(xK p l).Pairwise (fun a b=>gr a b=true)
 |[],_=>by simp[xK]
 |a::l,h=>by
  rw[List.pairwise_cons]at h;unfold xK;split
  ·rename_i hp;rw[List.pairwise_cons,List.pairwise_cons];refine⟨fun b hb=>?_,h⟩;rcases List.mem_cons.1 hb with rfl|hb
   ·exact hp
   ·exact al5 hp (h.1 b hb)
  ·rename_i hp;rw[List.pairwise_cons];refine⟨fun b hb=>?_,Wq p h.2⟩;rcases List.mem_cons.1 ((Nu p l).mem_iff.1 hb)with rfl|hb
   ·exact(al4 a b).resolve_right hp
   ·exact h.1 b hb
theorem Nv:∀l,(hV l).Pairwise (fun a b=>gr a b=true)
 |[]=>.nil
 |a::l=>Wq a (Nv l)
theorem Wr:∀{l m:List ag},l.Perm m→l.Pairwise (fun a b=>gr a b=true)→m.Pairwise (fun a b=>gr a b=true)→l=m
 |[],m,h,_,_=>by rw[h.nil_eq]
 |a::l,[],h,_,_=>by have:=h.length_eq;simp at this
 |a::l,b::m,h,I,J=>by
  have jA:a=b:=by
   rcases List.mem_cons.1 (h.mem_iff.1 (List.mem_cons_self:a∈a::l))with e|e
   ·exact e
   ·rcases List.mem_cons.1 (h.mem_iff.2 (List.mem_cons_self:b∈b::m))with e2|e2
    ·exact e2.symm
    ·exact Wp ((List.pairwise_cons.1 I).1 b e2) ((List.pairwise_cons.1 J).1 a e)
  subst jA;rw[Wr ((List.perm_cons a).1 h) (List.pairwise_cons.1 I).2 (List.pairwise_cons.1 J).2]
theorem Dm (l:List ag):(hV l).length=l.length:=(G5 l).length_eq
instance:Inhabited ag:=⟨⟨0,0⟩⟩
theorem Ws (x y:ag):ltOf l5 x y=true↔gr y x=false:=by
 unfold ltOf;rw[decide_eq_true_eq,Bool.eq_false_iff,Ne,rq];unfold l5;split<;>(try split)<;>(try split)<;>(try split)<;>omega
theorem Nw (x y:ag):ltOf l5 x y=false↔gr y x=true:=by
 have:=Ws x y;cases I:ltOf l5 x y<;>cases J:gr y x<;>simp_all
theorem al6:SWO (ltOf l5)where
 irrefl x:=by rw[Nw,rq];omega
 trans x y z h k:=by rw[Ws,Bool.eq_false_iff,Ne,rq]at*;omega
 ntrans x y z h k:=by rw[Nw,rq]at*;omega
def eG (p:ag):List Value:=[.int .i64 p.addr,.int .i64 p.gen]
def rr:List V→Option (List ag)
 |[]=>some []
 |x::r=>match x with
  |.int k a=>match k with
   |.i64=>match r with
    |y::r'=>match y with
     |.int j b=>match j with
      |.i64=>(rr r').map (⟨a,b⟩::·)
      |_=>none
     |_=>none
    |[]=>none
   |_=>none
  |_=>none
theorem Wt:∀(n:Nat) {xs:List V} {l:List ag},xs.length≤n→rr xs=some l→xs=aq.fl l
 |_,[],l,_,h=>by simp only[rr,Option.some.injEq]at h;subst h;rfl
 |0,x::r,l,hn,_=>by simp at hn
 |n+1,x::r,l,hn,h=>by
  unfold rr at h;cases x<;>simp only at h<;>(try(cases h;done))
  rename_i k a;cases k<;>simp only at h<;>(try(cases h;done))
  cases r with
  |nil=>cases h
  |cons y r'=>
   simp only at h;cases y<;>simp only at h<;>(try(cases h;done))
   rename_i j b;cases j<;>simp only at h<;>(try(cases h;done))
   cases hr:rr r' with
   |none=>rw[hr]at h;cases h
   |some l'=>
    rw[hr]at h;simp only[Option.map_some,Option.some.injEq]at h;subst h;rw[Wt n (by simp at hn;omega) hr];(try rfl)
theorem Wu:∀l:List ag,rr (aq.fl l)=some l
 |[]=>rfl
 |⟨a,b⟩::l=>by
  show(rr (aq.fl l)).map (⟨a,b⟩::·)=_;rw[Wu l];(try rfl)
noncomputable def nh (cmp:Nat):List V→Hp→Option (V×Hp):=fun args h=>match args with
 |[x,y]=>match y with
  |.fn g bf=>match bf with
   |[]=>bif Nat.beq g cmp then match x with
    |.sl a o n _=>bif Nat.ble n 1000000000 then match h.get a with
     |some b=>match b with
      |.cells _ d=>bif d then none else match n with
       |0=>none
       |_+1=>match h.cl a o (n*2)with
        |some xs=>match rr xs with
         |some l=>match h.db a o (aq.fl (hV l))with
          |some h'=>some (.aM [],h')
          |none=>none
         |none=>none
        |none=>none
      |_=>none
     |none=>none else none
    |.no k=>match k with
     |.sl=>some (.aM [],h)
     |_=>none
    |_=>none else none
   |_::_=>none
  |_=>none
 |_=>none
theorem Wv {U:AM}:∀{l:List ag} {cs:List Value},bd U (aq.fl l) cs→cs=l.flatMap eG
 |[],cs,h=>by cases h;rfl
 |p::l,cs,h=>by
  have J:bd U (.int .i64 p.addr::.int .i64 p.gen::aq.fl l) cs:=h;cases J with
  |cons _ fK _ r1 bs h3=>
   cases h3 with
   |cons _ jw _ r2 a2 h4=>
    cases bs;cases a2;rw[Wv h4];(try rfl)
theorem Ww {U:AM}:∀(l:List ag),bd U (aq.fl l) (l.flatMap eG)
 |[]=>.nil
 |_::l=>.cons _ _ _ _ (.int _ _) (.cons _ _ _ _ (.int _ _) (Ww l))
theorem Ny:∀(l:List ag) (t:Nat),t<l.length*2→(l.flatMap eG)[t]? =some ((eG (l.toArray)[t/2]!)[t%2]!)
 |[],t,h=>by simp at h
 |_::_,0,_=>by simp[eG]
 |_::_,1,_=>by simp[eG]
 |p::l,t+2,h=>by
  have ih:=Ny l t (by simp at h;omega);have e1:(t+2)/2=t/2+1:=by omega
  have e2:(t+2)%2=t%2:=by omega
  rw[e1,e2];show(eG p++l.flatMap eG)[t+2]? =_;rw[List.getElem?_append_right (by simp[eG])];have e3:t+2-(eG p).length=t:=by simp[eG]
  rw[e3,ih];simp
theorem Wx {C:Cx} {ls:List LE} {U:AM} {Λ:Pa→Prop} {h:Hp} {w:World} (s:aP C U Λ h ls w) {a:Pa} {L:Loc} {yU:List V} (ge:U a=some L) (hg:h.get a=some (.cells yU false)) {o n:Nat} {l l':List ag} (hn:n=l.length) (pV:l'.length=n) (hl:h.cl a o (n*2)=some (aq.fl l)) {h':Hp} (aj:h.db a o (aq.fl l')=some h') (m:Nat) (os:Array Obj) (d3:C.sd=false):
 HoldsK eG 2 w L.aw (L.base+o) l.toArray∧L.aw<w.heap.size∧aP C U Λ h' ls (sortWorldK eG 2 w L.aw (L.base+o) m l'.toArray os)∧h'.next=h.next:=by
 obtain⟨bn,yV,el,fr,ci,eq,f7,⟨g0,f9⟩,oF⟩:=s.aeQ ge hg;obtain⟨cs,fK,jw,pT⟩:=s.aeP ge hl;have tr:=Wv jw;have ap:L.aw<w.heap.size:=(Array.getElem?_eq_some_iff.1 ci).1;unfold bm.db at aj;rw[hg]at aj;simp only[cond_false]at aj;have iI:aY (aq.fl l')=true:=lI l';rw[iI]at aj;simp only[cond_true]at aj;cases cI:dk o yU (aq.fl l')with
 |none=>rw[cI]at aj;cases aj
 |some abX=>
 rw[cI]at aj;simp only[Option.some.injEq]at aj;subst aj;obtain⟨g1,g2⟩:=Ci cI;have E0:(aq.fl l').length=n*2:=by rw[iT,pV];(try rfl)
 rw[E0]at g1 g2;have bJ:L.base+o+n*2≤yV.size:=by omega
 refine⟨fun j hj=>?_,ap,?_,rfl⟩
 ·have o3:j<l.length*2:=by simpa using hj
  have I:=Ny l j o3;rw[←tr]at I;refine⟨?_,Sf ci f7 (by omega)⟩;rw[pT j _ I];show _=some (id _);rw[get_flatK _ _ _ _ (by simpa using o3)];(try rfl)
 ·
  obtain⟨cs',KA⟩:∃cs',cs'=putCells id (L.base+o) (flatK eG 2 l'.toArray) yV:=⟨_,rfl⟩
  have KB:cs'.size=yV.size:=by rw[KA];simp[putCells]
  have cw:(putRowK eG 2 (Sort.ahead w m) L.aw (L.base+o) l'.toArray).heap[L.aw]? =some (.cells cs' el fr):=by
   show(w.heap.modify L.aw _)[L.aw]? =_;rw[Array.getElem?_modify,if_pos rfl,ci];show some (onCells _ (.cells yV el fr))=_;rw[KA];(try rfl)
  have ht:iR w (putRowK eG 2 (Sort.ahead w m) L.aw (L.base+o) l'.toArray) L.aw:=by
   refine⟨?_,fun i hi=>?_,rfl,rfl,rfl,Nat.le_add_right _ _⟩
   ·show(w.heap.modify L.aw _).size=_;simp
   ·show(w.heap.modify L.aw _)[i]? =_;rw[Array.getElem?_modify,if_neg (Ne.symm hi)]
  have s2:=s.w5 ge bn hg rfl rfl ht (b':=.cells abX false) ⟨cs',el,fr,cw,by rw[KB];exact eq,by rw[KB];exact f7,⟨by rw[KB,g2];simp;omega,fun i v hv=>?_⟩,oF⟩
  ·exact s2.below d3 ⟨rfl,rfl,rfl,by show _≤(_++os).size;rw[Array.size_append];exact Nat.le_add_right _ _,fun k hk=>by
    show(_++os)[k]? =_;exact Array.getElem?_append_left hk⟩
  ·have hi:i<yU.length:=by
    have:=(List.getElem?_eq_some_iff.1 hv).1;rw[g2]at this;simp at this;omega
   rw[g2]at hv;have bE:cs'[L.base+i]? =if L.base+o≤L.base+i∧L.base+i<L.base+o+n*2 then some ((flatK eG 2 l'.toArray)[L.base+i-(L.base+o)]!)else yV[L.base+i]? :=by
    rw[KA];unfold putCells;rw[Array.getElem?_mapIdx];have hsf:(flatK eG 2 l'.toArray).size=n*2:=by rw[size_flatK];simp[pV]
    rw[hsf];have abY:L.base+i<yV.size:=by omega
    rw[Array.getElem?_eq_getElem abY];simp only[Option.map_some];split<;>rfl
   by_cases fj:i<o
   ·rw[List.append_assoc,List.getElem?_append_left (by simp;omega),List.getElem?_take_of_lt fj]at hv;rw[bE,if_neg (by omega)];exact f9 i v hv
   ·by_cases rN:i<o+n*2
    ·rw[List.append_assoc,List.getElem?_append_right (by simp;omega),List.getElem?_append_left (by simp[E0];omega)]at hv;have e1:i-(yU.take o).length=i-o:=by simp;omega
     rw[e1]at hv;obtain⟨c,k1,k2⟩:=(Ww (U:=U) l').get hv;rw[bE,if_pos (by omega)];refine⟨_,rfl,?_⟩;have e2:L.base+i-(L.base+o)=i-o:=by omega
     rw[e2,get_flatK _ _ _ _ (by simp[pV];omega)];rw[Ny l' _ (by omega)]at k1;cases k1;exact k2
    ·rw[List.getElem?_append_right (by simp[E0];omega),List.getElem?_drop]at hv;have e1:o+n*2+(i-(yU.take o++aq.fl l').length)=i:=by simp[E0];omega
     rw[e1]at hv;rw[bE,if_neg (by omega)];exact f9 i v hv
theorem al7 {d d':Array ag} (hp:PermIn 0 d.size d d') (hs:SortedIn (ltOf l5) 0 d.size d'):d'=(hV d.toList).toArray:=by
 obtain⟨I,_,h3⟩:=hp;have e1:(d'.extract 0 d.size).toList=d'.toList:=by rw[←I];simp
 have e2:(d.extract 0 d.size).toList=d.toList:=by simp
 rw[e1,e2]at h3;have abZ:d'.toList.Pairwise (fun a b=>gr a b=true):=by
  rw[List.pairwise_iff_getElem];intro i j hi hj dr;have:=hs i j (Nat.zero_le _) dr (by rw[←I];simpa using hj);rw[Nw]at this;have b8:i<d'.size:=by simpa using hi
  have d7:j<d'.size:=by simpa using hj
  rw[getElem!_pos d' i b8,getElem!_pos d' j d7]at this;simpa using this
 have:=Wr (h3.trans (G5 _).symm) abZ (Nv _);rw[←this]
theorem al8 {h:Hp} {a:Pa} {o n:Nat} {l:List V} (hl:h.cl a o n=some l):l.length=n:=by
 unfold bm.cl at hl;cases hc:h.cells a with
 |none=>simp[hc]at hl
 |some m=>
  simp only[hc,qI]at hl;obtain⟨I,J⟩:=w3 hl;rw[J,List.length_take];omega
theorem al9 {P:Program} {f g:Nat}
 (hc:∀(aw off cap:Nat) (d:Array ag) (w:World),HoldsK eG 2 w aw off d→aw<w.heap.size→d.size<4611686018427387904→
   Calls P f #[.slice (some ⟨aw,off,none⟩) d.size cap,.func (.func g) #[] #[]] w fun e w'=>e=.returned (.tuple #[])∧∃d' n os,PermIn 0 d.size d d'∧SortedIn (ltOf l5) 0 d.size d'∧w'=sortWorldK eG 2 w aw off n d' os)
 (Ah:∀w,Calls P f #[.slice none 0 0,.func (.func g) #[] #[]] w fun e w'=>e=.returned (.tuple #[])∧Kept w w'):zf P f (nh g):=by
 intro C U Λ h ls w args cE v h' jX d3 s ha hg;cases ha with
 |nil=>cases hg
 |cons x XX r HO hx hr=>
 cases hr with
 |nil=>cases hg
 |cons y XY r HO hy hr=>
 cases hr with
 |cons=>cases hg
 |nil=>
 simp only[nh]at hg;cases y<;>simp only at hg<;>(try(cases hg;done))
 rename_i ab0 bf;cases bf with
 |cons=>cases hg
 |nil=>
 simp only at hg;cases vF:Nat.beq ab0 g with
 |false=>rw[vF]at hg;cases hg
 |true=>
 have:=Nat.eq_of_beq_eq_true vF;subst this;rw[vF]at hg;simp only[cond_true]at hg;cases hy with
 |fn _ _ _ ab1=>
 cases ab1;cases x<;>simp only at hg<;>(try(cases hg;done))
 case no k=>
  cases k<;>simp only at hg<;>(try(cases hg;done))
  simp only[Option.some.injEq,Prod.mk.injEq]at hg;obtain⟨rfl,rfl⟩:=hg;cases hx;refine(Ah w).mono fun e w' hh=>?_;obtain⟨rfl,I,J,h3⟩:=hh;refine⟨_,U,Λ,rfl,AM.le_refl U,?_,.aM [] [] .nil,fun a I J=>absurd I J,Nat.le_refl _⟩
  exact{ia:=s.ia,aw:=fun a L ha bn=>let⟨b,h4,h5⟩:=s.aw a L ha bn;⟨b,h4,h5.mono (AM.le_refl U) (fun _ _ h=>h) (J _ (s.lt ha bn))⟩,
        inj:=s.inj,live:=s.live,wr:=s.wr,low:=fun i hi=>by rw[J i (Nat.lt_of_lt_of_le hi s.size)];exact s.low i hi,
        size:=Nat.le_trans s.size I,still:=s.still.RF d3 h3,fresh:=s.fresh,jj:=s.jj}
 case sl a o n c=>
  cases b0:Nat.ble n 1000000000 with
  |false=>rw[b0]at hg;cases hg
  |true=>
  have Hk:=Nat.le_of_ble_eq_true b0;rw[b0]at hg;simp only[cond_true]at hg;cases E3:h.get a with
  |none=>rw[E3]at hg;cases hg
  |some b=>
  rw[E3]at hg;simp only at hg;cases b<;>simp only at hg<;>(try(cases hg;done))
  rename_i yU fb;cases fb with
  |true=>simp only[cond_true]at hg;cases hg
  |false=>
  simp only[cond_false]at hg;cases n with
  |zero=>cases hg
  |succ n=>
  simp only at hg;cases hl:h.cl a o ((n+1)*2)with
  |none=>rw[hl]at hg;cases hg
  |some xs=>
  rw[hl]at hg;simp only at hg;cases hp:rr xs with
  |none=>rw[hp]at hg;cases hg
  |some l=>
  rw[hp]at hg;simp only at hg;cases aj:h.db a o (aq.fl (hV l))with
  |none=>rw[aj]at hg;cases hg
  |some J=>
  rw[aj]at hg;simp only[Option.some.injEq,Prod.mk.injEq]at hg;obtain⟨rfl,rfl⟩:=hg;have eV:=Wt xs.length (Nat.le_refl _) hp;subst eV;have h1:l.length=n+1:=by
   have I:=al8 hl;rw[iT]at I;have e:aq.k=2:=rfl;rw[e]at I;omega
  cases hx with
  |sl _ _ _ _ L capC ge hn bK=>
   obtain⟨t1,t2,_,_⟩:=Wx s ge E3 (n:=n+1) (l:=l) (l':=hV l) h1.symm (by rw[Dm,h1]) hl aj 0 #[] d3;have bJ:l.toArray.size=n+1:=by simpa using h1
   have:=hc L.aw (L.base+o) capC l.toArray w t1 t2 (by rw[bJ];omega);rw[bJ]at this;refine this.mono fun e w' hh=>?_;obtain⟨rfl,d',m,os,k1,k2,rfl⟩:=hh;rw[←bJ]at k1 k2;have hd:=al7 k1 k2;subst hd;obtain⟨_,_,t3,t4⟩:=Wx s ge E3 (n:=n+1) (l:=l) (l':=hV l) h1.symm (by rw[Dm,h1]) hl aj m os d3;exact⟨_,U,Λ,rfl,AM.le_refl U,t3,.aM [] [] .nil,fun a I J=>absurd I J,by rw[t4];exact Nat.le_refl _⟩
end Go.Ev
namespace Go.Ev
variable{F:Nat→Option aN} {O:Fz}
def tm (a b:Int):Int:=if a<b then-1 else if a>b then 1 else 0
def tn:List Int→Int
 |[]=>0
 |a::l=>if a≠0 then a else tn l
theorem ama (x y:ag):tn [tm x.addr y.addr,tm x.gen y.gen]=l5 x y:=by
 unfold tn tn tn tm l5;split<;>(try split)<;>(try split)<;>(try split)<;>(try split)<;>(try split)<;>omega
theorem Wy [Fx F] {a:Int}:bk F 66 [.j a] O (.bool false):=by
 refine ai.ak (au ?_);refine S.bin ?_;refine⟨_,.t rfl .nil,.done ?_⟩;show V.bool _=_;simp
theorem Wz [Fx F] {a b:Int}:bk F 40 [.j a,.j b] O (.j (tm a b)):=by
 refine ai.ak (au ?_);refine S.ak (Wy) ?_;refine S.ak (Wy) ?_;refine C.B (fun jE=>?_) fun jE=>?_
 ·cases jE
 ·refine C.B (fun eM=>?_) fun eM=>?_
  ·cases eM
  ·refine S.bin ?_;refine C.D (fun d9=>?_) fun d9=>?_
   ·exact⟨_,.t rfl .nil,.done (by unfold tm;rw[if_pos d9];(try rfl))⟩
   ·refine S.bin ?_;refine C.D (fun cG=>?_) fun cG=>?_
    ·exact⟨_,.t rfl .nil,.done (by unfold tm;rw[if_neg d9,if_pos cG];(try rfl))⟩
    ·exact⟨_,.t rfl .nil,.done (by unfold tm;rw[if_neg d9,if_neg cG];(try rfl))⟩
theorem amb [Fx F] {v:V} {l:List Int} (hl:aa bp O v l) (hlen:l.length≤1000000):bk F 39 [v] O (.j (tn l)):=by
 refine ai.ak (au ?_);refine S.len ?_ (hl:=aa.len hl);refine SW.loop (fun m E ψ R=>∃j:Nat,j+m=l.length∧tn l=tn (l.drop j)∧O=ψ∧R=[]∧Sub [(3,.j 0),(6,v),(7,.j (l.length:Int)),(8,.j (j:Int))] E) (m:=l.length) ⟨0,by omega,rfl,rfl,rfl,.r rfl⟩ ?_;intro m0 E ψ R ac hI;obtain⟨j,hm,ab,rfl,rfl,hE⟩:=hI;refine C.sub hE ?_;refine S.bin ?_;refine C.D (fun eN=>?_) fun eN=>?_
 ·have hj:j<l.length:=by omega
  rw[List.drop_eq_getElem_cons hj]at ab;simp only[tn]at ab;refine S.aF hl hj fun J6 J7=>?_;refine S.aX ?_;refine S.bin ?_;refine C.B (fun dG=>?_) fun dG=>?_
  ·rw[if_pos (by simpa using dG)]at ab;refine⟨_,.t rfl .nil,.done ?_⟩;rw[ab];(try rfl)
  ·rw[if_neg (by simpa using dG)]at ab;refine S.bin ?_;exact⟨m0-1,by omega,j+1,by omega,ab,rfl,rfl,.r rfl⟩
 ·obtain rfl:j=l.length:=by omega
  rw[List.drop_length]at ab;refine⟨_,.t rfl .nil,.done ?_⟩;rw[ab];(try rfl)
theorem amc [Fx F] (x y:ag):SW F ⟨⟨38,17,false,none⟩,fun _=>True⟩ B.CG.den [(0,.agg [.j x.addr,.j x.gen]),(1,.agg [.j y.addr,.j y.gen])] O [] (sU [(pa 4,none)] (fun u _ _=>u=.j (l5 x y)) never):=by
 show SW F _ B.CG.den [(0,.agg [.j x.addr,.j x.gen]),(1,.agg [.j y.addr,.j y.gen])] O [] _;refine SC.w ?_;refine S.box fun a2=>?_;refine S.box fun a3=>?_;refine S.ld 1 ?_;refine S.ld 0 ?_;refine S.ld 1 ?_;refine S.ld 0 ?_;refine S.ak (Wz) ?_;refine S.bF 0 ?_;refine S.bF 1 ?_;refine S.ak (Wz) ?_;refine S.a8 fun r6=>?_;have x8:ae bp (.sl r6 0 2 (.ex 2)) [tm x.addr y.addr,tm x.gen y.gen] (some r6):=ae.new rfl;refine S.ct 0 x8 fun qd oR dR=>?_;refine S.ak (amb dR (by simp)) ?_;rw[ama];exact⟨_,.t rfl .nil,.none rfl⟩
theorem amd (hs:F 37=some (.c7 (nh 38))) {v:V} {l:List ag} {s:Option Pa} (ho:ae aq v l s) (h0:l=[]→v=.no .sl) (hl:l.length≤1000000000):
 ai F 37 [v,.fn 38 []] O [aq.ob s l] (fun _ ψ R=>ψ=O∧R=[aq.ob s (hV l)]) never:=fun ad h sh=>by
 have hb:Nat.beq 38 38=true:=eQ _;cases l with
 |nil=>
  have:=h0 rfl;subst this;refine .inl ⟨.aM [],h,LZ hs ?_,O,[aq.ob s []],.refl O,sh,rfl,rfl⟩;simp only[nh,hb,cond_true]
 |cons p l=>
  have bx:∃a c,v=.sl a 0 (p::l).length c∧s=some a:=by
   rcases ho.2.2 with⟨_,I,_⟩|⟨a,rfl,J⟩|⟨a,rfl,J⟩
   ·simp at I
   ·exact⟨a,_,rfl,J⟩
   ·exact⟨a,_,rfl,J⟩
  obtain⟨a,c,rfl,rfl⟩:=bx;have hg:h.get a=some (.cells (aq.fl (p::l)) false):=sh.hC (i:=0) rfl;have hlen:(aq.fl (p::l)).length=(p::l).length*2:=iT _;have I:h.cl a 0 ((p::l).length*2)=some (aq.fl (p::l)):=by
   have:=S4 (h:=h) (a:=a) (o:=0) (n:=(p::l).length*2) (m:=aq.fl (p::l)) (by unfold bm.cells;rw[hg];(try rfl)) (by omega);rw[this,List.drop_zero,←hlen,List.take_length]
  have J:h.db a 0 (aq.fl (hV (p::l)))=some (h.put a (.cells (aq.fl (hV (p::l))) false)):=
   F2 hg (lI _) (Nq (by rw[iT,iT,Dm]))
  refine .inl ⟨.aM [],h.put a (.cells (aq.fl (hV (p::l))) false),LZ hs ?_,O,_,.refl O,sh.zn (i:=0) rfl _,rfl,rfl⟩;have hn:Nat.ble (p::l).length 1000000000=true:=Nat.ble_eq_true_of_le hl;simp only[nh,hb,cond_true,hn,hg,cond_false];show(match h.cl a 0 ((p::l).length*2)with
   |some xs=>match rr xs with
    |some l=>match h.db a 0 (aq.fl (hV l))with
     |some h'=>some (V.aM [],h')
     |none=>none
    |none=>none
   |none=>none)=_
  rw[I];simp only[Wu,J]
end Go.Ev
set_option maxHeartbeats 1000000
namespace Go.Ev
variable{F:Nat→Option aN} {O:Fz}
theorem eqP (a b:ag):cg .eql (.agg [(0,.i),(1,.i)]) (.agg (aq.f a)) (.agg (aq.f b))=some (.bool (decide (a=b))):=by
 have h:=My a b;have J:∀o:Option Bool,o.map (fun b=>V.bool (!b))=some (.bool (!decide (a=b)))→o.map V.bool=some (.bool (decide (a=b))):=by
  intro o ho;cases o with
  |none=>cases ho
  |some c=>simp only[Option.map_some,Option.some.injEq,V.bool.injEq]at ho⊢;revert ho;cases c<;>cases decide (a=b)<;>simp
 exact J _ h
def xL (am:List ag) (p:ag):List ag:=if am.getLast? =some p then am else am++[p]
def fb (l:List ag):List ag:=l.foldl xL []
theorem Nz (l:List ag) (p:ag):fb (l++[p])=xL (fb l) p:=by unfold fb;rw[List.foldl_append];(try rfl)
theorem WA (am:List ag) (p:ag):(xL am p).getLast? =some p:=by
 unfold xL;split
 ·assumption
 ·simp
theorem WB {l:List ag} {i:Nat} (I:1≤i) (hi:i<l.length):fb (l.take (i+1))=if l[i]=l[i-1]'(by omega)then fb (l.take i)else fb (l.take i)++[l[i]]:=by
 rw[List.take_succ_eq_append_getElem hi,Nz];obtain⟨j,rfl⟩:∃j,i=j+1:=⟨i-1,by omega⟩
 have hl:(fb (l.take (j+1))).getLast? =some (l[j]'(by omega)):=by
  rw[List.take_succ_eq_append_getElem (by omega),Nz];exact WA _ _
 unfold xL;rw[hl];show _=if l[j+1]=l[j]'(by omega)then _ else _
 by_cases he:l[j+1]=l[j]'(by omega)
 ·rw[if_pos (by rw[he]),if_pos he]
 ·rw[if_neg (by rw[Option.some.injEq];exact fun h=>he h.symm),if_neg he]
theorem ame (l:List ag) (h:0<l.length):fb (l.take 1)=l.take 1:=by
 cases l with
 |nil=>simp at h
 |cons a l=>rfl
theorem amf (l:List ag) (h:l.length<2):fb l=l:=by
 match l,h with
 |[],_=>rfl
 |[a],_=>rfl
theorem WD (n:Nat):dI [(.j 0),(.j 0)] n=aq.fl (List.replicate n ⟨0,0⟩):=aiK (e:=aq) ⟨0,0⟩ n
theorem amg {m:List ag} {k:Nat} (hk:k≤m.length):dk (k*2) (aq.fl m) (dI [(.j 0),(.j 0)] (m.length-k))=some (aq.fl (m.take k++List.replicate (m.length-k) ⟨0,0⟩)):=by
 have e2:aq.k=2:=rfl;have I:(aq.fl m).length=m.length*2:=iT _;have J:(aq.fl (List.replicate (m.length-k) (⟨0,0⟩:ag))).length=(m.length-k)*2:=by rw[iT,List.length_replicate];(try rfl)
 rw[WD,TG (by rw[I,J];omega),J,uX];have h3:(aq.fl m).take (k*2)=aq.fl (m.take k):=by have:=Gf (e:=aq) m k;rw[e2]at this;exact this
 rw[h3,List.drop_of_length_le (by rw[I];omega),List.append_nil]
theorem amh [Fx F] {v:V} {l:List ag} {s:Option Pa} (ho:ae aq v l s) (hl:l.length≤1000000):
 ai F 41 [v] O [aq.ob s l] (fun r ψ R=>R=[]∧aa aq ψ r (fb l)) never:=by
 refine au ?_;refine S.len ?_ (hl:=ae.len ho);refine S.bin ?_;refine C.D (fun g7=>?_) fun g7=>?_
 ·exact⟨_,.t rfl .nil,.bR 0 rfl ho fun ψ l1 hf=>.done ⟨rfl,by rw[amf l (by omega)];exact hf⟩⟩
 ·obtain⟨a,c,rfl,rfl⟩:∃a c,v=.sl a 0 l.length c∧s=some a:=by
   rcases ho.2.2 with⟨_,I,_⟩|⟨a,rfl,J⟩|⟨a,rfl,J⟩
   ·omega
   ·exact⟨a,_,rfl,J⟩
   ·exact⟨a,_,rfl,J⟩
  have wF:∀m:List ag,m.length=l.length→ae aq (.sl a 0 l.length c) m (some a):=fun m hm=>by
   rcases ho.2.2 with⟨I,_⟩|⟨b,I,J⟩|⟨b,I,J⟩
   ·cases I
   ·cases I;exact⟨by rw[iT],lI _,.inr (.inl ⟨a,by rw[hm],rfl⟩)⟩
   ·cases I;exact⟨by rw[iT],lI _,.inr (.inr ⟨a,by rw[hm],rfl⟩)⟩
  refine SW.loop (fun m E ψ R=>∃k:Nat,k+m=l.length∧1≤k∧fb (l.take k)=l.take k∧O=ψ∧R=[aq.ob (some a) l]∧Sub [(0,.sl a 0 l.length c),(3,.j (k:Int))] E) (m:=l.length-1) ⟨1,by omega,by omega,ame l (by omega),rfl,rfl,.r rfl⟩ ?_;intro m0 E ψ R ac hI;obtain⟨k,DU,rX,p0,rfl,rfl,hE⟩:=hI;refine C.sub hE ?_;refine S.len ?_ (hl:=ae.len ho);refine S.bin ?_;refine C.D (fun eM=>?_) fun eM=>?_
  ·have hk:k<l.length:=by omega
   have E4:=WB rX hk;refine S.cX ho hk fun p6 cK=>?_;cases cK;refine S.CJ (e:=aq) (l:=l) 0 hk ?_;refine S.bin ?_ (v:=.j ((k-1:Nat):Int)) (hv:=by rw[ig (by omega) (by omega)];congr 2;omega);refine S.cX ho (j:=k-1) (by omega) fun Bh eB=>?_;cases eB;refine S.CJ (e:=aq) (l:=l) (j:=k-1) 0 (by omega) ?_;refine S.bin ?_ (hv:=eqP l[k] (l[k-1]'(by omega)));refine C.D (fun bV=>?_) fun bV=>?_
   ·rw[if_pos (by simpa using bV)]at E4;obtain⟨a2,o2,jw,Kk,ab2,nH⟩:=ae.lo ho (j:=k) (by omega) (by omega);cases Kk;have nH:o2=k*2:=by rcases nH with h|h;exact h;omega
    subst nH;refine S.slice ab2 ?_;refine SW.loop (fun m E ψ R=>∃(k2 k3:Nat) (m':List ag),k+k2+m=l.length∧1≤k2∧k3+1≤k+k2∧m'.length=l.length∧m'.take k3=fb (l.take (k+k2))∧(∀i,k+k2≤i+1→m'[i]? =l[i]?)∧O=ψ∧R=[aq.ob (some a) m']∧Sub [(0,.sl a 0 l.length c),(3,.j (k3:Int)),(4,.sl a (k*2) (l.length-k) jw),(5,.j (k2:Int))] E) (m:=l.length-(k+1)) ⟨1,k,l,by omega,by omega,by omega,rfl,by rw[E4,p0],fun i hi=>rfl,rfl,rfl,.r rfl⟩ ?_;intro m2 E ψ R ac hI;obtain⟨k2,k3,m',apE,apF,hk3,yR,yi,E5,rfl,rfl,hE⟩:=hI;refine C.sub hE ?_;refine S.len ?_ (n:=l.length-k);refine S.bin ?_;refine C.D (fun eA=>?_) fun eA=>?_
    ·have wi:k+k2<l.length:=by omega
     have E6:=WB (i:=k+k2) (by omega) wi;have KC:ae aq (.sl a 0 l.length c) m' (some a):=wF m' yR;have g1:m'[k+k2]'(by omega)=l[k+k2]:=by
      have:=E5 (k+k2) (by omega);rw[List.getElem?_eq_getElem (by omega),List.getElem?_eq_getElem wi]at this;exact Option.some.inj this
     have g2:m'[k+k2-1]'(by omega)=l[k+k2-1]'(by omega):=by
      have:=E5 (k+k2-1) (by omega);rw[List.getElem?_eq_getElem (by omega),List.getElem?_eq_getElem (by omega)]at this;exact Option.some.inj this
     refine S.CF (n:=l.length-k) (o:=k*2) (j:=k2) (by omega) ?_;rw[show k*2+k2*2=(k+k2)*aq.k by show _=_*2;omega];refine S.CJ (e:=aq) (l:=m') (j:=k+k2) 0 (by omega) ?_;rw[g1];refine S.bin ?_ (v:=.j ((k2-1:Nat):Int)) (hv:=by rw[ig (by omega) (by omega)];congr 2;omega);refine S.CF (n:=l.length-k) (o:=k*2) (j:=k2-1) (by omega) ?_;rw[show k*2+(k2-1)*2=(k+k2-1)*aq.k by show _=_*2;omega];refine S.CJ (e:=aq) (l:=m') (j:=k+k2-1) 0 (by omega) ?_;rw[g2];refine S.bin ?_ (hv:=My l[k+k2] (l[k+k2-1]'(by omega)));refine C.B (fun fX=>?_) fun fX=>?_
     ·rw[if_neg (by simpa using fX)]at E6;refine S.CF (n:=l.length-k) (o:=k*2) (j:=k2) (by omega) ?_;rw[show k*2+k2*2=(k+k2)*aq.k by show _=_*2;omega];refine S.CJ (e:=aq) (l:=m') (j:=k+k2) 0 (by omega) ?_;rw[g1];refine S.cX KC (j:=k3) (by omega) fun a51 vV=>?_;cases vV;refine S.pE (e:=aq) (l:=m') (j:=k3) l[k+k2] 0 ?_ (hj:=by omega);refine S.bin ?_ (v:=.j ((k3+1:Nat):Int)) (hv:=by rw[ei (by omega) (by omega)];(try rfl));refine S.bin ?_ (v:=.j ((k2+1:Nat):Int)) (hv:=by rw[ei (by omega) (by omega)];(try rfl));refine⟨m2-1,by omega,k2+1,k3+1,m'.set k3 l[k+k2],by omega,by omega,by omega,by simpa using yR,?_,fun i hi=>?_,rfl,rfl,.r rfl⟩
      ·rw[show k+(k2+1)=k+k2+1 by omega,E6,←yi,List.take_succ_eq_append_getElem (by simp;omega),List.take_set_of_le (Nat.le_refl _),List.getElem_set_self]
      ·rw[List.getElem?_set_ne (by omega)];exact E5 i (by omega)
     ·refine S.bin ?_ (v:=.j ((k2+1:Nat):Int)) (hv:=by rw[ei (by omega) (by omega)];(try rfl));rw[if_pos (by simpa using fX)]at E6;exact⟨m2-1,by omega,k2+1,k3,m',by omega,by omega,by omega,yR,by rw[show k+(k2+1)=k+k2+1 by omega,E6,yi],fun i hi=>E5 i (by omega),rfl,rfl,.r rfl⟩
    ·have nB:k+k2=l.length:=by omega
     rw[nB,List.take_length]at yi;have KC:ae aq (.sl a 0 l.length c) m' (some a):=wF m' yR;obtain⟨a3,p3,pT,ha3,ab3,KD⟩:=ae.lo KC (j:=k3) (by omega) (by omega);cases ha3;have KD:p3=k3*2:=by rcases KD with h|h;exact h;omega
     subst KD;refine S.slice ab3 ?_;refine S.clear 0 ?_ (cI:=amg (m:=m') (k:=k3) (by omega)) (hs:=by rw[WD];exact lI _);refine S.ct (e:=aq) (l:=m'.take k3++List.replicate (m'.length-k3) ⟨0,0⟩) (s:=some a) 0 (wF _ (by simp;omega)) fun ψk lk hf=>?_;obtain⟨v59,BK,Rk⟩:=hf.hi (j:=k3) (by simp;omega);refine S.slice BK ?_;rw[List.take_append_of_le_length (by simp;omega),List.take_take,Nat.min_self,yi]at Rk;exact⟨_,.t rfl .nil,.none ⟨rfl,Rk⟩⟩
   ·refine S.bin ?_ (v:=.j ((k+1:Nat):Int)) (hv:=by rw[ei (by omega) (by omega)];(try rfl));rw[if_neg (by simpa using bV)]at E4;exact⟨m0-1,by omega,k+1,by omega,by omega,by rw[E4,p0,List.take_succ_eq_append_getElem hk],rfl,rfl,.r rfl⟩
  ·obtain rfl:k=l.length:=by omega
   rw[List.take_length]at p0;exact⟨_,.t rfl .nil,.bR 0 rfl ho fun ψ l1 hf=>.done ⟨rfl,by rw[p0];exact hf⟩⟩
end Go.Ev
set_option maxHeartbeats 1000000
namespace Go.Ev
variable{F:Nat→Option aN} {O:Fz}
theorem ami [Fx F] (hr:F 223=some (.c7 ji)) {cs:List V} {d:ay} {sum:Int} (hd:cP O cs d) (cL:d.wait.length≤1000000) (hs:F 37=some (.c7 (nh 38))) (Rl:((fS d sum).getD tl).all.length≤1000000):ai F 11 [.agg cs,.j sum] O [] (fun r ψ R=>R=[]∧∃pv,r=.aM [pv,.bool (fS d sum).isSome]∧aa aq ψ pv (fb (hV ((fS d sum).getD tl).all))) never:=by
 obtain⟨lv,wv,rfl,hl,hw,sl,sw⟩:=hd.open;refine au ?_;refine S.box fun a2=>?_;refine S.af 0 ?_ (l:=[lv,wv,.j d.arm,.bool d.down]);refine S.call (alX hr (sum:=sum) hd cL) fun g4 kX p7 mj cd=>?_;obtain⟨a,lv',wv',d',u6,u7,u8,u9,iv,q6,q7,q8,q9,jK,m7,m8,m9,rfl,rfl,hR,h0⟩:=cd;obtain⟨y,hy⟩:∃y,y=(fS d sum).getD tl:=⟨_,rfl⟩
 rw[←hy]at hR h0⊢;rw[←hy]at Rl;refine S.ld 0 ?_;refine S.bb 1 rfl (amd hs hR.all h0 (by omega)) fun v20 sb yr se cU=>?_;obtain⟨cU,rfl⟩:=cU;have cU:=cU.symm;subst cU;have os:ae aq iv (hV y.all) jK:=by
  have hlen:=Dm y.all;rcases hR.all.2.2 with⟨I,J,h3⟩|⟨b,I,J⟩|⟨b,I,J⟩
  ·exact⟨by rw[iT],lI _,.inl ⟨I,by rw[hlen];exact J,h3⟩⟩
  ·exact⟨by rw[iT],lI _,.inr (.inl ⟨b,by rw[hlen];exact I,J⟩)⟩
  ·exact⟨by rw[iT],lI _,.inr (.inr ⟨b,by rw[hlen];exact I,J⟩)⟩
 refine S.bb 0 rfl (amh os (by rw[Dm];exact Rl)) fun v22 wj O22 A7 qj=>?_;obtain⟨rfl,f22⟩:=qj;exact⟨_,.t rfl (.t rfl .nil),.none ⟨rfl,v22,rfl,f22⟩⟩
end Go.Ev
namespace Go.Ev
def pS (d:ay) (z:ag):Prop:=∃x,b7 d z.addr (-1)=some x∧x.gen=z.gen
theorem amj {d:ay} {a g:Int} {x:aV} (h:b7 d a g=some x):b7 d a (-1)=some x:=by
 unfold b7 at h⊢;split at h
 ·rename_i h0;rw[if_pos h0];cases ht:hJ (d.read a).1 with
  |none=>rw[ht]at h;cases h
  |some y=>
   rw[ht]at h;simp only at h⊢;rw[if_neg (by omega)];split at h
   ·cases h
   ·exact h
 ·cases h
theorem NA {d:ay} {z:ag} {x:aV} (h:b7 d z.addr z.gen=some x) (hg:0≤z.gen):pS d z:=⟨x,amj h,GV h hg⟩
theorem WE {d:ay} {y z:ag} (hy:pS d y) (hz:pS d z) (h:y.addr=z.addr):y=z:=by
 obtain⟨a,I,J⟩:=hy;obtain⟨b,h3,h4⟩:=hz;rw[h,h3]at I;cases I;cases y;cases z;simp_all
theorem WG {d:ay}:∀{q:List ag} {ao iN:List b2},(∀z∈q,0≤z.gen)→gp d q ao=some iN→∀z∈q,pS d z
 |[],_,_,_,_,z,hz=>by cases hz
 |p::q,ao,iN,hg,h,z,hz=>by
  simp only[gp]at h;split at h
  ·cases h
  ·rename_i l hl;obtain⟨b,b0,_⟩:=Option.bind_eq_some_iff.1 hl;rcases List.mem_cons.1 hz with rfl|hz
   ·exact NA b0 (hg _ List.mem_cons_self)
   ·exact WG (fun z hz=>hg z (List.mem_cons_of_mem _ hz)) h z hz
theorem WH {d:ay}:∀{l:List b2} {am r:List bH},(∀i∈l,0≤i.2.gen)→hU d l am=some r→∀i∈l,pS d i.2
 |[],_,_,_,_,z,hz=>by cases hz
 |p::l,am,r,hg,h,z,hz=>by
  simp only[hU]at h;split at h
  ·cases h
  ·rename_i x hx;have hb:∃b,b7 d p.2.addr p.2.gen=some b:=by
    unfold recAt at hx;split at hx
    ·cases hx
    ·rename_i y hy;obtain⟨b,b0,_⟩:=Option.bind_eq_some_iff.1 hy;exact⟨b,b0⟩
   obtain⟨b,hb⟩:=hb;rcases List.mem_cons.1 hz with rfl|hz
   ·exact NA hb (hg _ List.mem_cons_self)
   ·exact WH (fun z hz=>hg z (List.mem_cons_of_mem _ hz)) h z hz
theorem amk {d:ay} {p:ag} {x:jW} {l:List ag} (hg:0≤p.gen) (h:nf d p=some (x,l)):pS d p∧∀z∈l,pS d z:=by
 unfold nf at h;split at h
 ·cases h
 ·rename_i r q hq;obtain⟨b,b0,dl⟩:=Option.bind_eq_some_iff.1 hq;split at h
  ·cases h
  ·rename_i ao wh;split at h
   ·cases h
   ·rename_i dp ab4;split at h
    ·cases h
    ·cases h;refine⟨NA b0 hg,fun z hz=>?_⟩;rcases List.mem_append.1 hz with hz|hz
     ·exact WG (VU dl) wh z hz
     ·obtain⟨i,hi,rfl⟩:=List.mem_map.1 hz;exact WH ((Np wh).2 (fun i hi=>by cases hi)) ab4 i hi
theorem WI {d:ay}:∀(q:List ag) (s:oa) (bQ:List ag),(∀z∈q,0≤z.gen)→(∀z∈bQ,pS d z)→(∀z,z∈s.all↔z∈bQ∨z∈q)→
 (match mZ d q s with
 |none=>kQ d q s.trees bQ=none
 |some s'=>∃y,kQ d q s.trees bQ=some y∧s'.next=s.next∧s'.id=s.id∧s'.trees=y.1∧(∀z,z∈s'.all↔z∈y.2)∧∀z∈y.2,pS d z)
 |[],s,bQ,_,hb,hm=>⟨_,rfl,rfl,rfl,rfl,fun z=>by rw[hm z];simp,hb⟩
 |p::q,s,bQ,hg,hb,hm=>by
  simp only[mZ,kQ];rw[←VT];cases ht:nf d p with
  |none=>rfl
  |some ab5=>
   obtain⟨x,l⟩:=ab5;obtain⟨r1,r2⟩:=amk (hg p List.mem_cons_self) ht;simp only;have ih:=WI q {s with trees:=s.trees++[x],all:=s.all++l} (bQ++p::l) (fun z hz=>hg z (List.mem_cons_of_mem _ hz)) (fun z hz=>by
    rcases List.mem_append.1 hz with hz|hz
    ·exact hb z hz
    ·rcases List.mem_cons.1 hz with rfl|hz
     ·exact r1
     ·exact r2 z hz) (fun z=>by
    simp only[List.mem_append,List.mem_cons];have:=hm z;rw[List.mem_cons]at this;constructor
    ·rintro(h|h)
     ·rcases this.1 h with h|h|h
      ·exact .inl (.inl h)
      ·exact .inl (.inr (.inl h))
      ·exact .inr h
     ·exact .inl (.inr (.inr h))
    ·rintro((h|h|h)|h)
     ·exact .inl (this.2 (.inl h))
     ·exact .inl (this.2 (.inr (.inl h)))
     ·exact .inr h
     ·exact .inl (this.2 (.inr (.inr h))))
   exact ih
theorem aml (d:ay) (sum:Int):match look d sum with
 |none=>fS d sum=none
 |some s=>∃y,fS d sum=some y∧s.next=y.next∧s.id=y.id∧s.trees=y.trees∧(∀z,z∈s.all↔z∈y.all)∧∀z∈y.all,pS d z:=by
 unfold look fS;cases hb:b7 d sum (-1)with
 |none=>rfl
 |some x=>
  simp only;cases ht:dX x with
  |none=>rfl
  |some t=>
   obtain⟨n,i,q⟩:=t;simp only;have h:=WI q ⟨n,i,[],⟨sum,x.gen⟩::q⟩ [⟨sum,x.gen⟩] (VV ht) (fun z hz=>by obtain rfl:=List.mem_singleton.1 hz;exact⟨x,hb,rfl⟩) (fun z=>by simp);cases hl:mZ d q ⟨n,i,[],⟨sum,x.gen⟩::q⟩with
   |none=>rw[hl]at h;simp only at h⊢;rw[h];(try rfl)
   |some s=>
    rw[hl]at h;simp only at h⊢;obtain⟨y,I,J,h3,h4,h5,h6⟩:=h;exact⟨⟨n,i,y.1,y.2⟩,by rw[I];(try rfl),J,h3,h4,h5,h6⟩
theorem WJ {ad:ag→ag→Prop} (hi:∀a,¬ad a a) (ht:∀a b,ad a b→¬ad b a):∀{l m:List ag},l.Pairwise ad→m.Pairwise ad→(∀z,z∈l↔z∈m)→l=m
 |[],[],_,_,_=>rfl
 |[],b::m,_,_,h=>by have:=(h b).2 List.mem_cons_self;cases this
 |a::l,[],_,_,h=>by have:=(h a).1 List.mem_cons_self;cases this
 |a::l,b::m,I,J,h=>by
  rw[List.pairwise_cons]at I J;have jA:a=b:=by
   rcases List.mem_cons.1 ((h a).1 List.mem_cons_self)with e|e
   ·exact e
   ·rcases List.mem_cons.1 ((h b).2 List.mem_cons_self)with e2|e2
    ·exact e2.symm
    ·exact absurd (I.1 b e2) (ht _ _ (J.1 a e))
  subst jA;rw[WJ hi ht I.2 J.2 (fun z=>?_)];constructor
  ·intro hz;rcases List.mem_cons.1 ((h z).1 (List.mem_cons_of_mem _ hz))with e|e
   ·subst e;exact absurd (I.1 _ hz) (hi _)
   ·exact e
  ·intro hz;rcases List.mem_cons.1 ((h z).2 (List.mem_cons_of_mem _ hz))with e|e
   ·subst e;exact absurd (J.1 _ hz) (hi _)
   ·exact e
theorem ND {p z:ag}:∀{l:List ag},z∈dq p l→z=p∨z∈l
 |[],h=>by simp[dq]at h;exact .inl h
 |a::l,h=>by
  simp only[dq]at h;split at h
  ·exact .inr h
  ·split at h
   ·rcases List.mem_cons.1 h with h|h
    ·exact .inl h
    ·exact .inr h
   ·rcases List.mem_cons.1 h with h|h
    ·exact .inr (h▸List.mem_cons_self)
    ·rcases ND h with h|h
     ·exact .inl h
     ·exact .inr (List.mem_cons_of_mem _ h)
theorem WK {p z:ag}:∀{l:List ag},z∈l→z∈dq p l
 |[],h=>by cases h
 |a::l,h=>by
  simp only[dq];split
  ·exact h
  ·split
   ·exact List.mem_cons_of_mem _ h
   ·rcases List.mem_cons.1 h with h|h
    ·exact h▸List.mem_cons_self
    ·exact List.mem_cons_of_mem _ (WK h)
theorem WL (p:ag):∀(l:List ag),∃z∈dq p l,z.addr=p.addr
 |[]=>⟨p,by simp[dq],rfl⟩
 |a::l=>by
  simp only[dq];split
  ·rename_i h;exact⟨a,List.mem_cons_self,h⟩
  ·split
   ·exact⟨p,List.mem_cons_self,rfl⟩
   ·obtain⟨z,I,J⟩:=WL p l;exact⟨z,List.mem_cons_of_mem _ I,J⟩
theorem WM {p:ag}:∀{l:List ag},l.Pairwise (fun a b=>a.addr<b.addr)→(dq p l).Pairwise (fun a b=>a.addr<b.addr)
 |[],_=>by simp[dq]
 |a::l,h=>by
  have h0:=List.pairwise_cons.1 h;simp only[dq];split
  ·exact h
  ·split
   ·rename_i I J;rw[List.pairwise_cons];refine⟨fun b hb=>?_,h⟩;rcases List.mem_cons.1 hb with rfl|hb
    ·exact J
    ·have:=h0.1 b hb;omega
   ·rename_i I J;rw[List.pairwise_cons];refine⟨fun b hb=>?_,WM h0.2⟩;rcases ND hb with rfl|hb
    ·omega
    ·exact h0.1 b hb
theorem WN:∀(l out:List ag),out.Pairwise (fun a b=>a.addr<b.addr)→
 (l.foldl (fun out p=>dq p out) out).Pairwise (fun a b=>a.addr<b.addr)∧(∀z∈l.foldl (fun out p=>dq p out) out,z∈out∨z∈l)∧(∀z∈out,z∈l.foldl (fun out p=>dq p out) out)∧∀z∈l,∃w∈l.foldl (fun out p=>dq p out) out,w.addr=z.addr
 |[],out,h=>⟨h,fun z hz=>.inl hz,fun z hz=>hz,fun z hz=>by cases hz⟩
 |p::l,out,h=>by
  obtain⟨k1,k2,k3,k4⟩:=WN l (dq p out) (WM h);rw[List.foldl_cons];refine⟨k1,fun z hz=>?_,fun z hz=>k3 z (WK hz),fun z hz=>?_⟩
  ·rcases k2 z hz with I|I
   ·rcases ND I with I|I
    ·exact .inr (I▸List.mem_cons_self)
    ·exact .inl I
   ·exact .inr (List.mem_cons_of_mem _ I)
  ·rcases List.mem_cons.1 hz with rfl|hz
   ·obtain⟨w,I,J⟩:=WL z out;exact⟨w,k3 w I,J⟩
   ·exact k4 z hz
theorem WO:∀(n:Nat) (l:List ag),l.length≤n→l.Pairwise (fun a b=>gr a b=true)→(fb l).Pairwise (fun a b=>gr a b=true∧a≠b)∧(∀z,z∈fb l↔z∈l)∧(fb l).getLast? =l.getLast?
 |_,[],_,_=>⟨.nil,fun _=>Iff.rfl,rfl⟩
 |0,a::l,h,_=>by simp at h
 |n+1,a::l,h,hs=>by
  have bx:a::l≠[]:=by simp
  have e:a::l=(a::l).dropLast++[(a::l).getLast bx]:=(List.dropLast_concat_getLast bx).symm;generalize (a::l).dropLast=m at e;generalize (a::l).getLast bx=p at e;rw[e]at hs h⊢;rw[List.length_append]at h;rw[List.pairwise_append]at hs;obtain⟨s1,_,s3⟩:=hs;obtain⟨k1,k2,k3⟩:=WO n m (by simp at h;omega) s1;rw[Nz];refine⟨?_,fun z=>?_,by rw[WA];simp⟩
  ·unfold xL;split
   ·exact k1
   ·rename_i hl;rw[List.pairwise_append];refine⟨k1,by simp,fun z hz w hw=>?_⟩;obtain rfl:=List.mem_singleton.1 hw;have yo:=(k2 z).1 hz;refine⟨s3 z yo w (by simp),fun ezp=>?_⟩;subst ezp;have tp:m≠[]:=by intro e0;rw[e0]at yo;cases yo
    have ab6:m.getLast? =some (m.getLast tp):=List.getLast?_eq_some_getLast tp;have I:gr z (m.getLast tp)=true:=by
     have e2:m=m.dropLast++[m.getLast tp]:=(List.dropLast_concat_getLast tp).symm;rw[e2]at yo s1;rcases List.mem_append.1 yo with J|J
     ·exact(List.pairwise_append.1 s1).2.2 z J _ (by simp)
     ·have:=List.mem_singleton.1 J;rw[this];rw[rq];omega
    have J:gr (m.getLast tp) z=true:=s3 _ (List.getLast_mem tp) z (by simp);have:=Wp I J;rw[k3,ab6,←this]at hl;exact hl rfl
  ·unfold xL;split
   ·rename_i hl;rw[k2 z,List.mem_append,List.mem_singleton];constructor
    ·exact .inl
    ·rintro(I|rfl)
     ·exact I
     ·rw[k3]at hl;exact List.mem_of_getLast? hl
   ·rw[List.mem_append,List.mem_append,k2 z]
theorem amm {d:ay} {l m:List ag} (h:∀z,z∈l↔z∈m) (hr:∀z∈m,pS d z):fb (hV m)=xB l:=by
 obtain⟨k1,k2,_,k4⟩:=WN l [] .nil;obtain⟨np,oL,_⟩:=WO (hV m).length (hV m) (Nat.le_refl _) (Nv m);have KE:∀z,z∈fb (hV m)↔z∈m:=fun z=>(oL z).trans (G5 m).mem_iff;have hb:∀z,z∈xB l↔z∈m:=fun z=>by
  constructor
  ·intro hz;rcases k2 z hz with I|I
   ·cases I
   ·exact(h z).1 I
  ·intro hz;obtain⟨w,w1,w2⟩:=k4 z ((h z).2 hz);have hw:w∈m:=by
    rcases k2 w w1 with I|I
    ·cases I
    ·exact(h w).1 I
   have:=WE (hr w hw) (hr z hz) w2;rw[←this];exact w1
 refine WJ (ad:=fun a b=>a.addr<b.addr) (fun a=>by omega) (fun a b h=>by omega) ?_ k1 (fun z=>(KE z).trans (hb z).symm);refine List.Pairwise.imp_of_mem (fun{a b} ha jY jA=>?_) np;have I:=rq.1 jA.1;rcases I with I|I
 ·exact I
 ·exact absurd (WE (hr a ((KE a).1 ha)) (hr b ((KE b).1 jY)) I.1) jA.2
theorem WQ (d:ay) (sum:Int):(fS d sum).isSome=(blocks d sum).isSome∧fb (hV ((fS d sum).getD tl).all)=(blocks d sum).getD []:=by
 have h:=aml d sum;unfold blocks;cases hl:look d sum with
 |none=>rw[hl]at h;simp only at h;rw[h];exact⟨rfl,rfl⟩
 |some s=>
  rw[hl]at h;obtain⟨y,I,_,_,_,h5,h6⟩:=h;rw[I];exact⟨rfl,amm h5 h6⟩
end Go.Ev
namespace Go.Ev
theorem NG {v:aW} {lo hi:Int} (h:0≤v.pos):(dz v lo hi).1.d.last.length=v.d.last.length:=(C7 h).1
theorem NH {v x:aW} (hp:0≤x.pos) (hd:x.d=v.d):(eU v x).1.d.last.length=v.d.last.length:=by
 have h:=NG (v:=x) (lo:=0) (hi:=0) hp;rw[hd]at h;unfold eU;simp only;split
 ·exact h
 ·split
  ·rfl
  ·exact h
theorem amn {v:aW} (hp:0≤v.pos):(lW v).1.d.last.length=v.d.last.length:=by
 unfold lW;split
 ·rfl
 ·have:=NH (v:=v) (x:={v with trees:=fi v.trees ⟨⟨3,v.next,v.id*65536+v.next,0,0⟩,et v.trees⟩,next:=v.next+1}) hp rfl;simp only;split<;>exact this
theorem amo {v:aW} (hp:0≤v.pos) (s:gk):(iG v s).d.last.length=v.d.last.length:=by
 unfold iG;split
 ·exact NH hp rfl
 ·split
  ·exact amn hp
  ·split
   ·unfold pL;split
    ·rfl
    ·rename_i l hl;exact NH (x:={v with trees:=l}) hp rfl
   ·split
    ·unfold pM;split
     ·rfl
     ·rfl
    ·unfold oh;split
     ·rfl
     ·rename_i s hs;have I:=NG (v:=v) (lo:=bO s) (hi:=bO s+64) hp;simp only;split
      ·exact I
      ·split
       ·rfl
       ·exact I
theorem amp {v:aW} (hp:0≤v.pos) (s:gk):(gK v s).d.last.length=v.d.last.length:=by
 unfold gK;split
 ·split<;>rfl
 ·split
  ·rfl
  ·exact amo hp s
theorem amq (bi:Nat) (id:Int):(vd bi id).1.d.last.length=2+64*bi:=by
 have J:=NG (v:=iq bi id) (lo:=0) (hi:=0) (Int.le_refl 0);have h0:(iq bi id).d.last.length=2+64*bi:=by show(List.replicate _ _).length=_;rw[List.length_replicate];omega
 obtain⟨Y,hY⟩:∃Y,Y=(dz (iq bi id) 0 0).1:=⟨_,rfl⟩
 show({(dz (iq bi id) 0 0).1 with d:=(xC (dz (iq bi id) 0 0).1).1,n:=1}:aW).d.last.length=_;rw[←hY]at J⊢;exact(C5 Y.d ⟨1,Y.seq,Y.sum,Y.aU,Y.pos⟩).1.trans (J.trans h0)
theorem WS {l:Bs}:∀(k n K:Nat) {v:aW},VK K v→(ti l k n v).d.last.length=v.d.last.length
 |0,n,K,v,h=>rfl
 |k+1,n,K,v,h=>by
  simp only[ti];split
  ·rfl
  ·rw[WS k _ (K+2) (Nb h _),amp h.ju]
theorem WT (l:Bs) {bi:Nat} (eP:Nat) (h:bi≤15):(om l bi eP).d.last.length=2+64*bi:=by
 unfold om;rw[WS eP 0 3 (Nc h (by decide) (by decide)),amq]
end Go.Ev
namespace Go.Ev
variable{F:Nat→Option aN} {O:Fz}
theorem WU {d:ay}:∀{q:List ag} {ts:List jW} {bQ:List ag} {x:List jW×List ag},kQ d q ts bQ=some x→x.2.length≤bQ.length+337*q.length
 |[],ts,bQ,x,e=>by cases e;exact Nat.le_refl _
 |p::q,ts,bQ,x,e=>by
  simp only[kQ]at e;split at e
  ·cases e
  ·rename_i y l hy;have I:=Wn hy;have:=WU e;simp only[List.length_append,List.length_cons]at this⊢;have J:l.length≤336:=I;omega
theorem amr {d:ay} {sum:Int}:((fS d sum).getD tl).all.length≤1000000:=by
 cases h:fS d sum with
 |none=>exact Nat.zero_le _
 |some y=>
  unfold fS at h;split at h
  ·cases h
  ·split at h
   ·cases h
   ·rename_i n i q hq;obtain⟨z,I,J⟩:=Option.map_eq_some_iff.1 h;subst J;have h3:=WU I;have h4:=CV hq;show z.2.length≤_;simp at h3;omega
theorem ams [Fx F] (hr:F 223=some (.c7 ji)) (hs:F 37=some (.c7 (nh 38))) {cs:List V} {d:ay} {sum:Int} (hd:cP O cs d) (cL:d.wait.length≤1000000):ai F 11 [.agg cs,.j sum] O [] (fun r ψ R=>R=[]∧∃pv,r=.aM [pv,.bool (blocks d sum).isSome]∧aa aq ψ pv ((blocks d sum).getD [])) never:=by
 have h:=ami hr (sum:=sum) hd cL hs amr;rw[(WQ d sum).1,(WQ d sum).2]at h;exact h
theorem G6 [Fx F] {cs:List V} {d:ay} (hd:cP O cs d) (hlen:d.last.length≤1000000):bk F 19 [.agg cs] O (.j (bW d:Nat)):=by
 obtain⟨lv,wv,rfl,hl,hw,sl,sw⟩:=hd.open;refine ai.ak (au ?_);refine S.box fun bs=>?_;refine S.ld 0 ?_;refine S.len ?_ (hl:=aa.len hl);refine S.bin ?_;refine S.pB (UI _) ?_;refine S.bin ?_ (hv:=CT (m:=64) (by omega) (by omega));refine⟨_,.t rfl .nil,.none ?_⟩;rfl
theorem WV [Fx F] {s:Int} (hs:s≤1099511627776):bk F 15 [.j s] O (.j (bO s)):=by
 refine ai.ak (au ?_);refine S.bin ?_;refine C.D (fun fj=>?_) fun fj=>?_
 ·have e:bO s=-1:=by unfold bO;exact if_pos fj
  rw[e];refine⟨_,.t rfl .nil,.done ?_⟩;rfl
 ·have e:bO s=2+s*64:=by unfold bO;exact if_neg fj
  rw[e];refine S.bin ?_;refine S.bin ?_;refine⟨_,.t rfl .nil,.done ?_⟩;rfl
theorem G7 [Fx F] {a:Int} (ha:a≤9223372036854775807):bk F 17 [.j a] O (.j (gI a)):=by
 refine ai.ak (au ?_);refine S.bin ?_;refine C.D (fun fj=>?_) fun fj=>?_
 ·have e:gI a=-1:=by unfold gI;exact if_pos fj
  rw[e];refine⟨_,.t rfl .nil,.done ?_⟩;rfl
 ·have e:gI a=(((a-2).toNat/64:Nat):Int):=by unfold gI;exact if_neg fj
  rw[e];refine S.bin ?_ (v:=.j (((a-2).toNat:Nat):Int)) (hv:=by rw[ig (by omega) (by omega),show(((a-2).toNat:Nat):Int)=a-2 by omega]);refine S.bin ?_ (hv:=CT (m:=64) (by omega) (by omega));refine⟨_,.t rfl .nil,.done ?_⟩;rfl
theorem NI [Fx F] (hr:F 223=some (.c7 ji)) (hs:F 37=some (.c7 (nh 38))) {cs:List V} {d:ay} {sum:Int} (hd:cP O cs d) (cL:d.wait.length≤1000000) (hlen:d.last.length≤1000000) (wz:sum≤9223372036854775807):
 ai F 22 [.agg cs,.j sum] O [] (fun r ψ R=>R=[]∧aa bp ψ r (lT d sum)) never:=by
 obtain⟨lv,wv,rfl,hl,hw,sl,sw⟩:=hd.open;obtain⟨L,hL⟩:∃L,L=(blocks d sum).getD []:=⟨_,rfl⟩
 have wA:∀p∈L,p.addr≤9223372036854775807:=by
  intro p hp;cases hb:blocks d sum with
  |none=>rw[hL,hb]at hp;cases hp
  |some l=>
   rw[hL,hb]at hp;rcases MJ hb p hp with h|h
   ·unfold ep at h;simp only[Bool.and_eq_true,decide_eq_true_eq]at h;omega
   ·omega
 have Jc:L.length≤2360:=by
  cases hb:blocks d sum with
  |none=>rw[hL,hb];simp
  |some l=>rw[hL,hb];exact GD hb
 have Es:bW d≤1000000:=by unfold bW;omega
 refine au ?_;refine S.box fun a2=>?_;refine S.af 0 ?_ (l:=[lv,wv,.j d.arm,.bool d.down]);refine S.ak (G6 hd hlen) ?_;refine S.u0 (e:=bp) (0:Int) (n:=bW d) (by omega) (by omega) fun gS vJ=>?_;refine S.af 1 ?_ (l:=[lv,wv,.j d.arm,.bool d.down]);refine S.call (ams hr hs hd cL) fun k0 rO rP rQ bX=>?_;obtain⟨rfl,pv,rfl,hp⟩:=bX;rw[←hL]at hp;refine S.len ?_ (hl:=aa.len hp);refine SW.bG (fun m E ψ R=>∃(j:Nat) (out:List Int),j+m=L.length∧out=(L.take j).foldl gJ (List.replicate (bW d) 0)∧out.length=bW d∧(∀x∈out,0≤x∧x≤(j:Int))∧rO=ψ∧R=[bp.ob (some gS) out,(some a2,.cells [lv,wv,.j d.arm,.bool d.down] false)]∧Sub [(2,.ptr a2 0),(5,.sl gS 0 (bW d) (.ex (bW d))),(20,pv),(21,.j (L.length:Int)),(22,.j (j:Int))] E) (m:=L.length) (.done ⟨0,List.replicate (bW d) 0,by omega,rfl,by simp,fun x hx=>by rw[List.eq_of_mem_replicate hx];omega,rfl,rfl,.r rfl⟩) ?_;intro m0 E ψ R ac hI;obtain⟨j,out,e5,mz,dC,eV,rfl,rfl,hE⟩:=hI;refine C.sub hE ?_;refine S.bin ?_;refine C.D (fun eu=>?_) fun eu=>?_
 ·have hj:j<L.length:=by omega
  have oo:ae bp (.sl gS 0 (bW d) (.ex (bW d))) out (some gS):=ae.new dC;refine S.aF hp hj fun vK nq=>?_;refine S.bP ?_ (l:=[.j (L[j]).addr,.j (L[j]).gen]);refine S.alloc fun a9=>?_;refine S.store 0 ?_;refine S.ld 0 ?_;refine S.ak (G7 (wA _ (List.getElem_mem hj))) ?_;refine S.bin ?_;refine G.mv ?_;refine G.mv ?_;refine G.len ?_ (hl:=ae.len oo);refine G.bin ?_;refine G.and ?_;refine C.B (fun ck=>?_) fun ck=>?_
  ·simp only[Bool.and_eq_true,decide_eq_true_eq]at ck;obtain⟨i,hi⟩:∃i:Nat,gI L[j].addr=(i:Int):=⟨(gI L[j].addr).toNat,by omega⟩
   have sk:i<out.length:=by omega
   have HI:=eV out[i] (List.getElem_mem sk);have aj:gJ out L[j]=out.set i (out[i]+1):=by
    unfold gJ;rw[if_pos (by omega),hi,Int.toNat_natCast,List.getElem?_eq_getElem sk];(try rfl)
   have eJ:=GF (p:=L[j]) eV;rw[aj]at eJ;have b3:(L.take (j+1)).foldl gJ (List.replicate (bW d) 0)=out.set i (out[i]+1):=by rw[vb gJ _ L j hj,←mz];exact aj
   refine S.cX oo sk (fun a39 g6=>?_) (hi:=by rw[←hi];exact .t rfl);cases g6;refine S.fM (e:=bp) (l:=out) (j:=i) 0 1 ?_;refine S.bin ?_ (hv:=ei (by omega) (by omega));refine S.cX oo sk (fun a42 oX=>?_) (hi:=by rw[←hi];exact .t rfl);cases oX;refine S.pE (e:=bp) (l:=out) (j:=i) (out[i]+1) 1 ?_;refine S.bin ?_;exact⟨m0-1,by omega,.drop 0 (.done ⟨j+1,_,by omega,b3.symm,by simpa using dC,eJ,rfl,rfl,.r rfl⟩)⟩
  ·have aj:gJ out L[j]=out:=by
    unfold gJ;rw[if_neg (by simp only[Bool.and_eq_false_iff,decide_eq_false_iff_not]at ck;omega)]
   have eJ:=GF (p:=L[j]) eV;rw[aj]at eJ;have b3:(L.take (j+1)).foldl gJ (List.replicate (bW d) 0)=out:=by rw[vb gJ _ L j hj,←mz];exact aj
   refine S.bin ?_;exact⟨m0-1,by omega,.drop 0 (.done ⟨j+1,_,by omega,b3.symm,dC,eJ,rfl,rfl,.r rfl⟩)⟩
 ·obtain rfl:j=L.length:=by omega
  rw[List.take_length,hL]at mz;have e:lT d sum=out:=by unfold lT;rw[mz]
  rw[e];have oo:ae bp (.sl gS 0 (bW d) (.ex (bW d))) out (some gS):=ae.new dC;exact⟨_,.t rfl .nil,.bR 0 rfl oo fun o4 la hf=>.none ⟨rfl,hf⟩⟩
theorem WW [Fx F] (hr:F 223=some (.c7 ji)) (hs:F 37=some (.c7 (nh 38))) {cs:List V} {d:ay} {sum eC:Int} (hd:cP O cs d) (cL:d.wait.length≤1000000) (hlen:d.last.length≤1000000) (wz:sum≤9223372036854775807):
 bk F 24 [.agg cs,.j sum,.j eC] O (.aM [.j ((rf d sum eC).getD 0),.bool (rf d sum eC).isSome]):=by
 obtain⟨lv,wv,rfl,hl,hw,sl,sw⟩:=hd.open;refine ai.ak (au ?_);refine S.box fun a3=>?_;refine S.af 0 ?_ (l:=[lv,wv,.j d.arm,.bool d.down]);refine S.call (NI hr hs hd cL hlen wz) fun g4 kX p7 mj cd=>?_;obtain⟨rfl,hu⟩:=cd;obtain⟨aK,j8⟩:∃aK,aK=lT d sum:=⟨_,rfl⟩
 rw[←j8]at hu;have hUl:aK.length≤1000000:=by rw[j8,CX];unfold bW;omega
 refine S.len ?_ (hl:=aa.len hu);refine SW.bG (fun m E ψ R=>∃j:Nat,j+m=aK.length∧re eC (j:Int) (aK.drop j)=rf d sum eC∧kX=ψ∧Sub [(2,.j eC),(12,g4),(13,.j (aK.length:Int)),(14,.j (j:Int))] E) (m:=aK.length) (.done ⟨0,by omega,by rw[j8];(try rfl),rfl,.r rfl⟩) ?_;intro m0 E ψ R ac hI;obtain⟨j,e5,ab,rfl,hE⟩:=hI;refine C.sub hE ?_;refine S.bin ?_;refine C.D (fun cp=>?_) fun cp=>?_
 ·have hj:j<aK.length:=by omega
  rw[List.drop_eq_getElem_cons hj]at ab;simp only[re]at ab;refine S.aF hu hj fun p17 e17=>?_;refine S.aX ?_;refine S.bin ?_;refine G.mv ?_;refine G.mv ?_;refine G.bin ?_;refine G.and ?_;refine C.B (fun bV=>?_) fun bV=>?_
  ·simp only[Bool.and_eq_true,decide_eq_true_eq,Bool.not_eq_true',decide_eq_false_iff_not]at bV;rw[if_pos bV]at ab;rw[←ab];exact⟨_,.t rfl (.t rfl .nil),.none rfl⟩
  ·rw[if_neg (by intro h;simp[h.1,h.2]at bV)]at ab;refine S.bin ?_;exact⟨m0-1,by omega,.done ⟨j+1,by omega,ab,rfl,.r rfl⟩⟩
 ·obtain rfl:j=aK.length:=by omega
  rw[List.drop_length]at ab;simp only[re]at ab;rw[←ab];exact⟨_,.t rfl (.t rfl .nil),.none rfl⟩
end Go.Ev
set_option maxHeartbeats 4000000
namespace Go.Ev
variable{F:Nat→Option aN} {O:Fz}
theorem amt {q:cV} {x:Nat} (hx:x<65536):cg .rem q (.int .u16 (x:Int)) (.int .u16 300)=some (.int .u16 ((x%300:Nat):Int)):=by
 show some (V.int .u16 ((x:Int).tmod 300))=_;rw[Int.tmod_eq_emod_of_nonneg (by omega)];(try rfl)
theorem wrap64 {n:Nat} (h:n≤1000000):e6 .i64 (n:Int)=(n:Int):=zm (by omega) (by omega)
theorem amu [Fx F] {v1 v2:V} {aK:List Int} (I:aa bp O v1 aK) (J:aa bp O v2 aK) (hlen:aK.length≤1000000):bk F 21 [v1,v2] O (.bool true):=by
 refine ai.ak (au ?_);refine S.len ?_ (hl:=aa.len I);refine S.len ?_ (hl:=aa.len J);refine S.bin ?_;refine C.B (fun bU=>?_) fun bU=>?_
 ·simp at bU
 ·refine SW.loop (fun m E ψ R=>∃j:Nat,j+m=aK.length∧O=ψ∧R=[]∧Sub [(0,v1),(1,v2),(5,.j (j:Int))] E) (m:=aK.length) ⟨0,by omega,rfl,rfl,.r rfl⟩ ?_;intro m0 E ψ R ac hI;obtain⟨j,hm,rfl,rfl,hE⟩:=hI;refine C.sub hE ?_;refine S.len ?_ (hl:=aa.len I);refine S.bin ?_;refine C.D (fun dG=>?_) fun dG=>?_
  ·have hj:j<aK.length:=by omega
   refine S.aF I hj fun vS nA=>?_;refine S.aX ?_;refine S.aF J hj fun oN j4=>?_;refine S.aX ?_;refine S.bin ?_;refine C.B (fun bV=>?_) fun bV=>?_
   ·simp at bV
   ·refine S.bin ?_;exact⟨m0-1,by omega,j+1,by omega,rfl,rfl,.r rfl⟩
  ·refine⟨_,.t rfl .nil,.done ?_⟩;rfl
theorem bg1:rf (om [] 4 0).d (om [] 4 0).sum 0=some 1:=by decide+kernel
theorem bg2:lT (om [] 4 0).d (om [] 4 0).sum=[4,0,0,0]:=by decide+kernel
theorem amv (hr:F 223=some (.c7 ji)) (hs:F 37=some (.c7 (nh 38))) [Fx F]:bk F 14 [] O (.bool true):=by
 refine ai.ak (au ?_);refine S.call (Vm rfl) fun DI Ax Ik vI fo=>?_;obtain⟨rfl,g5,rfl,rfl⟩:=fo;refine S.bb 0 rfl (Vv (bi:=4) (eP:=0) (aa.nil _) (by simp) (by omega) (by omega) (by omega)) fun um sq wD o9 c3=>?_;obtain⟨cs,n27,rfl,hv,rfl⟩:=c3;refine S.drop 0 ?_;have iP:=Vu [] (bi:=4) 0 (by omega);have hL:=WT [] (bi:=4) 0 (by omega);have j8:=bg2;have hF:=bg1;obtain⟨v,KF⟩:∃v,v=om [] 4 0:=⟨_,rfl⟩
 rw[←KF]at hv iP hL j8 hF;obtain⟨lv,wv,tv,rfl,Dw,yC,PS,KG,KH,KI,gw⟩:=hv.open;have E7:bW v.d=4:=by unfold bW;rw[hL]
 have yD:=iP.lX;have dP:=iP.wait;refine S.alloc fun bs=>?_;refine S.store (v:=.agg (be lv wv tv v)) 0 ?_ (hs:=cT KG KH KI);refine S.af 0 ?_ (l:=[lv,wv,.j v.d.arm,.bool v.d.down]);refine S.ld 0 ?_;refine S.ak (WW hr hs (sum:=v.sum) (eC:=0) gw (by omega) (by omega) (by omega)) ?_;rw[hF];refine S.af 0 ?_ (l:=[lv,wv,.j v.d.arm,.bool v.d.down]);refine S.ld 0 ?_;refine S.call (NI hr hs (sum:=v.sum) gw (by omega) (by omega) (by omega)) fun mr wa wb r8 cu=>?_;obtain⟨rfl,KJ⟩:=cu;rw[j8]at KJ;have gw:=gw.mono r8;refine S.af 0 ?_ (l:=[lv,wv,.j v.d.arm,.bool v.d.down]);refine S.ak (G6 gw (by omega)) ?_;rw[E7];refine S.bin ?_;refine G.ak (fun _=>WV (s:=1) (by omega)) ?_;refine G.bin ?_;refine G.and ?_;refine G.ak (fun _=>G7 (a:=66) (by omega)) ?_;refine G.bin ?_;refine G.and ?_;refine G.ak (fun _=>G7 (a:=1) (by omega)) ?_;refine G.bin ?_;refine G.and ?_;refine G.mv ?_;refine G.and ?_;refine G.mv ?_;refine G.bin ?_;refine G.and ?_;refine G.mv ?_;refine G.len ?_ (hl:=aa.len KJ);refine G.bin ?_;refine G.and ?_;refine G.mv ?_;refine G.aF KJ (j:=0) (z:=4) (fun Pi D7=>?_) (hj:=fun _=>rfl);refine G.aX ?_;refine G.bin ?_;refine G.and ?_;exact⟨_,.t rfl .nil,.none rfl⟩
theorem amw (hr:F 223=some (.c7 ji)) (hs:F 37=some (.c7 (nh 38))) [Fx F] {pv:V} {l:Bs} (hl:aa aQ O pv l) {s a z:Int} {x:Nat} (ha:a≤9223372036854775807) (hz:z≤9223372036854775807) (hx:x<65536):
 SW F ⟨⟨4,124,false,none⟩,fun _=>True⟩ B.Gb.den [(0,pv),(1,.j s),(2,.j a),(3,.j z),(4,.int .u16 (x:Int))] O [] (sU [(pa 10,none)] (fun u _ _=>u=.bool true) never):=by
 show SW F _ B.Gb.den [(0,pv),(1,.j s),(2,.j a),(3,.j z),(4,.int .u16 (x:Int))] O [] _;refine SC.w ?_;refine S.ak (amv hr hs) ?_;refine S.un ?_;refine C.B (fun jG=>?_) fun jG=>?_
 ·cases jG
 ·refine S.len ?_ (hl:=aa.len hl);refine S.bin ?_;refine C.D (fun ey=>?_) fun ey=>?_
  ·exact⟨_,.t rfl .nil,.none rfl⟩
  ·refine S.call (Vm hl.av) fun DI Ax Ik vI fo=>?_;obtain⟨fo,g5,rfl,rfl⟩:=fo;have fo:=fo.symm;subst fo;refine S.bb 0 rfl (Vv (bi:=4) (eP:=40) hl (by omega) (by omega) (by omega) (by omega)) fun um sq wD o9 c3=>?_;obtain⟨cs,n27,rfl,hv,rfl⟩:=c3;refine S.drop 0 ?_;have iP:=Vu l (bi:=4) 40 (by omega);have hL:=WT l (bi:=4) 40 (by omega);obtain⟨v,KF⟩:∃v,v=om l 4 40:=⟨_,rfl⟩
   rw[←KF]at hv iP hL;obtain⟨lv,wv,tv,rfl,Dw,yC,PS,KG,KH,KI,gw⟩:=hv.open;have E7:bW v.d=4:=by unfold bW;rw[hL]
   refine S.alloc fun gR=>?_;refine S.store (v:=.agg (be lv wv tv v)) 0 ?_ (hs:=cT KG KH KI);refine S.bin ?_ (hv:=amt hx);refine S.qV ?_;rw[wrap64 (by omega)];refine S.u0 (e:=ec) ([]:Bs) (n:=x%300) (by omega) (by omega) fun sy ul=>?_;refine S.ct 0 ul fun rV mn E8=>?_;have gw:=gw.mono mn;obtain⟨mD,ab7⟩:∃mD,mD=V.sl sy 0 (x%300) (.ex (x%300)):=⟨_,rfl⟩
   rw[←ab7]at E8⊢;have PP:=E8.av;have Rm:cP rV [mD,.no .sl,.j 0,.bool false] ⟨List.replicate (x%300) [],[],0,false⟩:=⟨mD,.no .sl,rfl,E8,aa.nil _⟩
   have Bt:(List.replicate (x%300) ([]:Bs)).length≤1000000:=by rw[List.length_replicate];omega
   refine S.build ?_ (l:=[mD,.no .sl,.j 0,.bool false]);refine S.alloc fun ez=>?_;refine S.store (v:=.agg [mD,.no .sl,.j 0,.bool false]) 0 ?_;refine S.bin ?_;refine G.mv ?_;refine G.bin ?_;refine G.and ?_;refine G.mv ?_;refine G.mv ?_;refine G.ak (fun hb=>WV (s:=s) ?_) ?_
   ·simp at hb;omega
   refine G.ak (fun hb=>va (s:=s) ?_) ?_
   ·simp at hb;omega
   refine G.bin ?_;refine G.and ?_;refine G.mv ?_;refine G.mv ?_;refine G.ak (fun _=>G7 ha) ?_;refine G.ak (fun _=>ML ha) ?_;refine G.bin ?_;refine G.or ?_;refine G.af 0 ?_ (l:=[mD,.no .sl,.j 0,.bool false]);refine G.af 0 ?_ (l:=[mD,.no .sl,.j 0,.bool false]);refine G.ak (fun _=>G6 Rm Bt) ?_;refine G.dy 0 ?_ (l:=[mD,.no .sl,.j 0,.bool false]) (hs:=by have I:=E8.dd;simp[same,cm,I,fv,mU,vk]);refine G.ak (fun _=>MK Rm Bt) ?_;refine G.bin ?_;refine G.or ?_;refine G.aE ?_;refine G.af 1 ?_ (l:=[lv,wv,.j v.d.arm,.bool v.d.down]);refine G.ak (fun _=>G6 gw (by omega)) ?_;rw[E7];refine G.bin ?_;refine G.or ?_;refine C.B (fun yN=>?_) fun yN=>?_
   ·simp at yN
   ·refine S.ld 1 ?_;refine S.a8 fun B4=>?_;have o69:ae bp (.sl B4 0 3 (.ex 3)) [v.sum,z,2] (some B4):=ae.new rfl;refine S.ct 0 o69 fun apG l69 pg=>?_;have gw:=gw.mono l69;have vx:∀y∈[v.sum,z,2],y≤9223372036854775807:=by
     intro y hy;simp only[List.mem_cons,List.not_mem_nil,or_false]at hy;have:=iP.lX;omega
    refine S.mv ?_;refine SW.bG (fun m E ψ R=>∃j:Nat,j+m=3∧cP ψ [lv,wv,.j v.d.arm,.bool v.d.down] v.d∧aa bp ψ (.sl B4 0 3 (.ex 3)) [v.sum,z,2]∧R=[(some ez,.cells [mD,.no .sl,.j 0,.bool false] false),(some gR,.cells (be lv wv tv v) false)]∧Sub [(11,.ptr gR 0),(13,.sl B4 0 3 (.ex 3)),(14,.j (j:Int))] E) (m:=3) (.done ⟨0,by omega,gw,pg,rfl,.r rfl⟩) ?_;intro m0 E ψ R ac hI;obtain⟨j,e5,gw,pg,rfl,hE⟩:=hI;refine C.sub hE ?_;refine S.bin ?_;refine C.D (fun c71=>?_) fun c71=>?_
    ·have hj:j<([v.sum,z,2]:List Int).length:=by show j<3;omega
     obtain⟨y,hy⟩:∃y,y=([v.sum,z,2]:List Int)[j]:=⟨_,rfl⟩
     have B5:=vx _ (List.getElem_mem hj);rw[←hy]at B5;refine S.af 1 ?_ (l:=[lv,wv,.j v.d.arm,.bool v.d.down]);refine S.aF pg hj fun p78 Jm=>?_;rw[←hy]at Jm;refine S.aX ?_;refine S.af 1 ?_ (l:=[lv,wv,.j v.d.arm,.bool v.d.down]);refine S.aF pg hj fun ZX Ef=>?_;rw[←hy]at Ef;refine S.aX ?_;refine S.call (NI hr hs (sum:=y) gw (by have:=iP.wait;omega) (by omega) B5) fun v80 apH O80 KK h80=>?_;obtain⟨rfl,KL⟩:=h80;have gw:=gw.mono KK;have pg:=pg.mono KK;have Ef:=Ef.mono KK;refine S.CL ?_;refine S.dy 1 ?_ (l:=[lv,wv,.j v.d.arm,.bool v.d.down]) (hs:=by have I:=Dw.dd;have J:=yC.dd;simp[same,cm,I,J,fv,mU]);refine S.call (UJ (sum:=y) gw (by have:=iP.wait;omega) (by omega) B5) fun IQ Qr Pv EN Bd=>?_;obtain⟨rfl,f87⟩:=Bd;have gw:=gw.mono EN;have pg:=pg.mono EN;have KL:=KL.mono EN;refine S.ak (amu KL f87 (by rw[CX,E7];omega)) ?_;refine S.un ?_;refine C.B (fun Rn=>?_) fun Rn=>?_
     ·cases Rn
     ·refine SW.bG (fun m E ψ R=>∃i:Nat,i+m=6∧Qr=ψ∧R=[(some ez,.cells [mD,.no .sl,.j 0,.bool false] false),(some gR,.cells (be lv wv tv v) false)]∧Sub [(11,.ptr gR 0),(13,.sl B4 0 3 (.ex 3)),(14,.j (j:Int)),(15,.j ((i:Int)-1))] E) (m:=6) (.done ⟨0,by omega,rfl,rfl,.r rfl⟩) ?_;intro m2 E ψ R ac hI;obtain⟨i,Bk,rfl,rfl,hE⟩:=hI;refine C.sub hE ?_;refine S.bin ?_;refine C.D (fun EO=>?_) fun EO=>?_
      ·refine S.af 1 ?_ (l:=[lv,wv,.j v.d.arm,.bool v.d.down]);refine S.aF pg hj fun p99 e99=>?_;rw[←hy]at e99;refine S.aX ?_;refine S.ak (WW hr hs (sum:=y) (eC:=(i:Int)-1) gw (by have:=iP.wait;omega) (by omega) B5) ?_;refine S.af 1 ?_ (l:=[lv,wv,.j v.d.arm,.bool v.d.down]);refine S.aF pg hj fun apI ab8=>?_;rw[←hy]at ab8;refine S.aX ?_;refine S.ak (UK (sum:=y) (eC:=(i:Int)-1) gw (by have:=iP.wait;omega) (by omega) B5) ?_;refine S.bin ?_;refine G.mv ?_;refine G.mv ?_;refine G.bin ?_ (hv:=fun _=>Wk);refine G.or ?_;refine C.B (fun Ro=>?_) fun Ro=>?_
       ·simp at Ro
       ·refine S.bin ?_ (v:=.j (((i+1:Nat):Int)-1)) (hv:=by rw[ei (by omega) (by omega)];congr 2;omega);exact⟨m2-1,by omega,.done ⟨i+1,by omega,rfl,rfl,.r rfl⟩⟩
      ·refine S.bin ?_;exact⟨m0-1,by omega,.done ⟨j+1,by omega,gw,pg,rfl,.r rfl⟩⟩
    ·exact⟨_,.t rfl .nil,.none rfl⟩
end Go.Ev
