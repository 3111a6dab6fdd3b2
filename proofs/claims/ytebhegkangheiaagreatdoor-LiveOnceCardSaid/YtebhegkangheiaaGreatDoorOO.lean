/- A part of the proof of glacislaw13.LiveOnce. -/
import Derived.Test.YtebhegkangheiaaGreatDoorON
import Derived.Deep.Slices
import Derived.Carry
import Derived.OpenShut
import Derived.Test.YtebhegkangheiaaGreatDoorProg
import Derived.WalkKit
import Derived.Shelf.Strings.Repeat
import Derived.Shelf.SlGeneric
import Derived.Ground.SlsfProg
import Derived.Shelf.SlSortCmp.WholeK
namespace Go.Ev
open Go Go.Deep Go.ChangeShapes Go.RowKit
section
variable{H:Type} {enc:TypeId×Value->H} {P:Program} {W:World}
theorem okWide_slice {r:Go.Reach} {d:Nat} {t e:TypeId} {v:Value} (ht:P.underlying t=some (.slice e)) (hv:Value.okWide P W r d t v):∃a n c,v=.slice a n c:=by
 simp only[Value.okWide,ht,Cell.okWide,Cell.ok]at hv;cases v<;>simp at hv
 exact⟨_,_,_,rfl⟩
theorem CW (hl:laidOutB P=true) {B:World} (hk:Kept W B):∀{j:List TypeId} {vs:List Value} {ds:List (DataW H)} {ps:List MemPlace},
 (∀t∈j,P.readableRec t=true/\t<P.types.size)->DataW.TrodAll enc P W 0 (fun _=>true) true j vs ds ps->DataW.TrodAll enc P B 0 (fun b=>decide (b<W.heap.size)) true j vs ds ps
 |[],[],[],_,_,h=>h
 |t::j,v::vs,d::ds,ps,ht,h=>by
  obtain⟨p,q,o,aj,rfl⟩:=h;have A:∀x∈p,x.block<W.heap.size:=by
   obtain⟨n,hn⟩:=o;exact DataW.trod_lt n _ _ _ hn
  refine⟨p,q,?_,CW hl hk (fun t h=>ht t (cR _ h)) aj,rfl⟩;obtain⟨D,F⟩:=ht t (dc);refine WideElems.Trod_stays hl D F o (fun x hx=>?_) (fun x hx=>by simpa using A x hx);obtain⟨_,k2,_,_⟩:=hk;cases x with
  |cell b I=>exact World.cell?_of_block (w:=W) (k2 b (A _ hx))
  |map b=>exact k2 b (A _ hx)
 |[],_::_,_,_,_,h=>by cases h
 |[],[],_::_,_,_,h=>by cases h
 |_::_,[],_,_,_,h=>by cases h
 |_::_,_::_,[],_,_,h=>by cases h
theorem Ow {x:Int} (hw:(Lit.int .u8 x).wf=true):∃b:UInt8,x=(b.toNat:Int):=by
 have d:(decide (IntKind.min .u8<=x)&&decide (x<=IntKind.max .u8))=true:=hw;simp only[be,aR]at d;have h0:0<=x:=d.1;have o:x<=255:=d.2;refine⟨UInt8.ofNat x.toNat,?_⟩;have:x.toNat<256:=by omega
 simp[qd this];omega
theorem open_row {U:AM} {Λ:Pa->Prop} {h:Hp} (s:aS ⟨P,W,W.heap.size,false⟩ U Λ h [] W) {b off:Nat} {l:List V} (hl:l≠[]) (hx:∀i v,l[i]? =some v->∃c,W.cell? ⟨b,off+i,none⟩=some c/\VR U v c):
 ∃top dm F,aS ⟨P,W,W.heap.size,false⟩ (U.put h.next ⟨b,off,top,dm⟩) F (h.alloc (.ro l)) [] W/\U.le (U.put h.next ⟨b,off,top,dm⟩):=by
 have D:0<l.length:=rQ.2 hl;obtain⟨Pq,h0,_⟩:=hx 0 l[0] (bj D);have G:=AM.iO (U:=U) (a:=h.next) (L:=⟨b,off,0,true⟩) s.iP;unfold World.cell? at h0;cases d:W.heap[b]? with
 |none=>rw[d]at h0;cases h0
 |some I=>
  cases I with
  |cells cs el fr=>
   have A:∀i v,l[i]? =some v->∃c,cs[off+i]? =some c/\VR U v c:=fun i v hv=>by
    obtain⟨c,o,aj⟩:=hx i v hv;unfold World.cell? at o;rw[d]at o;exact⟨c,by simpa using o,aj⟩
   have B:b<W.heap.size:=(gI.1 d).1;have j:=AM.iO (U:=U) (a:=h.next) (L:=⟨b,off,cs.size,true⟩) s.iP;refine⟨cs.size,true,_,s.yS (L:=⟨b,off,cs.size,true⟩) B d rfl ⟨?_,fun i v hv=>?_⟩,j⟩
   ·obtain⟨c,o,_⟩:=A (l.length-1) l[l.length-1] (bj (by omega));have:=(gI.1 o).1;show off+l.length<=cs.size;omega
   ·obtain⟨c,o,aj⟩:=A i v hv;exact⟨c,o,aj.mono j⟩
  |_=>rw[d]at h0;cases h0
theorem Ox {n:Nat} {U:Type} {p:Nat->U->Prop} (h:∀i,i<n->∃x,p i x):∃l:List U,l.length=n/\∀i x,l[i]? =some x->p i x:=by
 induction n with
 |zero=>exact⟨[],rfl,fun i x hx=>by simp at hx⟩
 |succ n B=>
  obtain⟨l,o,aj⟩:=B (fun i hi=>h i (nT hi));obtain⟨x,hx⟩:=h n (jV n);refine⟨l++[x],by simp[o],fun i y d=>?_⟩;rcases kr i n with hi|hi
  ·rw[dt (by omega)]at d;exact aj i y d
  ·rw[db (by omega)]at d;rcases kr (i-l.length) 1 with j|j
   ·have:i=n:=by omega
    subst this;have A:i-l.length=0:=by omega
    rw[A]at d;simp at d;subst d;exact hx
   ·rw[o4 (by simpa using j)]at d;cases d
theorem Oy {r:Go.Reach} {ag:Nat} {t e:TypeId} (ht:P.underlying t=some (.slice e)) (he:P.underlying e=some (.int .u8)) (hc:P.cellsOf e=1) {v:Value} {d:DataW H} {ps:List MemPlace}
 (hv:Value.okWide P W r ag t v) (hd:DataW.Trod enc P W 0 (fun _=>true) true t v d ps) {U:AM} {Λ:Pa->Prop} {h:Hp} (s:aS ⟨P,W,W.heap.size,false⟩ U Λ h [] W) (wf:WF h):
 ∃(u:V) (l:List UInt8) (ac:AM) (S:Pa->Prop) (h':Hp),aS ⟨P,W,W.heap.size,false⟩ ac S h' [] W/\U.le ac/\VR ac u v/\Sl h' u 1 l.length (l.map cz)/\y3 u 1/\jD h.next.toNat h h':=by
 obtain⟨a',n,c,rfl⟩:=okWide_slice ht hv;obtain⟨fuel,al⟩:=hd;rcases open_slice1 ht hc al with⟨o,_⟩|⟨a,len,cap,m,aw,G,D,ar,o,au,Q,av,hm,_,hx⟩
 ·have M:Value.slice a' n c=.slice none 0 0:=by simpa[Value.cells]using o
  rw[M];exact⟨.no .sl,[],U,Λ,h,s,AM.le_refl U,.pv,⟨rfl,.inl ⟨rfl,rfl⟩⟩,trivial,jD.refl wf⟩
 ·have M:Value.slice a' n c=.slice (some a) len cap:=by simpa[Value.cells]using o
  rw[M];simp only[if_true]at hm;subst hm;by_cases h0:len=0
  ·subst h0;by_cases ak:m=0
   ·subst ak;exact⟨.sl h.next 0 0 (.ex 0),[],U,Λ,h.alloc (.cells [] false),s.ghost _,AM.le_refl U,.de _ _ _ _ (.inl rfl),⟨rfl,.inr ⟨_,_,_,rfl,.of (sP _ _) rfl⟩⟩,aB 0,jD.made wf _⟩
   ·obtain⟨aj,_⟩:=hx 0 (by omega);have ch:a.spot=none:=by have:=World.cell?_spot aj;simpa[Addr.add]using this
    obtain⟨j,A,ae⟩:=a;simp only at ch;subst ch;have B:W.cell? ⟨j,A+0,none⟩=some (G 0):=by simpa[Addr.add]using aj
    unfold World.cell? at B;cases F:W.heap[j]? with
    |none=>simp[F]at B
    |some I=>
     cases I with
     |cells cs el fr=>
      have an:j<W.heap.size:=(gI.1 F).1;have R:=AM.iO (U:=U) (a:=h.next) (L:=⟨j,A,cs.size,true⟩) s.iP;refine⟨.sl h.next 0 0 (.ex m),[],_,_,_,s.yS (L:=⟨j,A,cs.size,true⟩) (l:=[]) an F rfl ⟨?_,fun i v hv=>by simp at hv⟩,R,?_,⟨rfl,.inr ⟨_,_,_,rfl,⟨[],by simp[bn.cells,sP],fun i v hv=>by simp at hv⟩⟩⟩,cS _,jD.made wf _⟩
      ·rw[F]at B;have:=(gI.1 (by simpa using B:cs[A]? =some (G 0))).1;show A+0<=cs.size;omega
      ·exact .sl (U:=U.put h.next ⟨j,A,cs.size,true⟩) _ 0 _ _ ⟨j,A,cs.size,true⟩ _ (AM.h2 _ _ _) Q rfl
     |_=>simp[F]at B
  ·obtain⟨aj,_⟩:=hx 0 (by omega);have ch:a.spot=none:=by have:=World.cell?_spot aj;simpa[Addr.add]using this
   obtain⟨j,A,ae⟩:=a;simp only at ch;subst ch;obtain⟨l,ab,am⟩:=Ox (n:=len) (p:=fun i (b:UInt8)=>W.cell? ⟨j,A+i,none⟩=some (.int .u8 b.toNat)) (fun i hi=>by
    obtain⟨Y,ah⟩:=hx i (by omega);obtain⟨x,ao,_,ap⟩:=DataW.trod_int he ah;obtain⟨b,rfl⟩:=Ow ap;refine⟨b,?_⟩;have ai:G i=.int .u8 b.toNat:=by simpa using ao
    rw[<-ai];by_cases Z:i=0
    ·subst Z;simpa[Addr.add]using Y
    ·simpa[Addr.add,Z]using Y)
   obtain⟨top,dm,S,s',R⟩:=open_row s (b:=j) (off:=A) (l:=l.map cz) (fun e=>by rw[List.map_eq_nil_iff]at e;subst e;exact h0 (by simpa using ab.symm)) (fun i v hv=>by
    rw[k1]at hv;cases O:l[i]? with
    |none=>simp[O]at hv
    |some b=>simp[O]at hv;subst hv;exact⟨_,am i b O,.int _ _⟩)
   refine⟨.sl h.next 0 len (.ex m),l,_,S,_,s',R,.sl (U:=U.put h.next ⟨j,A,top,dm⟩) _ 0 _ _ ⟨j,A,top,dm⟩ _ (AM.h2 _ _ _) Q rfl,⟨by simp,.inr ⟨_,_,_,by rw[ab],⟨l.map cz,by simp[bn.cells,sP],fun i v hv=>by rw[eV];exact hv⟩⟩⟩,Q,jD.made wf _⟩
end
theorem Oz {w w':World} (h:Kept w w') (may:MemPlace->Prop):w.keptBut w' may:=by
 obtain⟨_,aj,o,A⟩:=h;refine⟨o,A,fun i hi=>?_⟩;rw[aj i hi];split
 ·rename_i j d;rw[j]at d;cases d;exact⟨rfl,rfl,rfl,fun _ _=>rfl⟩
 ·rename_i j d;rw[j]at d;cases d;exact .inr ⟨rfl,rfl⟩
 ·rfl
end Go.Ev
namespace Go.Ev
open Go Go.Deep Go.ChangeShapes Go.RowKit
section
variable{H:Type} {enc:TypeId×Value->H} {P:Program} {W:World}
theorem Ri {t e:TypeId} {n:Nat} (hn:n≠1) (ht:P.underlying t=some (.array n e)) (he:P.underlying e=some (.int .u8)) (hc:P.cellsOf e=1) (I:P.cellsOf t=n) {v:Value} {d:DataW H} {ps:List MemPlace} (hd:DataW.Trod enc P W 0 (fun _=>true) true t v d ps):
 ∃j:List UInt8,j.length=n/\v=.agg (j.map fun b=>Value.int .u8 (b.toNat:Int)).toArray:=by
 obtain⟨fuel,h⟩:=hd;obtain⟨xs,m,_,_,hl,L,hx⟩:=DataW.trod_array ht h;obtain⟨cs,A⟩:∃cs,cs=v.cells.toList:=⟨_,rfl⟩
 rw[<-A]at hl hx;rw[I]at hl;obtain⟨j,o,aj⟩:=Ox (n:=n) (p:=fun i (b:UInt8)=>cs[i]? =some (.int .u8 (b.toNat:Int))) (fun i hi=>by
  have B:=hx i hi;rw[hc,Nat.mul_one,bj (by omega)]at B;obtain⟨x,F,_,G⟩:=DataW.trod_int he B;obtain⟨b,rfl⟩:=Ow G;refine⟨b,?_⟩;have:=congrArg List.head? F;rw[List.head?_take,ab (by decide),List.head?_drop]at this;exact this)
 have e:cs=j.map fun b=>Value.int .u8 (b.toNat:Int):=by
  apply qc;intro i;rw[k1];by_cases hi:i<n
  ·have D:j[i]? =some j[i]:=bj (by omega);rw[aj i _ D,D];(try rfl)
  ·rw[o4 (by omega),o4 (by omega)];(try rfl)
 refine⟨j,o,?_⟩;rw[<-e,A];cases v with
 |agg a=>simp[Value.cells]
 |_=>exfalso;rw[A]at hl;simp[Value.cells]at hl;omega
theorem QZ {U:AM}:∀d:List UInt8,bd U (d.map cz) (d.map fun b=>Value.int .u8 (b.toNat:Int))
 |[]=>.nil
 |b::l=>.cons _ _ _ _ (.int _ _) (QZ l)
end
end Go.Ev
namespace Go.Ev.tV
open Go Go.Proofs Go.Ev
def xt (F:Nat->Option aP):Prop:=∀n,n≠38->n≠215->F n=(ea Tryz.prog n).map .code
def o3 {U:Type} (P:Nat->U->Prop):List (List (Nat×U))->Prop
 |[]=>True
 |l::r=>(∀x∈l,P x.1 x.2)/\o3 P r
section
variable{U:Type} {P:Nat->U->Prop}
theorem Tc {n:Nat} {c:U} {l:List (Nat×U)} {r:List (List (Nat×U))} (h:P n c) (aj:o3 P (l::r)):o3 P (((n,c)::l)::r):=⟨fun x hx=>(bS.1 hx).elim (fun e=>by subst e;exact h) (aj.1 x),aj.2⟩
theorem Tn {r:List (List (Nat×U))} (h:o3 P r):o3 P ([]::r):=⟨fun _ hx=>(by cases hx),h⟩
theorem CX {f:Nat} {c:U}:∀{l:List (Nat×U)},(∀x∈l,P x.1 x.2)->sY f l=some c->P f c
 |(m,y)::l,h,hc=>by
  unfold sY at hc;cases d:Nat.beq m f with
  |true=>rw[d]at hc;cases hc;have:=dG d;subst this;exact h (m,_) (dc ..)
  |false=>rw[d]at hc;exact CX (fun z j=>h z (cR _ j)) hc
theorem CY {f:Nat} {c:U}:∀{t:List (List (Nat×U))},o3 P t->qX f t=some c->P f c
 |l::r,h,hc=>by
  unfold qX at hc;split at hc
  ·cases hc;exact CX h.1 ‹_›
  ·exact CY h.2 hc
end
theorem OA:o3 (fun n c=>n≠38/\n≠215/\ea Tryz.prog n=some ⟨Co.den c.1,c.2.1,c.2.2⟩) vD:=by
 repeat(first|exact trivial|refine Tn ?_|refine Tc ⟨by decide,by decide,by kernel_rfl⟩ ?_)
theorem CZ {F:Nat->Option aP} (h:xt F):Fx F:=⟨fun hc=>by
 obtain⟨h0,o,hk⟩:=CY OA hc;rw[h _ h0 o,hk];(try rfl)⟩
end Go.Ev.tV
namespace Go.Proofs
open Go.Shelf
def Tryz.sortL_ren:Go.Shelf.Ren:=⟨fun|6=>38|15=>78|14=>77|28=>145|29=>146|20=>137|21=>138|22=>139|23=>140|24=>141|25=>142|26=>143|27=>144|46=>202|47=>203|48=>204|49=>205|50=>206|57=>236|n=>n,fun|22=>45|24=>60|25=>118|3=>3|39=>173|0=>0|53=>239|55=>241|4=>4|46=>233|45=>232|50=>78|5=>5|9=>9|66=>311|70=>315|76=>336|77=>337|n=>n,fun|n=>n⟩
theorem Tryz.sortL:Go.Proofs.SlLaysF0.n6 Tryz.prog Tryz.sortL_ren:={
 mixed:=by kernel_rfl
 f6:=⟨Tryz.f38.name,by decide,Tryz.func38.trans (congrArg some (by kernel_rfl))⟩
 f14:=⟨Tryz.f77.name,by decide,Tryz.func77.trans (congrArg some (by kernel_rfl))⟩
 f15:=Tryz.func78.trans (congrArg some (by kernel_rfl))
 f20:=⟨Tryz.f137.name,by decide,Tryz.func137.trans (congrArg some (by kernel_rfl))⟩
 f21:=⟨Tryz.f138.name,by decide,Tryz.func138.trans (congrArg some (by kernel_rfl))⟩
 f22:=⟨Tryz.f139.name,by decide,Tryz.func139.trans (congrArg some (by kernel_rfl))⟩
 f23:=⟨Tryz.f140.name,by decide,Tryz.func140.trans (congrArg some (by kernel_rfl))⟩
 f24:=⟨Tryz.f141.name,by decide,Tryz.func141.trans (congrArg some (by kernel_rfl))⟩
 f25:=⟨Tryz.f142.name,by decide,Tryz.func142.trans (congrArg some (by kernel_rfl))⟩
 f26:=⟨Tryz.f143.name,by decide,Tryz.func143.trans (congrArg some (by kernel_rfl))⟩
 f27:=⟨Tryz.f144.name,by decide,Tryz.func144.trans (congrArg some (by kernel_rfl))⟩
 f28:=Tryz.func145.trans (congrArg some (by kernel_rfl))
 f29:=Tryz.func146.trans (congrArg some (by kernel_rfl))
 f46:=⟨Tryz.f202.name,by decide,Tryz.func202.trans (congrArg some (by kernel_rfl))⟩
 f47:=Tryz.func203.trans (congrArg some (by kernel_rfl))
 f48:=Tryz.func204.trans (congrArg some (by kernel_rfl))
 f49:=⟨Tryz.f205.name,by decide,Tryz.func205.trans (congrArg some (by kernel_rfl))⟩
 f50:=⟨Tryz.f206.name,by decide,Tryz.func206.trans (congrArg some (by kernel_rfl))⟩
 f57:=⟨Tryz.f236.name,by decide,Tryz.func236.trans (congrArg some (by kernel_rfl))⟩
 t0:=Tryz.underlying0
 a0:=Tryz.isAgg0
 z0:=Tryz.sizeOf0
 v0:=Tryz.zeroValue0
 t3:=Tryz.underlying3
 a3:=Tryz.isAgg3
 z3:=Tryz.sizeOf3
 v3:=Tryz.zeroValue3
 t4:=Tryz.underlying4
 a4:=Tryz.isAgg4
 z4:=Tryz.sizeOf4
 v4:=Tryz.zeroValue4
 t5:=Tryz.underlying5
 a5:=Tryz.isAgg5
 z5:=Tryz.sizeOf5
 v5:=Tryz.zeroValue5
 t9:=Tryz.underlying9
 a9:=Tryz.isAgg9
 z9:=Tryz.sizeOf9
 v9:=Tryz.zeroValue9
 t22:=Tryz.underlying45
 a22:=Tryz.isAgg45
 z22:=Tryz.sizeOf45
 v22:=Tryz.zeroValue45
 t25:=Tryz.underlying118
 a25:=Tryz.isAgg118
 z25:=Tryz.sizeOf118
 v25:=Tryz.zeroValue118
 t39:=Tryz.underlying173
 a39:=Tryz.isAgg173
 z39:=Tryz.sizeOf173
 v39:=Tryz.zeroValue173
 t45:=Tryz.underlying232
 a45:=Tryz.isAgg232
 z45:=Tryz.sizeOf232
 v45:=Tryz.zeroValue232
 t46:=Tryz.underlying233
 a46:=Tryz.isAgg233
 z46:=Tryz.sizeOf233
 v46:=Tryz.zeroValue233
 t50:=Tryz.underlying78
 a50:=Tryz.isAgg78
 z50:=Tryz.sizeOf78
 v50:=Tryz.zeroValue78
 t53:=Tryz.underlying239
 a53:=Tryz.isAgg239
 z53:=Tryz.sizeOf239
 v53:=Tryz.zeroValue239
 t55:=Tryz.underlying241
 a55:=Tryz.isAgg241
 z55:=Tryz.sizeOf241
 v55:=Tryz.zeroValue241
 t66:=Tryz.underlying311
 a66:=Tryz.isAgg311
 z66:=Tryz.sizeOf311
 v66:=Tryz.zeroValue311
 t70:=Tryz.underlying315
 a70:=Tryz.isAgg315
 z70:=Tryz.sizeOf315
 v70:=Tryz.zeroValue315
 t76:=Tryz.underlying336
 a76:=Tryz.isAgg336
 z76:=Tryz.sizeOf336
 v76:=Tryz.zeroValue336
 t77:=Tryz.underlying337
 a77:=Tryz.isAgg337
 z77:=Tryz.sizeOf337
 v77:=Tryz.zeroValue337}
def Tryz.lays105_ren:Go.Shelf.Ren:=⟨fun|105=>215|212=>237|99=>238|165=>239|166=>240|170=>241|169=>242|263=>258|264=>259|206=>260|240=>261|241=>262|276=>269|277=>270|n=>n,fun|9=>9|3=>3|4=>4|20=>20|0=>0|46=>173|109=>339|5=>5|72=>344|76=>347|51=>239|146=>368|53=>241|148=>370|70=>342|37=>22|75=>346|127=>372|164=>377|80=>167|n=>n,fun|n=>n⟩
theorem Tryz.lays105:Go.Proofs.Lays.n105 Tryz.prog Tryz.lays105_ren:={
 mixed:=by kernel_rfl
 f99:=Tryz.func238.trans (congrArg some (by kernel_rfl))
 f105:=Tryz.func215.trans (congrArg some (by kernel_rfl))
 f165:=Tryz.func239.trans (congrArg some (by kernel_rfl))
 f166:=Tryz.func240.trans (congrArg some (by kernel_rfl))
 f169:=Tryz.func242.trans (congrArg some (by kernel_rfl))
 f170:=Tryz.func241.trans (congrArg some (by kernel_rfl))
 f206:=Tryz.func260.trans (congrArg some (by kernel_rfl))
 f212:=Tryz.func237.trans (congrArg some (by kernel_rfl))
 f240:=Tryz.func261.trans (congrArg some (by kernel_rfl))
 f241:=Tryz.func262.trans (congrArg some (by kernel_rfl))
 f263:=Tryz.func258.trans (congrArg some (by kernel_rfl))
 f264:=Tryz.func259.trans (congrArg some (by kernel_rfl))
 f276:=Tryz.func269.trans (congrArg some (by kernel_rfl))
 f277:=Tryz.func270.trans (congrArg some (by kernel_rfl))
 t0:=Tryz.underlying0
 a0:=Tryz.isAgg0
 z0:=Tryz.sizeOf0
 v0:=Tryz.zeroValue0
 t3:=Tryz.underlying3
 a3:=Tryz.isAgg3
 z3:=Tryz.sizeOf3
 v3:=Tryz.zeroValue3
 t4:=Tryz.underlying4
 a4:=Tryz.isAgg4
 z4:=Tryz.sizeOf4
 v4:=Tryz.zeroValue4
 t5:=Tryz.underlying5
 a5:=Tryz.isAgg5
 z5:=Tryz.sizeOf5
 v5:=Tryz.zeroValue5
 t9:=Tryz.underlying9
 a9:=Tryz.isAgg9
 z9:=Tryz.sizeOf9
 v9:=Tryz.zeroValue9
 t20:=Tryz.underlying20
 a20:=Tryz.isAgg20
 z20:=Tryz.sizeOf20
 v20:=Tryz.zeroValue20
 t37:=Tryz.underlying22
 a37:=Tryz.isAgg22
 z37:=Tryz.sizeOf22
 v37:=Tryz.zeroValue22
 t46:=Tryz.underlying173
 a46:=Tryz.isAgg173
 z46:=Tryz.sizeOf173
 v46:=Tryz.zeroValue173
 t51:=Tryz.underlying239
 a51:=Tryz.isAgg239
 z51:=Tryz.sizeOf239
 v51:=Tryz.zeroValue239
 t53:=Tryz.underlying241
 a53:=Tryz.isAgg241
 z53:=Tryz.sizeOf241
 v53:=Tryz.zeroValue241
 t70:=Tryz.underlying342
 a70:=Tryz.isAgg342
 z70:=Tryz.sizeOf342
 v70:=Tryz.zeroValue342
 t72:=Tryz.underlying344
 a72:=Tryz.isAgg344
 z72:=Tryz.sizeOf344
 v72:=Tryz.zeroValue344
 t75:=Tryz.underlying346
 a75:=Tryz.isAgg346
 z75:=Tryz.sizeOf346
 v75:=Tryz.zeroValue346
 t76:=Tryz.underlying347
 a76:=Tryz.isAgg347
 z76:=Tryz.sizeOf347
 v76:=Tryz.zeroValue347
 t109:=Tryz.underlying339
 a109:=Tryz.isAgg339
 z109:=Tryz.sizeOf339
 v109:=Tryz.zeroValue339
 t127:=Tryz.underlying372
 a127:=Tryz.isAgg372
 z127:=Tryz.sizeOf372
 v127:=Tryz.zeroValue372
 t146:=Tryz.underlying368
 a146:=Tryz.isAgg368
 z146:=Tryz.sizeOf368
 v146:=Tryz.zeroValue368
 t148:=Tryz.underlying370
 a148:=Tryz.isAgg370
 z148:=Tryz.sizeOf370
 v148:=Tryz.zeroValue370
 t164:=Tryz.underlying377
 a164:=Tryz.isAgg377
 z164:=Tryz.sizeOf377
 v164:=Tryz.zeroValue377}
theorem Tryz.Builder_Extra_105:Builder.Extra Tryz.prog Tryz.lays105_ren:={
 sizeBuilder:=by kernel_rfl
 liesBuilder:=by kernel_rfl
 t5:=Tryz.underlying5
 a5:=Tryz.isAgg5
 z5:=Tryz.sizeOf5
 v5:=Tryz.zeroValue5
 infoByte:=by kernel_rfl
 cellsByte:=by kernel_rfl
 sizeByte:=by kernel_rfl
 neB5:=by decide}
open Go.RowKit Go.Lib in
open Go.RowKit Go.Lib in
open Go.RowKit Go.Lib in
open Go.RowKit Go.Lib in
open Go.RowKit Go.Lib in
open Go.RowKit Go.Lib in
open Go.RowKit Go.Lib in
theorem Tryz.strings_Repeat (s:ByteArray) (c:Nat) (w:World) (hc:c<=9223372036854775807) (hlen:s.size*c<=140737488355328):
 Calls Tryz.prog 215 #[.string s,.int .i64 c] w fun e w'=>e=.returned (.string ⟨(Lib.repeatL s.data.toList c).toArray⟩)/\Below w.heap.size w w':=Any.strings_Repeat Tryz.lays105 Tryz.Builder_Extra_105 s c w hc hlen
end Go.Proofs
namespace Go.Ev.tV
open Go Go.Proofs Go.Ev Go.Sort Go.Shelf
theorem names:ou Tryz.prog=true:=by kernel_rfl
noncomputable def F1:Nat->Option aP:=fun i=>(ea Tryz.prog i).map .code
theorem OB:xt F1:=fun _ _ _=>rfl
instance OQ:Fx F1:=CZ OB
theorem OC:∀f g,F1 f≠some (.cA g):=fun f g h=>by
 unfold F1 at h;cases hc:ea Tryz.prog f with
 |none=>rw[hc]at h;cases h
 |some i=>rw[hc]at h;cases h
theorem OD {w w':World} (h:Kept w w') (ht:w'.tape=w.tape) (hd:w.drawn<=w'.drawn):∃q B,w'=grow (w.drewN q) B:=by
 obtain⟨o,aj,d,j⟩:=h;refine⟨w'.drawn-w.drawn,w'.heap.extract w.heap.size w'.heap.size,?_⟩;have A:w'.heap=w.heap++w'.heap.extract w.heap.size w'.heap.size:=by
  apply Array.ext_getElem?;intro i;by_cases hi:i<w.heap.size
  ·rw[p7 hi,aj i hi]
  ·rw[Array.getElem?_append_right (by omega),Array.getElem?_extract];by_cases D:i<w'.heap.size
   ·rw[ae (by omega)];congr 1;omega
   ·rw[ab (by omega),Array.getElem?_eq_none (by omega)]
 cases w' with
 |mk heap tape drawn os output=>
  simp only at ht hd d j A⊢;subst ht;subst d;subst j;show _=World.mk _ _ _ _ _;congr 1;show drawn=w.drawn+(drawn-w.drawn);omega
theorem OE (aw off size:Nat) (w:World):CmpLays Tryz.prog 39 #[] dQ 2 jt aw off size w:=by
 intro m os d _ x y;have h:=Ng (P:=Tryz.prog) (F:=F1) names (vg _) OC (f:=39) (fn:=⟨B.qW.den,17,[(pa 4,none)]⟩) (Fx.h (c:=(B.qW,17,[(pa 4,none)])) rfl)
  (args:=[.agg [.int .i64 x.addr,.int .i64 x.gen],.agg [.int .i64 y.addr,.int .i64 y.gen]]) (ce:=[.agg (dQ x).toArray,.agg (dQ y).toArray]) (v:=.int .i64 (jt x y))
  (.cons _ _ _ _ (.agg _ [.int .i64 x.addr,.int .i64 x.gen] (.cons _ _ _ _ (.int _ _) (.cons _ _ _ _ (.int _ _) .nil))) (.cons _ _ _ _ (.agg _ [.int .i64 y.addr,.int .i64 y.gen] (.cons _ _ _ _ (.int _ _) (.cons _ _ _ _ (.int _ _) .nil))) .nil))
  (Nu x y) (sortWorldK dQ 2 w aw off m d os)
 refine h.mono fun e w' j=>?_;obtain⟨c,U,rfl,hv,hk,ht,hd⟩:=j;cases hv;exact⟨rfl,OD hk ht hd⟩
theorem OF (aw off cap:Nat) (d:Array ah) (w:World) (h:HoldsK dQ 2 w aw off d) (hblk:aw<w.heap.size) (j:d.size<4611686018427387904):
 Calls Tryz.prog 38 #[.slice (some ⟨aw,off,none⟩) d.size cap,.func (.func 39) #[] #[]] w fun e w'=>e=.returned (.tuple #[])/\∃d' n os,PermIn 0 d.size d d'/\SortedIn (ltOf jt) 0 d.size d'/\w'=sortWorldK dQ 2 w aw off n d' os:=
 AnyQ.slices_SortFunc Tryz.sortL 2 (fun w=>Tryz.isAgg60 w) (fun w=>Tryz.sizeOf60 w) dQ (fun _=>rfl) (fun x v hv=>by
  simp only[dQ,bS,tZ,or_false]at hv;rcases hv with rfl|rfl<;>rfl) jt No 39 #[] aw off cap d w (enters_of Tryz.func39 (by kernel_rfl) rfl) (OE aw off d.size w) h hblk j
theorem OG (w:World):Calls Tryz.prog 38 #[.slice none 0 0,.func (.func 39) #[] #[]] w fun e w'=>e=.returned (.tuple #[])/\Kept w w':=by
 cases hc:ea Tryz.prog 38 with
 |none=>
  have h:sG Tryz.prog 38=true:=by kernel_rfl
  unfold sG at h;rw[hc]at h;cases h
 |some fn=>
  have d:isUnit ((ea Tryz.prog 38).elim (.bad 0 0) fun fn=>run (fun i=>(ea Tryz.prog i).map .code) 2000 (enter fn 38 [.no .sl,.fn 39 []] false) [] hI [])=true:=by kernel_rfl
  rw[hc]at d;exact Nh (n:=2000) names hc (args:=[.no .sl,.fn 39 []]) (ce:=[.slice none 0 0,.func (.func 39) #[] #[]]) (.cons _ _ _ _ .pv (.cons _ _ _ _ (.fn 39 [] [] .nil) .nil)) d w
theorem OH:pB Tryz.prog 38 (jQ 39):=Nr OF OG
end Go.Ev.tV
