/- A part of the proof of glacislaw13.LiveAll (made short by a program). -/
import Derived.Test.YtmglhbclhfgmaaaGreatDoorVM
import Derived.Deep.Slices
import Derived.Carry
import Derived.OpenShut
import Derived.Test.YtmglhbclhfgmaaaGreatDoorProg
import Derived.WalkKit
import Derived.Shelf.Strings.Repeat
import Derived.Shelf.SlSortCmp.WholeK
namespace Go.Ev
open Go Go.Deep Go.ChangeShapes Go.RowKit
section
variable{H:Type} {enc:TypeId×Value→H} {P:Program} {W:World}
theorem okWide_slice {r:Go.Reach} {oK:Nat} {t e:TypeId} {v:Value} (ht:P.underlying t=some (.slice e)) (hv:Value.okWide P W r oK t v):∃a n c,v=.slice a n c:=by
 simp only[Value.okWide,ht,Cell.okWide,Cell.ok]at hv;cases v<;>simp at hv
 exact⟨_,_,_,rfl⟩
theorem Tp (hl:laidOutB P=true) {W':World} (hk:Kept W W'):∀{ts:List TypeId} {vs:List Value} {ds:List (DataW H)} {ps:List MemPlace},
 (∀t∈ts,P.readableRec t=true∧t<P.types.size)→DataW.TrodAll enc P W 0 (fun _=>true) true ts vs ds ps→DataW.TrodAll enc P W' 0 (fun b=>decide (b<W.heap.size)) true ts vs ds ps
 |[],[],[],_,_,h=>h
 |t::ts,v::vs,d::ds,ps,ht,h=>by
  obtain⟨p,q,I,J,rfl⟩:=h;have ap:∀x∈p,x.block<W.heap.size:=by
   obtain⟨n,hn⟩:=I;exact DataW.trod_lt n _ _ _ hn
  refine⟨p,q,?_,Tp hl hk (fun t h=>ht t (amI _ h)) J,rfl⟩;obtain⟨r1,r2⟩:=ht t (apV);refine WideElems.Trod_stays hl r1 r2 I (fun x hx=>?_) (fun x hx=>by simpa using ap x hx);obtain⟨_,k2,_,_⟩:=hk;cases x with
  |cell b o=>exact World.cell?_of_block (w:=W) (k2 b (ap _ hx))
  |map b=>exact k2 b (ap _ hx)
 |[],_::_,_,_,_,h=>by cases h
 |[],[],_::_,_,_,h=>by cases h
 |_::_,[],_,_,_,h=>by cases h
 |_::_,_::_,[],_,_,h=>by cases h
theorem ae3 {x:Int} (hw:(Lit.int .u8 x).wf=true):∃b:UInt8,x=(b.toNat:Int):=by
 have w1:(decide (IntKind.min .u8≤x)&&decide (x≤IntKind.max .u8))=true:=hw;simp only[G7,G6]at w1;have h0:0≤x:=w1.1;have I:x≤255:=w1.2;refine⟨UInt8.ofNat x.toNat,?_⟩;have:x.toNat<256:=by omega
 simp[arp this];omega
theorem open_row {U:AM} {Λ:Pa→Prop} {h:Hp} (s:aP ⟨P,W,W.heap.size,false⟩ U Λ h [] W) {b off:Nat} {l:List V} (hl:l≠[]) (hx:∀i v,l[i]? =some v→∃c,W.cell? ⟨b,off+i,none⟩=some c∧VR U v c):
 ∃top eb dh,aP ⟨P,W,W.heap.size,false⟩ (U.put h.next ⟨b,off,top,eb⟩) dh (h.alloc (.ro l)) [] W∧U.le (U.put h.next ⟨b,off,top,eb⟩):=by
 have bx:0<l.length:=arL.2 hl;obtain⟨tK,h0,_⟩:=hx 0 l[0] (KJ bx);have ac:=AM.lA (U:=U) (a:=h.next) (L:=⟨b,off,0,true⟩) s.lB;unfold World.cell? at h0;cases hb:W.heap[b]? with
 |none=>rw[hb]at h0;cases h0
 |some o=>
  cases o with
  |cells cs el fr=>
   have pU:∀i v,l[i]? =some v→∃c,cs[off+i]? =some c∧VR U v c:=fun i v hv=>by
    obtain⟨c,I,J⟩:=hx i v hv;unfold World.cell? at I;rw[hb]at I;exact⟨c,by simpa using I,J⟩
   have ap:b<W.heap.size:=(lb1.1 hb).1;have eJ:=AM.lA (U:=U) (a:=h.next) (L:=⟨b,off,cs.size,true⟩) s.lB;refine⟨cs.size,true,_,s.S9 (L:=⟨b,off,cs.size,true⟩) ap hb rfl ⟨?_,fun i v hv=>?_⟩,eJ⟩
   ·obtain⟨c,I,_⟩:=pU (l.length-1) l[l.length-1] (KJ (by omega));have:=(lb1.1 I).1;show off+l.length≤cs.size;omega
   ·obtain⟨c,I,J⟩:=pU i v hv;exact⟨c,I,J.mono eJ⟩
  |_=>rw[hb]at h0;cases h0
theorem ae4 {n:Nat} {U:Type} {p:Nat→U→Prop} (h:∀i,i<n→∃x,p i x):∃l:List U,l.length=n∧∀i x,l[i]? =some x→p i x:=by
 induction n with
 |zero=>exact⟨[],rfl,fun i x hx=>by simp at hx⟩
 |succ n ih=>
  obtain⟨l,I,J⟩:=ih (fun i hi=>h i (aq2 hi));obtain⟨x,hx⟩:=h n (aqy n);refine⟨l++[x],by simp[I],fun i y hy=>?_⟩;rcases aqE i n with hi|hi
  ·rw[apQ (by omega)]at hy;exact J i y hy
  ·rw[apG (by omega)]at hy;rcases aqE (i-l.length) 1 with h3|h3
   ·have:i=n:=by omega
    subst this;have h4:i-l.length=0:=by omega
    rw[h4]at hy;simp at hy;subst hy;exact hx
   ·rw[aq9 (by simpa using h3)]at hy;cases hy
theorem ae5 {r:Go.Reach} {oK:Nat} {t e:TypeId} (ht:P.underlying t=some (.slice e)) (he:P.underlying e=some (.int .u8)) (hc:P.cellsOf e=1) {v:Value} {d:DataW H} {ps:List MemPlace}
 (hv:Value.okWide P W r oK t v) (hd:DataW.Trod enc P W 0 (fun _=>true) true t v d ps) {U:AM} {Λ:Pa→Prop} {h:Hp} (s:aP ⟨P,W,W.heap.size,false⟩ U Λ h [] W) (wf:WF h):
 ∃(u:V) (l:List UInt8) (aA:AM) (dh:Pa→Prop) (h':Hp),aP ⟨P,W,W.heap.size,false⟩ aA dh h' [] W∧U.le aA∧VR aA u v∧Sl h' u 1 l.length (l.map c5)∧Tl u 1∧mP h.next.toNat h h':=by
 obtain⟨a',n,c,rfl⟩:=okWide_slice ht hv;obtain⟨fuel,hf⟩:=hd;rcases open_slice1 ht hc hf with⟨I,_⟩|⟨a,len,cap,m,n',V',D,alt,I,hb,HP,hcm,hm,_,hx⟩
 ·have e1:Value.slice a' n c=.slice none 0 0:=by simpa[Value.cells]using I
  rw[e1];exact⟨.no .sl,[],U,Λ,h,s,AM.le_refl U,.y8,⟨rfl,.inl ⟨rfl,rfl⟩⟩,trivial,mP.refl wf⟩
 ·have e1:Value.slice a' n c=.slice (some a) len cap:=by simpa[Value.cells]using I
  rw[e1];simp only[if_true]at hm;subst hm;by_cases h0:len=0
  ·subst h0;by_cases Hc:m=0
   ·subst Hc;exact⟨.sl h.next 0 0 (.ex 0),[],U,Λ,h.alloc (.cells [] false),s.ghost _,AM.le_refl U,.dV _ _ _ _ (.inl rfl),⟨rfl,.inr ⟨_,_,_,rfl,.of (F3 _ _) rfl⟩⟩,B5 0,mP.made wf _⟩
   ·obtain⟨J,_⟩:=hx 0 (by omega);have cI:a.spot=none:=by have:=World.cell?_spot J;simpa[Addr.add]using this
    obtain⟨nl,nn,XZ⟩:=a;simp only at cI;subst cI;have kR:W.cell? ⟨nl,nn+0,none⟩=some (V' 0):=by simpa[Addr.add]using J
    unfold World.cell? at kR;cases Am:W.heap[nl]? with
    |none=>simp[Am]at kR
    |some o=>
     cases o with
     |cells cs el fr=>
      have ap:nl<W.heap.size:=(lb1.1 Am).1;have ac:=AM.lA (U:=U) (a:=h.next) (L:=⟨nl,nn,cs.size,true⟩) s.lB;refine⟨.sl h.next 0 0 (.ex m),[],_,_,_,s.S9 (L:=⟨nl,nn,cs.size,true⟩) (l:=[]) ap Am rfl ⟨?_,fun i v hv=>by simp at hv⟩,ac,?_,⟨rfl,.inr ⟨_,_,_,rfl,⟨[],by simp[bm.cells,F3],fun i v hv=>by simp at hv⟩⟩⟩,amu _,mP.made wf _⟩
      ·rw[Am]at kR;have:=(lb1.1 (by simpa using kR:cs[nn]? =some (V' 0))).1;show nn+0≤cs.size;omega
      ·exact .sl (U:=U.put h.next ⟨nl,nn,cs.size,true⟩) _ 0 _ _ ⟨nl,nn,cs.size,true⟩ _ (AM.kh _ _ _) HP rfl
     |_=>simp[Am]at kR
  ·obtain⟨J,_⟩:=hx 0 (by omega);have cI:a.spot=none:=by have:=World.cell?_spot J;simpa[Addr.add]using this
   obtain⟨nl,nn,XZ⟩:=a;simp only at cI;subst cI;obtain⟨l,dt,xY⟩:=ae4 (n:=len) (p:=fun i (b:UInt8)=>W.cell? ⟨nl,nn+i,none⟩=some (.int .u8 b.toNat)) (fun i hi=>by
    obtain⟨h3,h4⟩:=hx i (by omega);obtain⟨x,jB,_,X0⟩:=DataW.trod_int he h4;obtain⟨b,rfl⟩:=ae3 X0;refine⟨b,?_⟩;have h5:V' i=.int .u8 b.toNat:=by simpa using jB
    rw[←h5];by_cases DD:i=0
    ·subst DD;simpa[Addr.add]using h3
    ·simpa[Addr.add,DD]using h3)
   obtain⟨top,eb,dh,s',ac⟩:=open_row s (b:=nl) (off:=nn) (l:=l.map c5) (fun e=>by rw[List.map_eq_nil_iff]at e;subst e;exact h0 (by simpa using dt.symm)) (fun i v hv=>by
    rw[aqH]at hv;cases jY:l[i]? with
    |none=>simp[jY]at hv
    |some b=>simp[jY]at hv;subst hv;exact⟨_,xY i b jY,.int _ _⟩)
   refine⟨.sl h.next 0 len (.ex m),l,_,dh,_,s',ac,.sl (U:=U.put h.next ⟨nl,nn,top,eb⟩) _ 0 _ _ ⟨nl,nn,top,eb⟩ _ (AM.kh _ _ _) HP rfl,⟨by simp,.inr ⟨_,_,_,by rw[dt],⟨l.map c5,by simp[bm.cells,F3],fun i v hv=>by rw[ap7];exact hv⟩⟩⟩,HP,mP.made wf _⟩
end
theorem ae6 {w w':World} (h:Kept w w') (may:MemPlace→Prop):w.keptBut w' may:=by
 obtain⟨_,J,h3,h4⟩:=h;refine⟨h3,h4,fun i hi=>?_⟩;rw[J i hi];split
 ·rename_i h5 h6;rw[h5]at h6;cases h6;exact⟨rfl,rfl,rfl,fun _ _=>rfl⟩
 ·rename_i h5 h6;rw[h5]at h6;cases h6;exact .inr ⟨rfl,rfl⟩
 ·rfl
end Go.Ev
namespace Go.Ev.G8
open Go Go.Proofs Go.Ev
def NJ (F:Nat→Option aN):Prop:=∀n,n≠37→n≠223→F n=(e9 Tryz.prog n).map .code
def xM {U:Type} (P:Nat→U→Prop):List (List (Nat×U))→Prop
 |[]=>True
 |l::r=>(∀x∈l,P x.1 x.2)∧xM P r
section
variable{U:Type} {P:Nat→U→Prop}
theorem amx {n:Nat} {c:U} {l:List (Nat×U)} {r:List (List (Nat×U))} (h:P n c) (J:xM P (l::r)):xM P (((n,c)::l)::r):=⟨fun x hx=>(Ro.1 hx).elim (fun e=>by subst e;exact h) (J.1 x),J.2⟩
theorem amy {r:List (List (Nat×U))} (h:xM P r):xM P ([]::r):=⟨fun _ hx=>(by cases hx),h⟩
theorem WX {f:Nat} {c:U}:∀{l:List (Nat×U)},(∀x∈l,P x.1 x.2)→Gc f l=some c→P f c
 |(m,y)::l,h,hc=>by
  unfold Gc at hc;cases hb:Nat.beq m f with
  |true=>rw[hb]at hc;cases hc;have:=apY hb;subst this;exact h (m,_) (apV ..)
  |false=>rw[hb]at hc;exact WX (fun z hy=>h z (amI _ hy)) hc
theorem WY {f:Nat} {c:U}:∀{t:List (List (Nat×U))},xM P t→CH f t=some c→P f c
 |l::r,h,hc=>by
  unfold CH at hc;split at hc
  ·cases hc;exact WX h.1 ‹_›
  ·exact WY h.2 hc
end
theorem okT:xM (fun n c=>n≠37∧n≠223∧e9 Tryz.prog n=some ⟨Co.den c.1,c.2.1,c.2.2⟩) Ma:=by
 repeat(first|exact trivial|refine amy ?_|refine amx ⟨by decide,by decide,by kernel_rfl⟩ ?_)
theorem WZ {F:Nat→Option aN} (h:NJ F):Fx F:=⟨fun hc=>by
 obtain⟨h0,I,hk⟩:=WY okT hc;rw[h _ h0 I,hk];(try rfl)⟩
end Go.Ev.G8
namespace Go.Proofs
open Go.Shelf
def Tryz.lays105_ren:Go.Shelf.Ren:=⟨fun|105=>223|212=>234|99=>235|165=>236|166=>237|170=>238|169=>239|263=>248|264=>249|206=>250|240=>251|241=>252|276=>258|277=>259|n=>n,fun|9=>9|3=>3|4=>4|20=>20|0=>0|46=>150|109=>336|5=>5|72=>341|76=>344|51=>205|146=>354|53=>207|148=>356|70=>339|37=>22|75=>343|127=>358|164=>363|80=>124|n=>n,fun|n=>n⟩
theorem Tryz.lays105:Go.Proofs.Lays.n105 Tryz.prog Tryz.lays105_ren:={
 mixed:=by kernel_rfl
 f99:=Tryz.func235.trans (congrArg some (by kernel_rfl))
 f105:=Tryz.func223.trans (congrArg some (by kernel_rfl))
 f165:=Tryz.func236.trans (congrArg some (by kernel_rfl))
 f166:=Tryz.func237.trans (congrArg some (by kernel_rfl))
 f169:=Tryz.func239.trans (congrArg some (by kernel_rfl))
 f170:=Tryz.func238.trans (congrArg some (by kernel_rfl))
 f206:=Tryz.func250.trans (congrArg some (by kernel_rfl))
 f212:=Tryz.func234.trans (congrArg some (by kernel_rfl))
 f240:=Tryz.func251.trans (congrArg some (by kernel_rfl))
 f241:=Tryz.func252.trans (congrArg some (by kernel_rfl))
 f263:=Tryz.func248.trans (congrArg some (by kernel_rfl))
 f264:=Tryz.func249.trans (congrArg some (by kernel_rfl))
 f276:=Tryz.func258.trans (congrArg some (by kernel_rfl))
 f277:=Tryz.func259.trans (congrArg some (by kernel_rfl))
 t0:=Tryz.underlying0
 a0:=Tryz.isAgg0
 z0:=Tryz.sizeOf0
 v0:=Tryz.zeroValue0
 t3:=Tryz.underlying3
 a3:=Tryz.isAgg3
 z3:=Tryz.sizeOf3
 v3:=Tryz.zeroValue3
 t4:=Tryz.underlying4
 a4:=Tryz.isAgg4
 z4:=Tryz.sizeOf4
 v4:=Tryz.zeroValue4
 t5:=Tryz.underlying5
 a5:=Tryz.isAgg5
 z5:=Tryz.sizeOf5
 v5:=Tryz.zeroValue5
 t9:=Tryz.underlying9
 a9:=Tryz.isAgg9
 z9:=Tryz.sizeOf9
 v9:=Tryz.zeroValue9
 t20:=Tryz.underlying20
 a20:=Tryz.isAgg20
 z20:=Tryz.sizeOf20
 v20:=Tryz.zeroValue20
 t37:=Tryz.underlying22
 a37:=Tryz.isAgg22
 z37:=Tryz.sizeOf22
 v37:=Tryz.zeroValue22
 t46:=Tryz.underlying150
 a46:=Tryz.isAgg150
 z46:=Tryz.sizeOf150
 v46:=Tryz.zeroValue150
 t51:=Tryz.underlying205
 a51:=Tryz.isAgg205
 z51:=Tryz.sizeOf205
 v51:=Tryz.zeroValue205
 t53:=Tryz.underlying207
 a53:=Tryz.isAgg207
 z53:=Tryz.sizeOf207
 v53:=Tryz.zeroValue207
 t70:=Tryz.underlying339
 a70:=Tryz.isAgg339
 z70:=Tryz.sizeOf339
 v70:=Tryz.zeroValue339
 t72:=Tryz.underlying341
 a72:=Tryz.isAgg341
 z72:=Tryz.sizeOf341
 v72:=Tryz.zeroValue341
 t75:=Tryz.underlying343
 a75:=Tryz.isAgg343
 z75:=Tryz.sizeOf343
 v75:=Tryz.zeroValue343
 t76:=Tryz.underlying344
 a76:=Tryz.isAgg344
 z76:=Tryz.sizeOf344
 v76:=Tryz.zeroValue344
 t109:=Tryz.underlying336
 a109:=Tryz.isAgg336
 z109:=Tryz.sizeOf336
 v109:=Tryz.zeroValue336
 t127:=Tryz.underlying358
 a127:=Tryz.isAgg358
 z127:=Tryz.sizeOf358
 v127:=Tryz.zeroValue358
 t146:=Tryz.underlying354
 a146:=Tryz.isAgg354
 z146:=Tryz.sizeOf354
 v146:=Tryz.zeroValue354
 t148:=Tryz.underlying356
 a148:=Tryz.isAgg356
 z148:=Tryz.sizeOf356
 v148:=Tryz.zeroValue356
 t164:=Tryz.underlying363
 a164:=Tryz.isAgg363
 z164:=Tryz.sizeOf363
 v164:=Tryz.zeroValue363}
def Tryz.sortL_ren:Go.Shelf.Ren:=⟨fun|6=>37|15=>65|14=>64|28=>112|29=>113|20=>104|21=>105|22=>106|23=>107|24=>108|25=>109|26=>110|27=>111|46=>153|47=>154|48=>155|49=>156|50=>157|57=>200|n=>n,fun|22=>34|24=>38|25=>106|3=>3|39=>150|0=>0|53=>205|55=>207|4=>4|46=>199|45=>198|50=>61|5=>5|9=>9|66=>251|70=>255|76=>299|77=>300|n=>n,fun|n=>n⟩
theorem Tryz.sortL:Go.Proofs.SlLaysF0.n6 Tryz.prog Tryz.sortL_ren:={
 mixed:=by kernel_rfl
 f6:=⟨Tryz.f37.name,by decide,Tryz.func37.trans (congrArg some (by kernel_rfl))⟩
 f14:=⟨Tryz.f64.name,by decide,Tryz.func64.trans (congrArg some (by kernel_rfl))⟩
 f15:=Tryz.func65.trans (congrArg some (by kernel_rfl))
 f20:=⟨Tryz.f104.name,by decide,Tryz.func104.trans (congrArg some (by kernel_rfl))⟩
 f21:=⟨Tryz.f105.name,by decide,Tryz.func105.trans (congrArg some (by kernel_rfl))⟩
 f22:=⟨Tryz.f106.name,by decide,Tryz.func106.trans (congrArg some (by kernel_rfl))⟩
 f23:=⟨Tryz.f107.name,by decide,Tryz.func107.trans (congrArg some (by kernel_rfl))⟩
 f24:=⟨Tryz.f108.name,by decide,Tryz.func108.trans (congrArg some (by kernel_rfl))⟩
 f25:=⟨Tryz.f109.name,by decide,Tryz.func109.trans (congrArg some (by kernel_rfl))⟩
 f26:=⟨Tryz.f110.name,by decide,Tryz.func110.trans (congrArg some (by kernel_rfl))⟩
 f27:=⟨Tryz.f111.name,by decide,Tryz.func111.trans (congrArg some (by kernel_rfl))⟩
 f28:=Tryz.func112.trans (congrArg some (by kernel_rfl))
 f29:=Tryz.func113.trans (congrArg some (by kernel_rfl))
 f46:=⟨Tryz.f153.name,by decide,Tryz.func153.trans (congrArg some (by kernel_rfl))⟩
 f47:=Tryz.func154.trans (congrArg some (by kernel_rfl))
 f48:=Tryz.func155.trans (congrArg some (by kernel_rfl))
 f49:=⟨Tryz.f156.name,by decide,Tryz.func156.trans (congrArg some (by kernel_rfl))⟩
 f50:=⟨Tryz.f157.name,by decide,Tryz.func157.trans (congrArg some (by kernel_rfl))⟩
 f57:=⟨Tryz.f200.name,by decide,Tryz.func200.trans (congrArg some (by kernel_rfl))⟩
 t0:=Tryz.underlying0
 a0:=Tryz.isAgg0
 z0:=Tryz.sizeOf0
 v0:=Tryz.zeroValue0
 t3:=Tryz.underlying3
 a3:=Tryz.isAgg3
 z3:=Tryz.sizeOf3
 v3:=Tryz.zeroValue3
 t4:=Tryz.underlying4
 a4:=Tryz.isAgg4
 z4:=Tryz.sizeOf4
 v4:=Tryz.zeroValue4
 t5:=Tryz.underlying5
 a5:=Tryz.isAgg5
 z5:=Tryz.sizeOf5
 v5:=Tryz.zeroValue5
 t9:=Tryz.underlying9
 a9:=Tryz.isAgg9
 z9:=Tryz.sizeOf9
 v9:=Tryz.zeroValue9
 t22:=Tryz.underlying34
 a22:=Tryz.isAgg34
 z22:=Tryz.sizeOf34
 v22:=Tryz.zeroValue34
 t25:=Tryz.underlying106
 a25:=Tryz.isAgg106
 z25:=Tryz.sizeOf106
 v25:=Tryz.zeroValue106
 t39:=Tryz.underlying150
 a39:=Tryz.isAgg150
 z39:=Tryz.sizeOf150
 v39:=Tryz.zeroValue150
 t45:=Tryz.underlying198
 a45:=Tryz.isAgg198
 z45:=Tryz.sizeOf198
 v45:=Tryz.zeroValue198
 t46:=Tryz.underlying199
 a46:=Tryz.isAgg199
 z46:=Tryz.sizeOf199
 v46:=Tryz.zeroValue199
 t50:=Tryz.underlying61
 a50:=Tryz.isAgg61
 z50:=Tryz.sizeOf61
 v50:=Tryz.zeroValue61
 t53:=Tryz.underlying205
 a53:=Tryz.isAgg205
 z53:=Tryz.sizeOf205
 v53:=Tryz.zeroValue205
 t55:=Tryz.underlying207
 a55:=Tryz.isAgg207
 z55:=Tryz.sizeOf207
 v55:=Tryz.zeroValue207
 t66:=Tryz.underlying251
 a66:=Tryz.isAgg251
 z66:=Tryz.sizeOf251
 v66:=Tryz.zeroValue251
 t70:=Tryz.underlying255
 a70:=Tryz.isAgg255
 z70:=Tryz.sizeOf255
 v70:=Tryz.zeroValue255
 t76:=Tryz.underlying299
 a76:=Tryz.isAgg299
 z76:=Tryz.sizeOf299
 v76:=Tryz.zeroValue299
 t77:=Tryz.underlying300
 a77:=Tryz.isAgg300
 z77:=Tryz.sizeOf300
 v77:=Tryz.zeroValue300}
theorem Tryz.Builder_Extra_105:Builder.Extra Tryz.prog Tryz.lays105_ren:={
 sizeBuilder:=by kernel_rfl
 liesBuilder:=by kernel_rfl
 t5:=Tryz.underlying5
 a5:=Tryz.isAgg5
 z5:=Tryz.sizeOf5
 v5:=Tryz.zeroValue5
 infoByte:=by kernel_rfl
 cellsByte:=by kernel_rfl
 sizeByte:=by kernel_rfl
 neB5:=by decide}
open Go.RowKit Go.Lib in
open Go.RowKit Go.Lib in
open Go.RowKit Go.Lib in
open Go.RowKit Go.Lib in
open Go.RowKit Go.Lib in
open Go.RowKit Go.Lib in
open Go.RowKit Go.Lib in
theorem Tryz.strings_Repeat (s:ByteArray) (c:Nat) (w:World) (hc:c≤9223372036854775807) (hlen:s.size*c≤140737488355328):
 Calls Tryz.prog 223 #[.string s,.int .i64 c] w fun e w'=>e=.returned (.string ⟨(Lib.repeatL s.data.toList c).toArray⟩)∧Below w.heap.size w w':=Any.strings_Repeat Tryz.lays105 Tryz.Builder_Extra_105 s c w hc hlen
end Go.Proofs
namespace Go.Ev.G8
open Go Go.Proofs Go.Ev Go.Sort Go.Shelf
theorem names:xe Tryz.prog=true:=by kernel_rfl
noncomputable def F1:Nat→Option aN:=fun i=>(e9 Tryz.prog i).map .code
theorem amz:NJ F1:=fun _ _ _=>rfl
instance fx1:Fx F1:=WZ amz
theorem noI:∀f g,F1 f≠some (.c7 g):=fun f g h=>by
 unfold F1 at h;cases hc:e9 Tryz.prog f with
 |none=>rw[hc]at h;cases h
 |some i=>rw[hc]at h;cases h
theorem amA {w w':World} (h:Kept w w') (ht:w'.tape=w.tape) (hd:w.drawn≤w'.drawn):∃q os',w'=grow (w.drewN q) os':=by
 obtain⟨I,J,h3,h4⟩:=h;refine⟨w'.drawn-w.drawn,w'.heap.extract w.heap.size w'.heap.size,?_⟩;have hh:w'.heap=w.heap++w'.heap.extract w.heap.size w'.heap.size:=by
  apply Array.ext_getElem?;intro i;by_cases hi:i<w.heap.size
  ·rw[lb0 hi,J i hi]
  ·rw[Array.getElem?_append_right (by omega),Array.getElem?_extract];by_cases i2:i<w'.heap.size
   ·rw[B4 (by omega)];congr 1;omega
   ·rw[pg (by omega),Array.getElem?_eq_none (by omega)]
 cases w' with
 |mk heap tape drawn os output=>
  simp only at ht hd h3 h4 hh⊢;subst ht;subst h3;subst h4;show _=World.mk _ _ _ _ _;congr 1;show drawn=w.drawn+(drawn-w.drawn);omega
theorem amB (aw off size:Nat) (w:World):CmpLays Tryz.prog 38 #[] eG 2 l5 aw off size w:=by
 intro m os ab9 _ x y;have h:=alZ (P:=Tryz.prog) (F:=F1) names (LN _) noI (f:=38) (fn:=⟨B.CG.den,17,[(pa 4,none)]⟩) (Fx.h (c:=(B.CG,17,[(pa 4,none)])) rfl)
  (args:=[.agg [.int .i64 x.addr,.int .i64 x.gen],.agg [.int .i64 y.addr,.int .i64 y.gen]]) (cE:=[.agg (eG x).toArray,.agg (eG y).toArray]) (v:=.int .i64 (l5 x y))
  (.cons _ _ _ _ (.agg _ [.int .i64 x.addr,.int .i64 x.gen] (.cons _ _ _ _ (.int _ _) (.cons _ _ _ _ (.int _ _) .nil))) (.cons _ _ _ _ (.agg _ [.int .i64 y.addr,.int .i64 y.gen] (.cons _ _ _ _ (.int _ _) (.cons _ _ _ _ (.int _ _) .nil))) .nil))
  (amc x y) (sortWorldK eG 2 w aw off m ab9 os)
 refine h.mono fun e w' hh=>?_;obtain⟨c,U,rfl,hv,hk,ht,hd⟩:=hh;cases hv;exact⟨rfl,amA hk ht hd⟩
theorem amC (aw off cap:Nat) (d:Array ag) (w:World) (aca:HoldsK eG 2 w aw off d) (hblk:aw<w.heap.size) (bJ:d.size<4611686018427387904):
 Calls Tryz.prog 37 #[.slice (some ⟨aw,off,none⟩) d.size cap,.func (.func 38) #[] #[]] w fun e w'=>e=.returned (.tuple #[])∧∃d' n os,PermIn 0 d.size d d'∧SortedIn (ltOf l5) 0 d.size d'∧w'=sortWorldK eG 2 w aw off n d' os:=
 AnyQ.slices_SortFunc Tryz.sortL 2 (fun w=>Tryz.isAgg38 w) (fun w=>Tryz.sizeOf38 w) eG (fun _=>rfl) (fun x v hv=>by
  simp only[eG,Ro,arW,or_false]at hv;rcases hv with rfl|rfl<;>rfl) l5 al6 38 #[] aw off cap d w (enters_of Tryz.func38 (by kernel_rfl) rfl) (amB aw off d.size w) aca hblk bJ
theorem amD (w:World):Calls Tryz.prog 37 #[.slice none 0 0,.func (.func 38) #[] #[]] w fun e w'=>e=.returned (.tuple #[])∧Kept w w':=by
 cases hc:e9 Tryz.prog 37 with
 |none=>
  have h:FT Tryz.prog 37=true:=by kernel_rfl
  unfold FT at h;rw[hc]at h;cases h
 |some fn=>
  have cJ:isUnit ((e9 Tryz.prog 37).elim (.bad 0 0) fun fn=>run (fun i=>(e9 Tryz.prog i).map .code) 2000 (enter fn 37 [.no .sl,.fn 38 []] false) [] jO [])=true:=by kernel_rfl
  rw[hc]at cJ;exact al0 (n:=2000) names hc (args:=[.no .sl,.fn 38 []]) (cE:=[.slice none 0 0,.func (.func 38) #[] #[]]) (.cons _ _ _ _ .y8 (.cons _ _ _ _ (.fn 38 [] [] .nil) .nil)) cJ w
theorem amE:zf Tryz.prog 37 (nh 38):=al9 amC amD
end Go.Ev.G8
