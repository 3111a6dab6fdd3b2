/- A part of the proof of SegAll (made short by a program). -/
import Derived.Test.YtmglhbclhfgmaaaGreatDoorWD
namespace Go.Ev
def WF (h:Hp):Prop:=∀a:Pa,h.next.toNat≤a.toNat→h.get a=none
theorem FZ (h:Hp) (b:al) (a:Pa):(h.alloc b).get a=if h.next=a then some b else h.get a:=by simp[bm.alloc,bm.get,T.gX]
theorem F0 (h:Hp) (b:al) (a x:Pa):(h.put a b).get x=if a=x then some b else h.get x:=by simp[bm.put,bm.get,T.gX]
theorem Ta (h:Hp) (b:al):(h.alloc b).next.toNat=h.next.toNat+1:=Pa.iB _
theorem aeZ (h:Hp) (b:al) (a:Pa):(h.put a b).next=h.next:=rfl
theorem WF.lt {h:Hp} (w:WF h) {a:Pa} {b:al} (hg:h.get a=some b):a.toNat<h.next.toNat:=by
 rcases Nat.lt_or_ge a.toNat h.next.toNat with I|I
 ·exact I
 ·rw[w a I]at hg;cases hg
theorem WF.start:WF jO:=fun a _=>by(show T.E.get a=none);cases a<;>rfl
theorem WF.alloc {h:Hp} (w:WF h) (b:al):WF (h.alloc b):=fun a ha=>by
 rw[Ta]at ha;rw[FZ,if_neg (fun e=>by subst e;omega)];exact w a (by omega)
theorem WF.put {h:Hp} (w:WF h) {a:Pa} (ha:a.toNat<h.next.toNat) (b:al):WF (h.put a b):=fun x hx=>by
 rw[aeZ]at hx;rw[F0,if_neg (fun e=>by subst e;omega)];exact w x hx
structure mP (n:Nat) (h h':Hp):Prop where
 next:h.next.toNat≤h'.next.toNat
 aD:∀a:Pa,a.toNat<n→h'.get a=h.get a
 wf:WF h'
theorem mP.refl {n:Nat} {h:Hp} (w:WF h):mP n h h:=⟨Nat.le_refl _,fun _ _=>rfl,w⟩
theorem mP.alloc {n:Nat} {h h':Hp} (a:mP n h h') (hn:n≤h'.next.toNat) (b:al):mP n h (h'.alloc b):=
 ⟨by rw[Ta];have:=a.next;omega,fun x hx=>by rw[FZ,if_neg (fun e=>by subst e;omega)];exact a.aD x hx,a.wf.alloc b⟩
def gf (h:Hp) (a:Pa) (o:Nat) (cs:List V):Prop:=∃l,h.cells a=some l∧∀(i:Nat) (v:V),cs[i]? =some v→l[o+i]? =some v
theorem gf.of {h:Hp} {a:Pa} {cs:List V} {fb:Bool} (hg:h.get a=some (.cells cs fb)) (hd:fb=false):gf h a 0 cs:=by
 subst hd;exact⟨cs,by simp[bm.cells,hg],fun i v hv=>by rw[Nat.zero_add];exact hv⟩
theorem gf.sub {h:Hp} {a:Pa} {o:Nat} {cs:List V} (hc:gf h a o cs) (i n:Nat):gf h a (o+i) ((cs.drop i).take n):=by
 obtain⟨l,I,J⟩:=hc;refine⟨l,I,fun j v hv=>?_⟩;rw[List.getElem?_take]at hv;split at hv
 ·rw[List.getElem?_drop]at hv;rw[Nat.add_assoc];exact J _ v hv
 ·cases hv
theorem gf.one {h:Hp} {a:Pa} {o:Nat} {cs:List V} (hc:gf h a o cs) {i:Nat} {v:V} (hv:cs[i]? =some v):fH h none (.ptr a (o+i))=some v:=by
 obtain⟨l,I,J⟩:=hc;simp only[fH,I,qH];exact J i v hv
theorem gf.all {h:Hp} {a:Pa} {o:Nat} {cs:List V} (hc:gf h a o cs) {n:Nat} (hn:cs.length=n):h.cl a o n=some cs:=by
 obtain⟨l,I,J⟩:=hc;subst hn;by_cases h0:cs.length=0
 ·have:=List.eq_nil_of_length_eq_zero h0;subst this;unfold bm.cl;rw[I];(try rfl)
 ·have hlen:o+cs.length≤l.length:=by
   have ap:cs.length-1<cs.length:=by omega
   have:=J (cs.length-1) _ (List.getElem?_eq_getElem ap);have:=(List.getElem?_eq_some_iff.1 this).1;omega
  rw[S4 I hlen];congr 1;apply List.ext_getElem?;intro i;rw[List.getElem?_take];by_cases hi:i<cs.length
  ·rw[if_pos hi,List.getElem?_drop,List.getElem?_eq_getElem hi];exact J i _ (List.getElem?_eq_getElem hi)
  ·rw[if_neg hi,List.getElem?_eq_none (by omega)]
theorem gf.agg {h:Hp} {a:Pa} {o:Nat} {cs:List V} (hc:gf h a o cs) {i n:Nat} {l:List V} (hl:(cs.drop i).take n=l) (hn:l.length=n):fH h (some n) (.ptr a (o+i))=some (.agg l):=by
 have I:=hc.sub i n;rw[hl]at I;simp only[fH,I.all hn]
def Sl (h:Hp) (v:V) (k n:Nat) (cs:List V):Prop:=cs.length=n*k∧((v=.no .sl∧n=0)∨∃a o c,v=.sl a o n c∧gf h a o cs)
theorem Sl.src {h:Hp} {v:V} {k n:Nat} {cs:List V} (hs:Sl h v k n cs):j9 v=some n∧ln h k n v=some cs:=by
 rcases hs.2 with⟨rfl,rfl⟩|⟨a,o,c,rfl,J⟩
 ·have:cs=[]:=List.eq_nil_of_length_eq_zero (by rw[hs.1];simp);subst this;exact⟨rfl,rfl⟩
 ·exact⟨rfl,J.all hs.1⟩
theorem Tc {a b:List V} (ha:aY a=true) (hb:aY b=true):aY (a++b)=true:=by
 induction a with
 |nil=>exact hb
 |cons v a ih=>
  simp only[List.cons_append,aY]at ha⊢;cases hv:isScalar v with
  |false=>simp[hv]at ha
  |true=>simp only[hv,cond_true]at ha⊢;exact ih ha
theorem F2 {h:Hp} {a:Pa} {l xs l':List V} {o:Nat} (hg:h.get a=some (.cells l false)) (hs:aY xs=true) (cI:dk o l xs=some l'):h.db a o xs=some (h.put a (.cells l' false)):=by
 simp only[bm.db,hg,cond_false,hs,cond_true,cI]
theorem ae0 (h:Hp) (b:al) (a:Pa):(h.put a b).get a=some b:=by rw[F0,if_pos rfl]
theorem F3 (h:Hp) (b:al):(h.alloc b).get h.next=some b:=by rw[FZ,if_pos rfl]
theorem ae1 {h:Hp} {b:al} {x:Pa} (hx:x.toNat<h.next.toNat):(h.alloc b).get x=h.get x:=by rw[FZ,if_neg (fun e=>by subst e;omega)]
theorem Td (s:List UInt8):bytesOf (s.map c5)=some s:=by
 induction s with
 |nil=>rfl
 |cons b s ih=>
  show(match bytesOf (s.map c5)with|some r=>some (UInt8.ofNat (Int.ofNat b.toNat).toNat::r)|none=>none)=_;rw[ih];simp
theorem L1 (l:List UInt8):aY (l.map c5)=true:=by
 induction l with
 |nil=>rfl
 |cons a l ih=>exact ih
theorem mP.made {h:Hp} (w:WF h) (b:al):mP h.next.toNat h (h.alloc b):=(mP.refl w).alloc (Nat.le_refl _) b
namespace ad
variable{F:Nat→Option aN} {K:KX} {E:Env} {h:Hp} {Q:fu} {rs:List (RS al)} {d:Nat} {g:Option (Pa×Bool)}
theorem ae2 {x:Od} {v:V} {n:Nat} {s:List UInt8} (hw:az E g .yes) (hx:ax E x v) (hs:Sl h v 1 n (s.map c5)) (hn:WR F K rs ((d,.str s)::E) h Q):WR F K (.op ⟨some (pa d),dT x,g⟩::rs) E h Q:=by
 rcases hs.2 with⟨rfl,rfl⟩|⟨a,o,c,rfl,hc⟩
 ·have:s=[]:=by simpa using hs.1
  subst this;exact aeX hw hx hn
 ·exact FW hw hx (hc.all (by rw[hs.1,Nat.mul_one])) (Td s) hn
end ad
end Go.Ev
namespace Go.Ev
variable{F:Nat→Option aN} {K:KX} {E:Env} {h:Hp} {Q:fu}
theorem F4 (k:IntKind) {a:Nat} (h:a≤qw k):e6 k (a:Int)=a:=by
 show(bif Nat.ble a (qw k)then Int.ofNat a else k.wrap (.ofNat a))=_;rw[Nat.ble_eq_true_of_le h];(try rfl)
theorem zm {n:Int} (h0:-9223372036854775808≤n) (I:n≤9223372036854775807):e6 .i64 n=n:=by
 cases n with
 |ofNat a=>exact F4 .i64 (show a≤9223372036854775807 by have:Int.ofNat a=(a:Int):=rfl;omega)
 |negSucc a=>
  show(bif IntKind.signed .i64&&Nat.ble a 9223372036854775807 then Int.negSucc a else _)=_
  have:a≤9223372036854775807:=by
                               have:Int.negSucc a=-((a:Int)+1):=by omega
                               omega
  rw[Nat.ble_eq_true_of_le this];(try rfl)
theorem ei {q:cV} {a b:Int} (h0:-9223372036854775808≤a+b) (I:a+b≤9223372036854775807):cg .add q (.int .i64 a) (.int .i64 b)=some (.int .i64 (a+b)):=by
 show some (V.int .i64 (e6 .i64 (B6 a b)))=_;rw[Lc,zm h0 I]
theorem ig {q:cV} {a b:Int} (h0:-9223372036854775808≤a-b) (I:a-b≤9223372036854775807):cg .sub q (.int .i64 a) (.int .i64 b)=some (.int .i64 (a-b)):=by
 show some (V.int .i64 (e6 .i64 (B7 a b)))=_;rw[Ld,zm h0 I]
theorem F5 {q:cV} {a b:Int} (h0:-9223372036854775808≤a*b) (I:a*b≤9223372036854775807):cg .mul q (.int .i64 a) (.int .i64 b)=some (.int .i64 (a*b)):=by
 show some (V.int .i64 (e6 .i64 (E9 a b)))=_;rw[RL,zm h0 I]
theorem L2 {q:cV} {k:IntKind} {a b:Int}:cg .lss q (.int k a) (.int k b)=some (.bool (decide (a<b))):=by
 show(bif cW k k then some (V.bool (jc a b))else none)=_;have:cW k k=true:=by cases k<;>rfl
 rw[this,sH];(try rfl)
theorem Te {q:cV} {k:IntKind} {a b:Int}:cg .leq q (.int k a) (.int k b)=some (.bool (decide (a≤b))):=by
 show(bif cW k k then some (V.bool (!jc b a))else none)=_;have:cW k k=true:=by cases k<;>rfl
 rw[this,sH];simp only[cond_true,Option.some.injEq,V.bool.injEq];by_cases jA:a≤b
 ·simp[jA,Int.not_lt.2 jA]
 ·simp[jA,Int.not_le.1 jA]
theorem Tf {q:cV} {k:IntKind} {a b:Int}:cg .gtr q (.int k a) (.int k b)=some (.bool (decide (b<a))):=by
 show(bif cW k k then some (V.bool (jc b a))else none)=_;have:cW k k=true:=by cases k<;>rfl
 rw[this,sH];(try rfl)
theorem Tg {q:cV} {k:IntKind} {a b:Int}:cg .geq q (.int k a) (.int k b)=some (.bool (decide (b≤a))):=by
 show(bif cW k k then some (V.bool (!jc a b))else none)=_;have:cW k k=true:=by cases k<;>rfl
 rw[this,sH];simp only[cond_true,Option.some.injEq,V.bool.injEq];by_cases jA:b≤a
 ·simp[jA,Int.not_lt.2 jA]
 ·simp[jA,Int.not_le.1 jA]
theorem Th {k:IntKind} {a b:Int}:cg .eql (.flat .i) (.int k a) (.int k b)=some (.bool (decide (a=b))):=by
 show(fq .i (.int k a) (.int k b)).map V.bool=_;have:cW k k=true:=by cases k<;>rfl
 simp only[fq,this,cond_true,Option.map_some,ki];rfl
theorem Ti {k:IntKind} {a b:Int}:cg .neq (.flat .i) (.int k a) (.int k b)=some (.bool (!decide (a=b))):=by
 show(fq .i (.int k a) (.int k b)).map (fun b=>V.bool (!b))=_;have:cW k k=true:=by cases k<;>rfl
 simp only[fq,this,cond_true,Option.map_some,ki];rfl
theorem Tj {a b:List UInt8}:cg .eql (.flat .s) (.str a) (.str b)=some (.bool (decide (a=b))):=by
 show(fq .s (.str a) (.str b)).map V.bool=_;simp only[fq,Option.map_some,qL];congr 2;rw[Bool.eq_iff_iff];simp
theorem Tk {a b:List UInt8}:cg .neq (.flat .s) (.str a) (.str b)=some (.bool (!decide (a=b))):=by
 show(fq .s (.str a) (.str b)).map (fun b=>V.bool (!b))=_;simp only[fq,Option.map_some,qL];congr 3;rw[Bool.eq_iff_iff];simp
theorem sS {q:cV} {a b:List UInt8} (h:a.length+b.length≤9223372036854775807):cg .add q (.str a) (.str b)=some (.str (a++b)):=by
 show(bif Nat.ble (a.length+b.length) 9223372036854775807 then some (V.str (a++b))else none)=_;rw[Nat.ble_eq_true_of_le h];(try rfl)
theorem WC.F6 {c:Od} {a b:IC al} {p:Prop} [Decidable p] (hc:ax E c (.bool (decide p))) (ht:p→WC F K a E h Q) (hf:¬p→WC F K b E h Q):WC F K (.cond c a b) E h Q:=by
 by_cases hp:p
 ·exact WC.cond (t:=true) (by rw[decide_eq_true hp]at hc;exact hc) (ht hp)
 ·exact WC.cond (t:=false) (by rw[decide_eq_false hp]at hc;exact hc) (hf hp)
theorem WC.L3 {c:Od} {a b:IC al} {t:Bool} (hc:ax E c (.bool t)) (ht:t=true→WC F K a E h Q) (hf:t=false→WC F K b E h Q):WC F K (.cond c a b) E h Q:=by
 cases t with
 |true=>exact WC.cond hc (ht rfl)
 |false=>exact WC.cond hc (hf rfl)
end Go.Ev
namespace Go.Ev
def Tl (v:V) (k:Nat):Prop:=match v with
 |.sl _ _ n c=>match c with
  |.ex c=>n≤c
  |.un s=>s=k
 |_=>True
theorem xi {a b:Nat} (h:a≤b):Nat.ble a b=true:=Nat.ble_eq.mpr h
theorem Tm {n c j:Nat} (hj:j≤c):eD n c none (some (.int .i64 (j:Int))) none=some (0,j,c):=by
 show(match(match Nat.ble j c with|true=>some j|false=>none:Option Nat)with|none=>none|some h=>some (0,h,c):Option (Nat×Nat×Nat))=_;rw[xi hj]
theorem xj {n c j:Nat} (hj:j≤n) (_hn:n≤c):eD n c (some (.int .i64 (j:Int))) none none=some (j,n,c):=by
 show(match(match Nat.ble j n with|true=>some j|false=>none:Option Nat)with|none=>none|some l=>some (l,n,c):Option (Nat×Nat×Nat))=_;rw[xi hj]
theorem eQ (k:Nat):Nat.beq k k=true:=Nat.beq_eq.mpr rfl
theorem L4 (a b:Int):jc a b=decide (a<b):=by
 have h:some (V.bool (jc a b))=some (V.bool (decide (a<b))):=L2 (q:=.flat .i) (k:=.i64) (a:=a) (b:=b);injection h with h
 injection h
theorem CE (a b:Nat):mm false (.int .i64 (a:Int)) (.int .i64 (b:Int))=some (.int .i64 ((min a b:Nat):Int)):=by
 have hk:cW .i64 .i64=true:=rfl;simp only[mm,hk,cond_true,cond_false,L4];by_cases h:(b:Int)<(a:Int)
 ·rw[decide_eq_true h,cond_true,Nat.min_eq_right (by omega)]
 ·rw[decide_eq_false h,cond_false,Nat.min_eq_left (by omega)]
theorem Tn (a b:Nat):mm true (.int .i64 (a:Int)) (.int .i64 (b:Int))=some (.int .i64 ((max a b:Nat):Int)):=by
 have hk:cW .i64 .i64=true:=rfl;simp only[mm,hk,cond_true,L4];by_cases h:(a:Int)<(b:Int)
 ·rw[decide_eq_true h,cond_true,Nat.max_eq_right (by omega)]
 ·rw[decide_eq_false h,cond_false,Nat.max_eq_left (by omega)]
end Go.Ev
namespace Go.Ev
variable{F:Nat→Option aN} {K:KX} {E:Env} {h:Hp} {Q:fu} {rs:List (RS al)} {g:Option (Pa×Bool)} {d:Nat}
theorem fv (k:IntKind) (n:Int):dd (.int k n) (.int k n)=true:=by
 show(cW k k&&iw n n)=true;rw[ki];have:cW k k=true:=by cases k<;>rfl
 simp[this]
theorem hB (s:List UInt8):dd (.str s) (.str s)=true:=by
 show nN s s=true;rw[qL];simp
namespace ad
theorem F7 {sm:bz} (hw:az E g .no) (hd:lk d E=some dm) (hn:WR F K rs E h Q):WR F K (.cf ⟨some (pa d),sm,g⟩::rs) E h Q:=
 WR.cf (fun e he=>by simp only[lu,hw e he];rw[he d _ hd];(try rfl)) hn
theorem F8 {n:Option Nat} {x:Od} {a v w:V} (hw:az E g .yes) (hd:lk d E=some v) (hx:ax E x a) (hl:fH h n a=some w) (hs:same v w=true) (hn:WR F K rs E h Q):WR F K (.cf ⟨some (pa d),bY n x,g⟩::rs) E h Q:=
 WR.cf (fun e he=>by simp only[lu,hw e he,bY];rw[he d _ hd];simp only[hx e he,hl,hs]) hn
theorem To {z l l':List V} {n:Nat} {ps:List (Nat×Nat×Od)} {a:Pa} (hw:az E g .yes) (hd:lk d E=some (.sl a 0 n (.ex n))) (hf:pA E ps z l) (iI:aY l=true) (hg:h.get a=some (.cells l' false)) (hs:cm l l'=true) (hn:WR F K rs E h Q):
 WR F K (.cf ⟨some (pa d),aG z n ps,g⟩::rs) E h Q:=
 WR.cf (fun e he=>by
  have ni:same (.sl a 0 n (.ex n)) (.sl a 0 n (.ex n))=true:=by
   show((a.beq a&&Nat.beq 0 0)&&(Nat.beq n n&&Nat.beq n n))=true;rw[eQ n,(Pa.beq_iff a a).2 rfl];(try rfl)
  simp only[lu,hw e he,aG];rw[he d _ hd];simp only[hf.ev he,iI,cond_true,qG,hg,ni];exact hs) hn
end ad
theorem F9 (k g k' g':Int) (l l':List UInt8):cg .neq (.agg [(0,.i),(1,.i),(2,.s)]) (.agg [.int .i64 k,.int .i64 g,.str l]) (.agg [.int .i64 k',.int .i64 g',.str l'])=some (.bool (!decide (k=k'∧g=g'∧l=l'))):=by
 show(pj [V.int .i64 k,.int .i64 g,.str l] [.int .i64 k',.int .i64 g',.str l'] [(0,.i),(1,.i),(2,.s)]).map (fun b=>V.bool (!b))=_;have hk:cW .i64 .i64=true:=rfl;have n0:∀(a b c:V),nth [a,b,c] 0=some a:=fun _ _ _=>rfl;have n1:∀(a b c:V),nth [a,b,c] 1=some b:=fun _ _ _=>rfl;have n2:∀(a b c:V),nth [a,b,c] 2=some c:=fun _ _ _=>rfl;simp only[pj,n0,n1,n2,fq,hk,cond_true,ki,qL];by_cases I:k=k'
 ·have e1:(k==k')=true:=by simpa using I
  by_cases J:g=g'
  ·have e2:(g==g')=true:=by simpa using J
   by_cases h3:l=l'
   ·have e3:(l==l')=true:=by simpa using h3
    rw[e1,e2,e3];simp[I,J,h3]
   ·have e3:(l==l')=false:=by simpa using h3
    rw[e1,e2,e3];simp[h3]
  ·have e2:(g==g')=false:=by simpa using J
   rw[e1,e2];simp[J]
 ·have e1:(k==k')=false:=by simpa using I
  rw[e1];simp[I]
end Go.Ev
namespace Go.Ev
def al.rd:al→Option (List V)
 |.cells l d=>bif d then none else some l
 |.ro l=>some l
 |_=>none
theorem L5 {h:Hp} {a:Pa} {b:al} {l:List V} (hg:h.get a=some b) (hb:b.rd=some l):h.cells a=some l:=by
 unfold bm.cells;rw[hg];cases b with
 |cells c d=>cases d<;>simp[al.rd]at hb⊢;exact hb
 |ro c=>simpa[al.rd]using hb
 |_=>simp[al.rd]at hb
abbrev Fz:=Pa→Option al
def Fz.Le (O ψ:Fz):Prop:=∀a b,O a=some b→ψ a=some b
theorem Fz.Le.refl (O:Fz):O.Le O:=fun _ _ h=>h
theorem Fz.Le.trans {O ψ χ:Fz} (h:O.Le ψ) (k:ψ.Le χ):O.Le χ:=fun a b x=>k a b (h a b x)
def Fz.put (O:Fz) (a:Pa) (b:al):Fz:=fun x=>if x=a then some b else O x
abbrev Ob:=Option Pa×al
structure SH (O:Fz) (h:Hp) (R:List Ob):Prop where
 wf:WF h
 mQ:∀a b,O a=some b→h.get a=some b
 own:∀(i:Nat) (a:Pa) (b:al),R[i]? =some (some a,b)→h.get a=some b∧O a=none
 apart:∀(i j:Nat) (a:Pa) (b c:al),R[i]? =some (some a,b)→R[j]? =some (some a,c)→i=j
theorem SH.less {O ψ:Fz} {h:Hp} {R:List Ob} (s:SH ψ h R) (ac:O.Le ψ):SH O h R:=
 ⟨s.wf,fun a b x=>s.mQ a b (ac a b x),fun i a b x=>⟨(s.own i a b x).1,by
   cases e:O a with
   |none=>rfl
   |some c=>have:=ac a c e;rw[(s.own i a b x).2]at this;cases this⟩,s.apart⟩
theorem SH.pick {O:Fz} {h:Hp} {R O':List Ob} (s:SH O h R) (f:Nat→Nat) (hf:∀(i:Nat) (o:Ob),O'[i]? =some o→R[f i]? =some o) (X1:∀i j:Nat,i<O'.length→j<O'.length→f i=f j→i=j):SH O h O':=
 ⟨s.wf,s.mQ,fun i a b x=>s.own (f i) a b (hf i _ x),fun i j a b c x y=>X1 i j (List.getElem?_eq_some_iff.1 x).1 (List.getElem?_eq_some_iff.1 y).1 (s.apart _ _ a b c (hf i _ x) (hf j _ y))⟩
theorem Tq {U:Type} (l:List U) (i j:Nat):(l.eraseIdx i)[j]? =if j<i then l[j]? else l[j+1]? :=List.getElem?_eraseIdx ..
theorem SH.erase {O:Fz} {h:Hp} {R:List Ob} (s:SH O h R) (i:Nat):SH O h (R.eraseIdx i):=
 s.pick (fun j=>if j<i then j else j+1) (fun j o hj=>by rw[Tq]at hj;split<;>simp_all) (fun a b _ _ h=>by split at h<;>split at h<;>omega)
theorem SH.front {O:Fz} {h:Hp} {R ad:List Ob} {i:Nat} {o:Ob} (ho:R[i]? =some o) (s:SH O h (R++ad)):SH O h (o::(R.eraseIdx i++ad)):=by
 have hi:i<R.length:=(List.getElem?_eq_some_iff.1 ho).1;refine s.pick (fun j=>if j=0 then i else if j-1<i then j-1 else j) (fun j x hj=>?_) (fun a b _ _ e=>by(split at e<;>split at e<;>(try split at e)<;>(try split at e)<;>omega));cases j with
 |zero=>
  simp only[List.getElem?_cons_zero,Option.some.injEq]at hj;subst hj;rw[if_pos rfl,List.getElem?_append_left hi];exact ho
 |succ j=>
  rw[List.getElem?_cons_succ]at hj;rw[if_neg (by omega),Nat.add_sub_cancel];have hlen:(R.eraseIdx i).length=R.length-1:=List.length_eraseIdx_of_lt hi;by_cases I:j<R.length-1
  ·rw[List.getElem?_append_left (by omega),Tq]at hj;split
   ·rename_i J;rw[if_pos J]at hj;rw[List.getElem?_append_left (by omega)];exact hj
   ·rename_i J;rw[if_neg J]at hj;rw[List.getElem?_append_left (by omega)];exact hj
  ·rw[List.getElem?_append_right (by omega),hlen]at hj;rw[if_neg (by omega),List.getElem?_append_right (by omega),←hj];congr 1;omega
theorem SH.back {O:Fz} {h:Hp} {R ad:List Ob} {i:Nat} {o:Ob} (hi:i≤R.length) (s:SH O h (o::(R++ad))):SH O h ((R.take i++o::R.drop i)++ad):=by
 refine s.pick (fun j=>if j<i then j+1 else if j=i then 0 else j) (fun j x hj=>?_) (fun a b _ _ e=>by(split at e<;>split at e<;>(try split at e)<;>(try split at e)<;>omega));have e1:(R.take i++o::R.drop i)++ad=R.take i++(o::(R.drop i++ad)):=by simp
 rw[e1]at hj;have ap:(R.take i).length=i:=by rw[List.length_take];omega
 by_cases I:j<i
 ·rw[List.getElem?_append_left (by omega)]at hj;rw[if_pos I,List.getElem?_cons_succ,←hj,List.getElem?_take,if_pos I,List.getElem?_append_left (by omega)]
 ·rw[List.getElem?_append_right (by omega),ap]at hj;rw[if_neg I];by_cases J:j=i
  ·subst J;rw[if_pos rfl];rw[Nat.sub_self]at hj;exact hj
  ·rw[if_neg J];obtain⟨k,rfl⟩:∃k,j=i+k+1:=⟨j-i-1,by omega⟩
   rw[show i+k+1-i=k+1 by omega,List.getElem?_cons_succ]at hj;rw[List.getElem?_cons_succ,←hj];by_cases h3:k<R.length-i
   ·rw[List.getElem?_append_left (by omega),List.getElem?_append_left (by rw[List.length_drop];omega),List.getElem?_drop]
   ·rw[List.getElem?_append_right (by omega),List.getElem?_append_right (by rw[List.length_drop];omega),List.length_drop];congr 1;omega
theorem SH.lt {O:Fz} {h:Hp} {R:List Ob} (s:SH O h R) {i:Nat} {a:Pa} {b:al} (hi:R[i]? =some (some a,b)):a.toNat<h.next.toNat:=s.wf.lt (s.own i a b hi).1
theorem SH.alloc {O:Fz} {h:Hp} {R:List Ob} (s:SH O h R) (b:al):SH O (h.alloc b) ((some h.next,b)::R):=by
 have aD:∀a:Pa,a.toNat<h.next.toNat→(h.alloc b).get a=h.get a:=fun a ha=>ae1 ha;refine⟨s.wf.alloc b,fun a c hc=>?_,fun i a c hi=>?_,fun i j a c d hi hj=>?_⟩
 ·have:=s.mQ a c hc;rw[aD a (s.wf.lt this)];exact this
 ·cases i with
  |zero=>
   simp only[List.getElem?_cons_zero,Option.some.injEq,Prod.mk.injEq]at hi;obtain⟨rfl,rfl⟩:=hi;refine⟨F3 _ _,?_⟩;cases e:O h.next with
   |none=>rfl
   |some c=>have:=s.wf.lt (s.mQ _ _ e);omega
  |succ i=>
   rw[List.getElem?_cons_succ]at hi;have:=s.own i a c hi;exact⟨by rw[aD a (s.wf.lt this.1)];exact this.1,this.2⟩
 ·cases i with
  |zero=>
   cases j with
   |zero=>rfl
   |succ j=>
    simp only[List.getElem?_cons_zero,Option.some.injEq,Prod.mk.injEq]at hi;rw[List.getElem?_cons_succ]at hj;have:=s.lt hj;rw[←hi.1]at this;omega
  |succ i=>
   rw[List.getElem?_cons_succ]at hi;cases j with
   |zero=>
    simp only[List.getElem?_cons_zero,Option.some.injEq,Prod.mk.injEq]at hj;have:=s.lt hi;rw[←hj.1]at this;omega
   |succ j=>
    rw[List.getElem?_cons_succ]at hj;rw[s.apart i j a c d hi hj]
theorem SH.put {O:Fz} {h:Hp} {R:List Ob} (s:SH O h R) {i:Nat} {a:Pa} {b:al} (hi:R[i]? =some (some a,b)) (b':al):SH O (h.put a b') (R.set i (some a,b')):=by
 have ap:=(List.getElem?_eq_some_iff.1 hi).1;obtain⟨hg,hf⟩:=s.own i a b hi;have key:∀(j:Nat) (o:Ob),(R.set i (some a,b'))[j]? =some o→(j=i∧o=(some a,b'))∨(j≠i∧R[j]? =some o):=fun j o hj=>by
  rw[List.getElem?_set]at hj;split at hj
  ·rename_i e;subst e;exact .inl ⟨rfl,by simpa using hj.symm⟩
  ·rename_i e;exact .inr ⟨fun e1=>e e1.symm,hj⟩
 refine⟨s.wf.put (s.wf.lt hg) b',fun x c hx=>?_,fun j x c hj=>?_,fun j k x c d hj hk=>?_⟩
 ·rw[F0,if_neg (fun e=>by subst e;rw[hf]at hx;cases hx)];exact s.mQ x c hx
 ·rcases key j _ hj with⟨rfl,e⟩|⟨bx,d7⟩
  ·simp only[Prod.mk.injEq,Option.some.injEq]at e;obtain⟨rfl,rfl⟩:=e;exact⟨ae0 _ _ _,hf⟩
  ·have:=s.own j x c d7;refine⟨?_,this.2⟩;rw[F0,if_neg (fun e=>by subst e;exact bx (s.apart j i a c b d7 hi))];exact this.1
 ·have f:∀(j:Nat) (c:al),(R.set i (some a,b'))[j]? =some (some x,c)→∃c',R[j]? =some (some x,c'):=fun j c hj=>by
   rcases key j _ hj with⟨rfl,e⟩|⟨_,d7⟩
   ·simp only[Prod.mk.injEq,Option.some.injEq]at e;obtain⟨rfl,_⟩:=e;exact⟨b,hi⟩
   ·exact⟨c,d7⟩
  obtain⟨c',I⟩:=f j c hj;obtain⟨d',J⟩:=f k d hk;exact s.apart j k x c' d' I J
theorem SH.zn {O:Fz} {h:Hp} {R ad:List Ob} (s:SH O h (R++ad)) {i:Nat} {a:Pa} {b:al} (hi:R[i]? =some (some a,b)) (b':al):SH O (h.put a b') (R.set i (some a,b')++ad):=by
 have ap:=(List.getElem?_eq_some_iff.1 hi).1;have:=s.put (i:=i) (by rw[List.getElem?_append_left ap];exact hi) b'
 rwa [List.set_append,if_pos ap]at this
theorem SH.hC {O:Fz} {h:Hp} {R ad:List Ob} (s:SH O h (R++ad)) {i:Nat} {a:Pa} {b:al} (hi:R[i]? =some (some a,b)):h.get a=some b:=
 (s.own i a b (by rw[List.getElem?_append_left (List.getElem?_eq_some_iff.1 hi).1];exact hi)).1
theorem SH.freeze {O:Fz} {h:Hp} {R ad:List Ob} (s:SH O h (R++ad)) {i:Nat} {a:Pa} {b:al} (hi:R[i]? =some (some a,b)):SH (O.put a b) h (R.eraseIdx i++ad)∧O.Le (O.put a b):=by
 have I:=s.front hi;obtain⟨hg,hf⟩:=I.own 0 a b rfl;refine⟨⟨s.wf,fun x c hx=>?_,fun j x c hj=>?_,fun j k x c d hj hk=>?_⟩,fun x c hx=>?_⟩
 ·unfold Fz.put at hx;split at hx
  ·rename_i e;subst e;simp at hx;subst hx;exact hg
  ·exact s.mQ x c hx
 ·have J:=I.own (j+1) x c (by simpa using hj);refine⟨J.1,?_⟩;unfold Fz.put;rw[if_neg (fun e=>by subst e;have:=I.apart 0 (j+1) x b c rfl (by simpa using hj);omega)];exact J.2
 ·have:=I.apart (j+1) (k+1) x c d (by simpa using hj) (by simpa using hk);omega
 ·unfold Fz.put;rw[if_neg (fun e=>by subst e;rw[hf]at hx;cases hx)];exact hx
theorem SH.ae7 {O:Fz} {h h':Hp} {R ad:List Ob} {i:Nat} {a:Pa} {b:al} (s:SH O h (R++ad)) (hi:R[i]? =some (some a,b)) (s':SH (O.put a b) h' (R.eraseIdx i++ad)):SH O h' (R++ad):=by
 have ap:=(List.getElem?_eq_some_iff.1 hi).1;have hf:O a=none:=(s.own i a b (by rw[List.getElem?_append_left ap];exact hi)).2;have ac:O.Le (O.put a b):=(s.freeze hi).2;have I:SH O h' ((some a,b)::(R.eraseIdx i++ad)):=by
  have hg:h'.get a=some b:=s'.mQ a b (by simp[Fz.put]);have hn:∀(j:Nat) (c:al),(R.eraseIdx i++ad)[j]?≠some (some a,c):=fun j c hj=>by
   have:=(s'.own j a c hj).2;simp[Fz.put]at this
  refine⟨s'.wf,fun x c hx=>s'.mQ x c (ac x c hx),fun j x c hj=>?_,fun j k x c d hj hk=>?_⟩
  ·cases j with
   |zero=>simp only[List.getElem?_cons_zero,Option.some.injEq,Prod.mk.injEq]at hj;obtain⟨rfl,rfl⟩:=hj;exact⟨hg,hf⟩
   |succ j=>exact(s'.less ac).own j x c (by simpa using hj)
  ·cases j with
   |zero=>
    simp only[List.getElem?_cons_zero,Option.some.injEq,Prod.mk.injEq]at hj;obtain⟨rfl,rfl⟩:=hj;cases k with
    |zero=>rfl
    |succ k=>rw[List.getElem?_cons_succ]at hk;exact absurd hk (hn k d)
   |succ j=>
    rw[List.getElem?_cons_succ]at hj;cases k with
    |zero=>
     simp only[List.getElem?_cons_zero,Option.some.injEq,Prod.mk.injEq]at hk;obtain⟨rfl,rfl⟩:=hk;exact absurd hj (hn j c)
    |succ k=>rw[List.getElem?_cons_succ]at hk;rw[s'.apart j k x c d hj hk]
 have J:=SH.back (i:=i) (by rw[List.length_eraseIdx_of_lt ap];omega) I;have e:(R.eraseIdx i).take i++(some a,b)::(R.eraseIdx i).drop i=R:=by
  have bE:R[i]=(some a,b):=(List.getElem?_eq_some_iff.1 hi).2;rw[List.eraseIdx_eq_take_drop_succ];have hl:(R.take i).length=i:=by rw[List.length_take];omega
  rw[List.take_append_of_le_length (by omega),List.take_of_length_le (by omega),List.drop_append_of_le_length (by omega),List.drop_of_length_le (by omega),List.nil_append,←bE,List.getElem_cons_drop,List.take_append_drop]
 rwa [e]at J
end Go.Ev
namespace Go.Ev
def ae8 (n k:Nat):hW→Prop
 |.ex c=>n≤c
 |.un s=>s=k
def FS (O:Fz) (v:V) (k n:Nat) (cs:List V):Prop:=
 cs.length=n*k∧((v=.no .sl∧n=0)∨∃a o c b l,v=.sl a o n c∧O a=some b∧b.rd=some l∧(∀(i:Nat) (u:V),cs[i]? =some u→l[o+i]? =some u)∧ae8 n k c)
def EP (O:Fz) (p:V) (xs:List V):Prop:=∃a o b l,p=.ptr a o∧O a=some b∧b.rd=some l∧∀(i:Nat) (u:V),xs[i]? =some u→l[o+i]? =some u
def OV (v:V) (k n:Nat) (cs:List V) (s:Option Pa):Prop:=
 cs.length=n*k∧aY cs=true∧((v=.no .sl∧n=0∧s=none)∨(∃a,v=.sl a 0 n (.un k)∧s=some a)∨∃a,v=.sl a 0 n (.ex n)∧s=some a)
section
variable{O ψ:Fz} {h:Hp} {R ad:List Ob} {v p x:V} {k n m:Nat} {cs xs:List V} {s:Option Pa}
theorem FS.mono (hs:FS O v k n cs) (ac:O.Le ψ):FS ψ v k n cs:=⟨hs.1,hs.2.imp id fun⟨a,o,c,b,l,I,J,h3⟩=>⟨a,o,c,b,l,I,ac _ _ J,h3⟩⟩
theorem EP.mono (hs:EP O p xs) (ac:O.Le ψ):EP ψ p xs:=let⟨a,o,b,l,I,J,h3⟩:=hs;⟨a,o,b,l,I,ac _ _ J,h3⟩
theorem FS.nil (O:Fz) (k:Nat):FS O (.no .sl) k 0 []:=⟨by simp,.inl ⟨rfl,rfl⟩⟩
theorem OV.nil (k:Nat):OV (.no .sl) k 0 [] none:=⟨by simp,rfl,.inl ⟨rfl,rfl,rfl⟩⟩
theorem FS.sl (hs:FS O v k n cs) (sh:SH O h R):Sl h v k n cs:=⟨hs.1,hs.2.imp id fun⟨a,o,c,_,l,I,J,h3,h4,_⟩=>⟨a,o,c,I,l,L5 (sh.mQ _ _ J) h3,h4⟩⟩
theorem FS.len (hs:FS O v k n cs):sE v=some (.int .i64 (n:Int)):=by
 rcases hs.2 with⟨rfl,rfl⟩|⟨a,o,c,b,l,rfl,_⟩<;>rfl
theorem OV.len (ho:OV v k n cs s):sE v=some (.int .i64 (n:Int)):=by
 rcases ho.2.2 with⟨rfl,rfl,_⟩|⟨a,rfl,_⟩|⟨a,rfl,_⟩<;>rfl
theorem OV.sl (ho:OV v k n cs s) {i:Nat} (hi:R[i]? =some (s,.cells cs false)) (sh:SH O h (R++ad)):Sl h v k n cs:=by
 refine⟨ho.1,?_⟩;rcases ho.2.2 with⟨I,J,_⟩|⟨a,I,rfl⟩|⟨a,I,rfl⟩
 ·exact .inl ⟨I,J⟩
 ·exact .inr ⟨a,0,_,I,.of (sh.hC hi) rfl⟩
 ·exact .inr ⟨a,0,_,I,.of (sh.hC hi) rfl⟩
theorem OV.fs {b:al} (ho:OV v k n cs s) (hb:b=.cells cs false) (hs:∀a,s=some a→O a=some b):FS O v k n cs:=by
 subst hb;refine⟨ho.1,?_⟩;rcases ho.2.2 with⟨I,J,_⟩|⟨a,I,rfl⟩|⟨a,I,rfl⟩
 ·exact .inl ⟨I,J⟩
 ·exact .inr ⟨a,0,_,_,cs,I,hs a rfl,rfl,fun i u hu=>by rw[Nat.zero_add];exact hu,rfl⟩
 ·exact .inr ⟨a,0,_,_,cs,I,hs a rfl,rfl,fun i u hu=>by rw[Nat.zero_add];exact hu,Nat.le_refl n⟩
theorem FS.at (hs:FS O v k n cs) {j:Nat} (hj:j<n):∃a o c,v=.sl a o n c∧EP O (.ptr a (o+j*k)) ((cs.drop (j*k)).take k):=by
 rcases hs.2 with⟨_,rfl⟩|⟨a,o,c,b,l,I,J,h3,h4,_⟩
 ·omega
 ·refine⟨a,o,c,I,a,_,b,l,rfl,J,h3,fun i u hu=>?_⟩;rw[List.getElem?_take]at hu;split at hu
  ·rw[List.getElem?_drop]at hu;rw[Nat.add_assoc];exact h4 _ _ hu
  ·cases hu
theorem EP.field (hp:EP O p xs) (off:Nat):∃a o,p=.ptr a o∧EP O (.ptr a (o+off)) (xs.drop off):=by
 obtain⟨a,o,b,l,I,J,h3,h4⟩:=hp;exact⟨a,o,I,a,_,b,l,rfl,J,h3,fun i u hu=>by rw[List.getElem?_drop]at hu;rw[Nat.add_assoc];exact h4 _ _ hu⟩
theorem EP.L6 (hp:EP O p xs) {u:V} (hu:xs[0]? =some u) (sh:SH O h R):fH h none p=some u:=by
 obtain⟨a,o,b,l,rfl,J,h3,h4⟩:=hp;simp only[fH,L5 (sh.mQ _ _ J) h3,qH];exact h4 0 u hu
theorem EP.cl (hp:EP O p xs) {n:Nat} {l':List V} (hl:xs.take n=l') (hn:l'.length=n) (sh:SH O h R):fH h (some n) p=some (.agg l'):=by
 obtain⟨a,o,b,l,rfl,J,h3,h4⟩:=hp;have hc:gf h a o (xs.take n):=⟨l,L5 (sh.mQ _ _ J) h3,fun i u hu=>h4 i u (by rw[List.getElem?_take]at hu;split at hu;exact hu;cases hu)⟩
 rw[hl]at hc;simp only[fH,hc.all hn]
theorem FS.hi (hs:FS O v k n cs) {j:Nat} (hj:j≤n):∃v',ef k v none (some (.int .i64 (j:Int))) none=some v'∧FS O v' k j (cs.take (j*k)):=by
 have hlen:(cs.take (j*k)).length=j*k:=by rw[List.length_take,hs.1];exact Nat.min_eq_left (Nat.mul_le_mul_right _ hj)
 have eX:∀(i:Nat) (u:V),(cs.take (j*k))[i]? =some u→cs[i]? =some u:=fun i u hu=>by rw[List.getElem?_take]at hu;split at hu;exact hu;cases hu
 rcases hs.2 with⟨rfl,rfl⟩|⟨a,o,c,b,l,rfl,J,h3,h4,h5⟩
 ·obtain rfl:j=0:=by omega
  exact⟨.no .sl,rfl,hlen,.inl ⟨rfl,rfl⟩⟩
 ·cases c with
  |ex c=>
   have Oj:j≤c:=Nat.le_trans hj h5;refine⟨.sl a o j (.ex c),?_,hlen,.inr ⟨a,o,_,b,l,rfl,J,h3,fun i u hu=>h4 i u (eX i u hu),Oj⟩⟩;simp only[ef,Tm Oj,Nat.sub_zero,Nat.zero_mul,Nat.add_zero];cases Nat.beq c 0<;>rfl
  |un s=>
   obtain rfl:s=k:=h5;refine⟨.sl a o j (.un s),?_,hlen,.inr ⟨a,o,_,b,l,rfl,J,h3,fun i u hu=>h4 i u (eX i u hu),rfl⟩⟩;simp only[ef,Tm hj,eQ,cond_true,Nat.sub_zero,Nat.zero_mul,Nat.add_zero]
theorem FS.lo (hs:FS O v k n cs) {j:Nat} (hj:j≤n):∃v',ef k v (some (.int .i64 (j:Int))) none none=some v'∧FS O v' k (n-j) (cs.drop (j*k)):=by
 have hlen:(cs.drop (j*k)).length=(n-j)*k:=by rw[List.length_drop,hs.1,Nat.sub_mul]
 have me:∀(o:Nat) (l:List V),(∀(i:Nat) (u:V),cs[i]? =some u→l[o+i]? =some u)→∀(i:Nat) (u:V),(cs.drop (j*k))[i]? =some u→l[o+j*k+i]? =some u:=fun o l hh i u hu=>by
  rw[List.getElem?_drop]at hu;rw[Nat.add_assoc];exact hh _ _ hu
 rcases hs.2 with⟨rfl,rfl⟩|⟨a,o,c,b,l,rfl,J,h3,h4,h5⟩
 ·obtain rfl:j=0:=by omega
  exact⟨.no .sl,rfl,hlen,.inl ⟨rfl,rfl⟩⟩
 ·cases c with
  |ex c=>
   have An:n≤c:=h5;by_cases Ok:c=j
   ·subst Ok;obtain rfl:n=c:=by omega
    have Ah:cs.drop (n*k)=[]:=List.drop_eq_nil_of_le (by rw[hs.1];exact Nat.le_refl _);refine⟨.sl a o (n-n) (.ex (n-n)),?_,hlen,.inr ⟨a,o,_,b,l,rfl,J,h3,fun i u hu=>by rw[Ah]at hu;simp at hu,Nat.le_refl _⟩⟩;simp only[ef,xj (Nat.le_refl n) (Nat.le_refl n),eQ,cond_true]
   ·refine⟨.sl a (o+j*k) (n-j) (.ex (c-j)),?_,hlen,.inr ⟨a,_,_,b,l,rfl,J,h3,me o l h4,by show n-j≤c-j;omega⟩⟩;simp only[ef,xj hj An,xf Ok,cond_false]
  |un s=>
   obtain rfl:s=k:=h5;refine⟨.sl a (o+j*s) (n-j) (.un s),?_,hlen,.inr ⟨a,_,_,b,l,rfl,J,h3,me o l h4,rfl⟩⟩;simp only[ef,xj hj (Nat.le_refl _),eQ,cond_true]
theorem Ga {n c i j:Nat} (dr:i≤j) (hj:j≤c):eD n c (some (.int .i64 (i:Int))) (some (.int .i64 (j:Int))) none=some (i,j,c):=by
 show(match(match Nat.ble j c with|true=>some j|false=>none:Option Nat)with|none=>none|some h=>(match(match Nat.ble i h with|true=>some i|false=>none:Option Nat)with|none=>none|some l=>some (l,h,c)):Option (Nat×Nat×Nat))=_;simp only[xi hj,xi dr]
theorem FS.both (hs:FS O v k n cs) {i j:Nat} (dr:i≤j) (hj:j≤n):∃v',ef k v (some (.int .i64 (i:Int))) (some (.int .i64 (j:Int))) none=some v'∧FS O v' k (j-i) ((cs.drop (i*k)).take ((j-i)*k)):=by
 have hlen:((cs.drop (i*k)).take ((j-i)*k)).length=(j-i)*k:=by
  rw[List.length_take,List.length_drop,hs.1,←Nat.sub_mul];exact Nat.min_eq_left (Nat.mul_le_mul_right _ (by omega))
 have me:∀(o:Nat) (l:List V),(∀(i:Nat) (u:V),cs[i]? =some u→l[o+i]? =some u)→∀(q:Nat) (u:V),((cs.drop (i*k)).take ((j-i)*k))[q]? =some u→l[o+i*k+q]? =some u:=fun o l hh q u hu=>by
  rw[List.getElem?_take]at hu;split at hu
  ·rw[List.getElem?_drop]at hu;rw[Nat.add_assoc];exact hh _ _ hu
  ·cases hu
 rcases hs.2 with⟨rfl,rfl⟩|⟨a,o,c,b,l,rfl,J,h3,h4,h5⟩
 ·obtain rfl:j=0:=by omega
  obtain rfl:i=0:=by omega
  exact⟨.no .sl,rfl,hlen,.inl ⟨rfl,rfl⟩⟩
 ·cases c with
  |ex c=>
   have An:n≤c:=h5;by_cases Ol:c=i
   ·subst Ol;obtain rfl:n=c:=by omega
    obtain rfl:n=j:=by omega
    refine⟨.sl a o (n-n) (.ex (n-n)),?_,hlen,.inr ⟨a,o,_,b,l,rfl,J,h3,fun q u hu=>by rw[Nat.sub_self,Nat.zero_mul,List.take_zero]at hu;simp at hu,Nat.le_refl _⟩⟩;simp only[ef,Ga (Nat.le_refl n) (Nat.le_refl n),eQ,cond_true]
   ·refine⟨.sl a (o+i*k) (j-i) (.ex (c-i)),?_,hlen,.inr ⟨a,_,_,b,l,rfl,J,h3,me o l h4,by show j-i≤c-i;omega⟩⟩;simp only[ef,Ga dr (Nat.le_trans hj An),xf Ol,cond_false]
  |un s=>
   obtain rfl:s=k:=h5;refine⟨.sl a (o+i*s) (j-i) (.un s),?_,hlen,.inr ⟨a,_,_,b,l,rfl,J,h3,me o l h4,rfl⟩⟩;simp only[ef,Ga dr hj,eQ,cond_true]
theorem FS.src (hs:FS O v k n cs) (sh:SH O h R):j9 v=some n∧ln h k n v=some cs:=(hs.sl sh).src
theorem SH.move {o:Ob} (sh:SH O h (o::(R++ad))) (i:Nat):SH O h (R.set i o++ad):=by
 refine sh.pick (fun j=>if j=i∧i<R.length then 0 else j+1) (fun j x hj=>?_) (fun a b _ _ e=>by split at e<;>split at e<;>omega);by_cases I:j<R.length
 ·rw[List.getElem?_append_left (by rw[List.length_set];exact I),List.getElem?_set]at hj;by_cases J:i=j
  ·subst J;rw[if_pos ⟨rfl,I⟩];rw[if_pos rfl,if_pos I]at hj;exact hj
  ·rw[if_neg J]at hj;rw[if_neg (fun e=>J e.1.symm),List.getElem?_cons_succ,List.getElem?_append_left I];exact hj
 ·rw[List.getElem?_append_right (by rw[List.length_set];omega),List.length_set]at hj;rw[if_neg (by omega),List.getElem?_cons_succ,List.getElem?_append_right (by omega)];exact hj
theorem OV.nO (sh:SH O h (R++ad)) {i:Nat} (hi:R[i]? =some (s,.cells cs false)) (ho:OV v k n cs s) (kT:xs.length=m*k) (eV:aY xs=true) (hk:0<k) (hb:n+m≤1073741824):
 ∃v' s' h',nO h k m xs v=some (v',h')∧OV v' k (n+m) (cs++xs) s'∧SH O h' (R.set i (s',.cells (cs++xs) false)++ad):=by
 have hlen:(cs++xs).length=(n+m)*k:=by rw[List.length_append,ho.1,kT,Nat.add_mul]
 have eK:=Tc ho.2.1 eV;have ap:=(List.getElem?_eq_some_iff.1 hi).1;cases m with
 |zero=>
  have m5:xs=[]:=List.eq_nil_of_length_eq_zero (by rw[kT];simp);subst m5;have he:R.set i (s,.cells (cs++[]) false)=R:=by
   rw[List.append_nil];apply List.ext_getElem?;intro j;rw[List.getElem?_set];split
   ·rename_i e;subst e;rw[hi]
   ·rfl
  refine⟨v,s,h,?_,by simpa using ho,by rw[he];exact sh⟩;rcases ho.2.2 with⟨rfl,rfl,rfl⟩|⟨a,rfl,rfl⟩|⟨a,rfl,rfl⟩<;>simp only[Go.Ev.nO]<;>rfl
 |succ m=>
  have vE:Nat.beq (m+1) 0=false:=rfl;rcases ho.2.2 with⟨rfl,rfl,rfl⟩|⟨a,rfl,rfl⟩|⟨a,rfl,rfl⟩
  ·have tr:cs=[]:=List.eq_nil_of_length_eq_zero (by rw[ho.1];simp);subst tr;rw[Nat.zero_add]at hb⊢;refine⟨.sl h.next 0 (m+1) (.un k),some h.next,h.alloc (.cells xs false),?_,⟨by simpa using kT,eV,.inr (.inl ⟨_,rfl,rfl⟩)⟩,(sh.alloc _).move i⟩;simp only[Go.Ev.nO,vE,cond_false,sF,Nat.ble_eq_true_of_le hb,cond_true,eV]
  ·have hg:=sh.hC hi;refine⟨.sl h.next 0 (n+(m+1)) (.un k),some h.next,(h.put a (.cells cs true)).alloc (.cells (cs++xs) false),?_,⟨hlen,eK,.inr (.inl ⟨_,rfl,rfl⟩)⟩,?_⟩
   ·have vw:Nat.ble (0+(n+(m+1))*k) cs.length=false:=by
     cases hq:Nat.ble (0+(n+(m+1))*k) cs.length with
     |false=>rfl
     |true=>
      have:=Nat.le_of_ble_eq_true hq;have I:0<(m+1)*k:=Nat.mul_pos (by omega) hk;rw[ho.1,Nat.add_mul]at this;omega
    have eX:takeN (n*k) (qx 0 cs)=some cs:=by
     rw[qI,List.drop_zero,zh (by rw[ho.1];exact Nat.le_refl _),←ho.1,List.take_length]
    simp only[Go.Ev.nO,vE,cond_false,eQ,cond_true,hg,vw,eX,sF,Nat.ble_eq_true_of_le hb,eK];rfl
   ·have I:=(sh.zn hi (.cells cs true)).alloc (.cells (cs++xs) false);have J:=SH.move I i
    rwa [List.set_set]at J
  ·have hg:=sh.hC hi;refine⟨.sl h.next 0 (n+(m+1)) (.un k),some h.next,h.alloc (.cells (cs++xs) false),?_,⟨hlen,eK,.inr (.inl ⟨_,rfl,rfl⟩)⟩,(sh.alloc _).move i⟩;have vw:Nat.ble (n+(m+1)) n=false:=by
    cases hq:Nat.ble (n+(m+1)) n with
    |false=>rfl
    |true=>have:=Nat.le_of_ble_eq_true hq;omega
   have vv:h.cl a 0 (n*k)=some cs:=(gf.of hg rfl).all ho.1;simp only[Go.Ev.nO,vE,cond_false,vw,vv,sF,Nat.ble_eq_true_of_le hb,cond_true,eK]
theorem OV.app (sh:SH O h (R++ad)) {i:Nat} (hi:R[i]? =some (s,.cells cs false)) (ho:OV v k n cs s) (hl:j9 x=some m) (hx:ln h k m x=some xs) (kT:xs.length=m*k) (eV:aY xs=true) (hk:0<k) (hb:n+m≤1073741824):
 ∃v' s' h',yZ h k v x=some (v',h')∧OV v' k (n+m) (cs++xs) s'∧SH O h' (R.set i (s',.cells (cs++xs) false)++ad):=by
 simp only[yZ,hl,hx];exact ho.nO sh hi kT eV hk hb
end
end Go.Ev
namespace Go.Ev
def L7 (E:Env):Od→Option V
 |.t p=>lk p.toNat E
 |.c v=>some v
theorem L8 {E:Env} {x:Od} {a:V} (h:L7 E x=some a):ax E x a:=by
 cases x with
 |t p=>
  intro e he;have I:lk p.toNat E=some a:=h;have J:=he p.toNat a I;show e.val p=a;unfold T.val;have hp:pa p.toNat=p:=Pa.toNat_inj (gY _);rw[hp]at J;rw[J]
 |c v=>cases h;exact .c
def kD (E:Env):List Od→Option (List V)
 |[]=>some []
 |x::xs=>match L7 E x with
  |some a=>match kD E xs with
   |some l=>some (a::l)
   |none=>none
  |none=>none
theorem nV {E:Env}:∀{xs:List Od} {vs:List V},kD E xs=some vs→py E xs vs
 |[],vs,h=>by cases h;exact .nil
 |x::xs,vs,h=>by
  simp only[kD]at h;split at h
  ·rename_i a ha;split at h
   ·rename_i l hl;cases h;exact .cons (L8 ha) (nV hl)
   ·cases h
  ·cases h
def uR (E:Env):List (Nat×Nat×Od)→List V→Option (List V×List V)
 |[],z=>some (z,[])
 |(o,n,x)::r,z=>match L7 E x with
  |none=>none
  |some a=>match n with
   |1=>match dk o z [a]with
    |none=>none
    |some z'=>match uR E r z' with
     |none=>none
     |some p=>some (p.1,a::p.2)
   |n=>match Nat.beq a.cells.length n with
    |false=>none
    |true=>match dk o z a.cells with
     |none=>none
     |some z'=>match uR E r z' with
      |none=>none
      |some p=>some (p.1,a.cells++p.2)
theorem jm {v:V} (h:isScalar v=true):v.cells=[v]:=by cases v<;>first|rfl|cases h
theorem Tr {v:V} {l:List V} (h:aY (v::l)=true):isScalar v=true∧aY l=true:=by
 simp only[aY]at h;cases hv:isScalar v with
 |false=>simp[hv]at h
 |true=>simp only[hv,cond_true]at h;exact⟨rfl,h⟩
theorem ae9 {a b:List V} (h:aY (a++b)=true):aY a=true∧aY b=true:=by
 induction a with
 |nil=>exact⟨rfl,h⟩
 |cons v a ih=>
  obtain⟨I,J⟩:=Tr h;obtain⟨h3,h4⟩:=ih J;refine⟨?_,h4⟩;simp only[aY,I,cond_true];exact h3
theorem zo {E:Env}:∀{ps:List (Nat×Nat×Od)} {z l sd:List V},uR E ps z=some (l,sd)→aY sd=true→pA E ps z l
 |[],z,l,sd,h,_=>by cases h;exact .nil
 |(o,n,x)::r,z,l,sd,h,hs=>by
  simp only[uR]at h;split at h
  ·cases h
  ·rename_i a ha;split at h
   ·split at h
    ·cases h
    ·rename_i z' hz;split at h
     ·cases h
     ·rename_i p hp;cases h;obtain⟨I,J⟩:=Tr hs;exact .cons (L8 ha) (by rw[jm I];(try rfl)) (by rw[jm I];simp[aY,I]) (by rw[jm I];exact hz) (zo (sd:=p.2) hp J)
   ·split at h
    ·cases h
    ·rename_i hb;split at h
     ·cases h
     ·rename_i z' hz;split at h
      ·cases h
      ·rename_i p hp;cases h;obtain⟨I,J⟩:=ae9 hs;exact .cons (L8 ha) hb I hz (zo (sd:=p.2) hp J)
structure bB where
 n:Env→Fz→List Ob→Prop
 x:Nat→Env→Fz→List Ob→Prop
 r:Env→Fz→List Ob→Prop
 p:Env→V→Fz→List Ob→Prop
def dL (ms:List Pa):List Ob:=ms.map fun m=>(some m,.dH true)
theorem zp (a b:List Pa):dL (a++b)=dL a++dL b:=by simp[dL]
def bB.at (Q:bB) (O:Fz) (ad:List Ob):fu where
 n:=fun E h ms=>∃ψ R,O.Le ψ∧SH ψ h (R++(dL ms++ad))∧Q.n E ψ R
 x:=fun i E h ms=>∃ψ R,O.Le ψ∧SH ψ h (R++(dL ms++ad))∧Q.x i E ψ R
 r:=fun E h ms=>∃ψ R,O.Le ψ∧SH ψ h (R++(dL ms++ad))∧Q.r E ψ R
 p:=fun E v h ms=>∃ψ R,O.Le ψ∧SH ψ h (R++(dL ms++ad))∧Q.p E v ψ R
abbrev V.j (n:Int):V:=.int .i64 n
theorem Sub.r:∀{L E:Env},(L.map fun p=>lk p.1 E)=(L.map fun p=>some p.2)→Sub L E
 |[],_,_=>.nil _
 |(_,_)::_,_,h=>.cons (List.cons.inj h).1 (Sub.r (List.cons.inj h).2)
def bB.then (Q:bB) (n:Env→Fz→List Ob→Prop):bB:={Q with n:=n}
theorem bB.up {Q:bB} {O ψ:Fz} {ad:List Ob} (ac:O.Le ψ):(∀E h m,(Q.at ψ ad).n E h m→(Q.at O ad).n E h m)∧(∀i E h m,(Q.at ψ ad).x i E h m→(Q.at O ad).x i E h m)∧(∀E h m,(Q.at ψ ad).r E h m→(Q.at O ad).r E h m)∧∀E v h m,(Q.at ψ ad).p E v h m→(Q.at O ad).p E v h m:=
 ⟨fun _ _ _ ⟨χ,R,I,J⟩=>⟨χ,R,ac.trans I,J⟩,fun _ _ _ _ ⟨χ,R,I,J⟩=>⟨χ,R,ac.trans I,J⟩,fun _ _ _ ⟨χ,R,I,J⟩=>⟨χ,R,ac.trans I,J⟩,fun _ _ _ _ ⟨χ,R,I,J⟩=>⟨χ,R,ac.trans I,J⟩⟩
theorem bB.sh {Q:bB} {O ψ:Fz} {ad:List Ob} {ms:List Pa} (ac:O.Le ψ):(∀E h m,(Q.at ψ (dL ms++ad)).n E h m→((Q.at O ad).sh ms).n E h m)∧(∀i E h m,(Q.at ψ (dL ms++ad)).x i E h m→((Q.at O ad).sh ms).x i E h m)∧(∀E h m,(Q.at ψ (dL ms++ad)).r E h m→((Q.at O ad).sh ms).r E h m)∧∀E v h m,(Q.at ψ (dL ms++ad)).p E v h m→((Q.at O ad).sh ms).p E v h m:=
 ⟨fun _ _ m ⟨χ,R,I,J,h3⟩=>⟨χ,R,ac.trans I,by rw[zp,List.append_assoc];exact J,h3⟩,fun _ _ _ m ⟨χ,R,I,J,h3⟩=>⟨χ,R,ac.trans I,by rw[zp,List.append_assoc];exact J,h3⟩,fun _ _ m ⟨χ,R,I,J,h3⟩=>⟨χ,R,ac.trans I,by rw[zp,List.append_assoc];exact J,h3⟩,fun _ _ _ m ⟨χ,R,I,J,h3⟩=>⟨χ,R,ac.trans I,by rw[zp,List.append_assoc];exact J,h3⟩⟩
section
variable(F:Nat→Option aN) (K:KX)
def SW (c:IC al) (E:Env) (O:Fz) (R:List Ob) (Q:bB):Prop:=∀ad h,SH O h (R++ad)→WC F K c E h (Q.at O ad)
def SR (rs:List (RS al)) (E:Env) (O:Fz) (R:List Ob) (Q:bB):Prop:=∀ad h,SH O h (R++ad)→WR F K rs E h (Q.at O ad)
def ai (f:Nat) (args:List V) (O:Fz) (R:List Ob) (Rt:V→Fz→List Ob→Prop) (Up:V→Fz→List Ob→Prop):Prop:=
 ∀ad h,SH O h (R++ad)→S8 F f args h (fun v h'=>∃ψ O',O.Le ψ∧SH ψ h' (O'++ad)∧Rt v ψ O') (fun v h'=>∃ψ O',O.Le ψ∧SH ψ h' (O'++ad)∧Up v ψ O')
end
def never:V→Fz→List Ob→Prop:=fun _ _ _=>False
def bk (F:Nat→Option aN) (f:Nat) (args:List V) (O:Fz) (v:V):Prop:=ai F f args O [] (fun r ψ R=>r=v∧ψ=O∧R=[]) never
variable{F:Nat→Option aN} {K:KX} {E:Env} {O:Fz} {R:List Ob} {Q:bB}
theorem WC.up {c:IC al} {h:Hp} {ψ:Fz} {ad:List Ob} (ac:O.Le ψ) (hw:WC F K c E h (Q.at ψ ad)):WC F K c E h (Q.at O ad):=let u:=bB.up ac;WC.mono u.1 u.2.1 u.2.2.1 u.2.2.2 hw
theorem WR.mono {rs:List (RS al)} {h:Hp} {Q Q':fu} (hn:∀E h m,Q.n E h m→Q'.n E h m) (hx:∀i E h m,Q.x i E h m→Q'.x i E h m) (hr:∀E h m,Q.r E h m→Q'.r E h m) (hp:∀E v h m,Q.p E v h m→Q'.p E v h m) (hw:WR F K rs E h Q):WR F K rs E h Q':=
 fun e he=>let⟨r,I,J⟩:=hw e he;⟨r,I.mono hn hx hr hp,J⟩
theorem WR.up {rs:List (RS al)} {h:Hp} {ψ:Fz} {ad:List Ob} (ac:O.Le ψ) (hw:WR F K rs E h (Q.at ψ ad)):WR F K rs E h (Q.at O ad):=let u:=bB.up ac;WR.mono u.1 u.2.1 u.2.2.1 u.2.2.2 hw
namespace SW
theorem sub {c:IC al} {E':Env} (hs:Sub E' E) (hw:SW F K c E' O R Q):SW F K c E O R Q:=fun ad h sh=>WC.sub hs (hw ad h sh)
theorem skip (hq:Q.n E O R):SW F K .skip E O R Q:=fun _ _ sh=>WC.skip ⟨O,R,.refl O,sh,hq⟩
theorem region {rs:List (RS al)} (hw:SR F K rs E O R Q):SW F K (.region rs) E O R Q:=fun ad h sh=>WC.region (hw ad h sh)
theorem seq {a b:IC al} (hw:SW F K a E O R (Q.then fun E' ψ O'=>SW F K b E' ψ O' Q)):SW F K (.seq a b) E O R Q:=fun ad h sh=>
 WC.seq (WC.mono (Q:=(Q.then fun E' ψ O'=>SW F K b E' ψ O' Q).at O ad) (fun _ _ m ⟨_,_,I,J,h3⟩=>let u:=bB.sh (Q:=Q) (ms:=m) I;WC.mono u.1 u.2.1 u.2.2.1 u.2.2.2 (h3 _ _ J)) (fun _ _ _ _ h=>h) (fun _ _ _ h=>h) (fun _ _ _ _ h=>h) (hw ad h sh))
theorem «then»{c:IC al} (M:Env→Fz→List Ob→Prop) (hw:SW F K c E O R (Q.then M)) (hm:∀E' ψ O',O.Le ψ→M E' ψ O'→Q.n E' ψ O'):SW F K c E O R Q:=fun ad h sh=>
 WC.mono (Q:=(Q.then M).at O ad) (fun _ _ _ ⟨ψ,O',I,J,h3⟩=>⟨ψ,O',I,J,hm _ _ _ I h3⟩) (fun _ _ _ _ h=>h) (fun _ _ _ h=>h) (fun _ _ _ _ h=>h) (hw ad h sh)
theorem F6 {c:Od} {a b:IC al} {p:Prop} [Decidable p] (hc:ax E c (.bool (decide p))) (ht:p→SW F K a E O R Q) (hf:¬p→SW F K b E O R Q):SW F K (.cond c a b) E O R Q:=fun ad h sh=>WC.F6 hc (fun hp=>ht hp ad h sh) (fun hp=>hf hp ad h sh)
theorem L3 {c:Od} {a b:IC al} {t:Bool} (hc:ax E c (.bool t)) (ht:t=true→SW F K a E O R Q) (hf:t=false→SW F K b E O R Q):SW F K (.cond c a b) E O R Q:=fun ad h sh=>WC.L3 hc (fun hp=>ht hp ad h sh) (fun hp=>hf hp ad h sh)
theorem block {id:Nat} {b:IC al} (hw:SW F K b E O R {Q with x:=fun i E' ψ O'=>if i=id then Q.n E' ψ O' else Q.x i E' ψ O'}):SW F K (.block id b) E O R Q:=fun ad h sh=>
 WC.block (WC.mono (Q:=({Q with x:=fun i E' ψ O'=>if i=id then Q.n E' ψ O' else Q.x i E' ψ O'}:bB).at O ad) (fun _ _ _ h=>h) (fun i E' h' ms hx=>by
  have pU:∃ψ O',O.Le ψ∧SH ψ h' (O'++(dL ms++ad))∧(if i=id then Q.n E' ψ O' else Q.x i E' ψ O'):=hx;obtain⟨ψ,O',I,J,h3⟩:=pU;show if i=id then(Q.at O ad).n _ _ _ else(Q.at O ad).x i _ _ _
  by_cases hi:i=id
  ·rw[if_pos hi]at h3⊢;exact⟨ψ,O',I,J,h3⟩
  ·rw[if_neg hi]at h3⊢;exact⟨ψ,O',I,J,h3⟩) (fun _ _ _ h=>h) (fun _ _ _ _ h=>h) (hw ad h sh))
theorem exit {id:Nat} (hq:Q.x id E O R):SW F K (.exit id) E O R Q:=fun _ _ sh=>WC.exit ⟨O,R,.refl O,sh,hq⟩
theorem ret (hq:Q.r E O R):SW F K .ret E O R Q:=fun _ _ sh=>WC.ret ⟨O,R,.refl O,sh,hq⟩
theorem loop {b:IC al} (d0:Nat→Env→Fz→List Ob→Prop) {m:Nat} (hi:d0 m E O R) (hb:∀m E' ψ O',O.Le ψ→d0 m E' ψ O'→SW F K b E' ψ O' (Q.then fun tL χ kV=>∃m',m'<m∧d0 m' tL χ kV)):SW F K (.loop b) E O R Q:=fun ad h sh=>by
 refine WC.loop (fun m E' h' ms=>∃ψ O',O.Le ψ∧SH ψ h' (O'++(dL ms++ad))∧d0 m E' ψ O') (m:=m) ⟨O,R,.refl O,sh,hi⟩ fun m E' h' ms ⟨ψ,O',I,J,h3⟩=>?_;have u:=bB.sh (Q:=Q) (ad:=ad) (ms:=ms) I;exact WC.mono (Q:=(Q.then fun tL χ kV=>∃m',m'<m∧d0 m' tL χ kV).at ψ (dL ms++ad)) (fun _ _ m2 ⟨χ,kV,k1,k2,m',k3,k4⟩=>⟨m',k3,χ,kV,I.trans k1,by rw[zp,List.append_assoc];exact k2,k4⟩) u.2.1 u.2.2.1 u.2.2.2 (hb m E' ψ O' I h3 _ h' J)
end SW
def Fin (O:Fz) (R:List Ob) (P:Fz→List Ob→Prop):Prop:=∀ad h,SH O h (R++ad)→∃ψ O',O.Le ψ∧SH ψ h (O'++ad)∧P ψ O'
namespace Fin
variable{P:Fz→List Ob→Prop}
theorem done (hp:P O R):Fin O R P:=fun _ _ sh=>⟨O,R,.refl O,sh,hp⟩
theorem freeze (i:Nat) {a:Pa} {b:al} (hi:R[i]? =some (some a,b)) (hn:∀ψ,O.Le ψ→ψ a=some b→Fin ψ (R.eraseIdx i) P):Fin O R P:=fun ad h sh=>by
 obtain⟨I,J⟩:=sh.freeze hi;obtain⟨χ,O',k1,k2⟩:=hn _ J (by simp[Fz.put]) ad h I;exact⟨χ,O',J.trans k1,k2⟩
theorem bR (i:Nat) {v:V} {k n:Nat} {cs:List V} {s:Option Pa} (hi:R[i]? =some (s,.cells cs false)) (ho:OV v k n cs s) (hn:∀ψ,O.Le ψ→FS ψ v k n cs→Fin ψ (R.eraseIdx i) P):Fin O R P:=by
 cases s with
 |none=>
  intro ad h sh;have I:SH O h (R.eraseIdx i++ad):=by
   have:=(sh.front hi).erase 0;simpa using this
  exact hn O (.refl O) (ho.fs rfl fun a e=>by cases e) ad h I
 |some a=>exact freeze i hi fun ψ I J=>hn ψ I (ho.fs rfl fun b e=>by cases e;exact J)
theorem drop (i:Nat) (hn:Fin O (R.eraseIdx i) P):Fin O R P:=fun ad h sh=>by
 rcases Nat.lt_or_ge i R.length with hi|hi
 ·have:=(sh.front (List.getElem?_eq_getElem hi)).erase 0;exact hn ad h (by simpa using this)
 ·rw[List.eraseIdx_of_length_le hi]at hn;exact hn ad h sh
theorem none (hp:P O []):Fin O R P:=fun ad h sh=>⟨O,[],.refl O,sh.pick (fun j=>R.length+j) (fun i o hi=>by rw[List.getElem?_append_right (by omega),Nat.add_sub_cancel_left];exact hi) (fun _ _ _ _ e=>by omega),hp⟩
theorem only(i:Nat) {o:Ob} (hp:P O [o]) (hi:R[i]? =some o:=by rfl):Fin O R P:=fun ad h sh=>⟨O,[o],.refl O,(sh.front hi).pick (fun j=>if j=0 then 0 else(R.eraseIdx i).length+j) (fun j x hx=>by
 cases j with
 |zero=>exact hx
 |succ j=>
  rw[if_neg (by omega)];simp only[List.cons_append,List.nil_append,List.getElem?_cons_succ]at hx;rw[show(R.eraseIdx i).length+(j+1)=(R.eraseIdx i).length+j+1 by omega,List.getElem?_cons_succ,List.getElem?_append_right (by omega),Nat.add_sub_cancel_left];exact hx) (fun a b _ _ e=>by split at e<;>split at e<;>omega),hp⟩
end Fin
theorem SW.fin {c:IC al} (hf:Fin O R fun ψ O'=>SW F K c E ψ O' Q):SW F K c E O R Q:=fun ad h sh=>let⟨_,_,I,J,h3⟩:=hf ad h sh;WC.up I (h3 ad h J)
theorem SR.fin {rs:List (RS al)} (hf:Fin O R fun ψ O'=>SR F K rs E ψ O' Q):SR F K rs E O R Q:=fun ad h sh=>let⟨_,_,I,J,h3⟩:=hf ad h sh;WR.up I (h3 ad h J)
theorem SW.bG {b:IC al} (d0:Nat→Env→Fz→List Ob→Prop) {m:Nat} (hi:Fin O R (d0 m E)) (hb:∀m E' ψ O',O.Le ψ→d0 m E' ψ O'→SW F K b E' ψ O' (Q.then fun tL χ kV=>∃m',m'<m∧Fin χ kV (d0 m' tL))):SW F K (.loop b) E O R Q:=fun ad h sh=>by
 obtain⟨HQ,O1,g1,g2,l8⟩:=hi ad h sh;refine WC.up g1 ?_;refine WC.loop (fun m E' h' ms=>∃ψ O',HQ.Le ψ∧SH ψ h' (O'++(dL ms++ad))∧d0 m E' ψ O') (m:=m) ⟨HQ,O1,.refl HQ,g2,l8⟩ fun m E' h' ms ⟨ψ,O',I,J,h3⟩=>?_;have u:=bB.sh (Q:=Q) (ad:=ad) (ms:=ms) I;refine WC.mono (Q:=(Q.then fun tL χ kV=>∃m',m'<m∧Fin χ kV (d0 m' tL)).at ψ (dL ms++ad)) ?_ u.2.1 u.2.2.1 u.2.2.2 (hb m E' ψ O' (g1.trans I) h3 _ h' J);rintro tL X2 m2 ⟨χ,kV,k1,k2,m',k3,k4⟩;obtain⟨X3,O3,np,oL,tM⟩:=k4 _ X2 k2;exact⟨m',k3,X3,O3,(I.trans k1).trans np,by rw[zp,List.append_assoc];exact oL,tM⟩
theorem SW.xk {c:IC al} (M:Env→Fz→List Ob→Prop) (hw:SW F K c E O R (Q.then fun E' ψ O'=>Fin ψ O' (M E'))) (hm:∀E' ψ O',O.Le ψ→M E' ψ O'→Q.n E' ψ O'):SW F K c E O R Q:=fun ad h sh=>
 WC.mono (Q:=(Q.then fun E' ψ O'=>Fin ψ O' (M E')).at O ad) (fun _ h' _ ⟨_,_,I,J,h3⟩=>let⟨χ,O3,np,oL,tM⟩:=h3 _ h' J;⟨χ,O3,I.trans np,oL,hm _ _ _ (I.trans np) tM⟩) (fun _ _ _ _ h=>h) (fun _ _ _ h=>h) (fun _ _ _ _ h=>h) (hw ad h sh)
def kE (E:Env) (O:Fz) (R:List Ob) (res:List (Pa×Option (Option Nat))) (l:List V):Prop:=∀ad h,SH O h (R++ad)→kC E h res l
theorem kE.nil:kE E O R [] []:=fun _ _ _=>.nil
theorem kE.t {n:Nat} {v:V} {r:List (Pa×Option (Option Nat))} {l:List V} (hv:lk n E=some v) (hr:kE E O R r l):kE E O R ((pa n,none)::r) (v::l):=fun ad h sh=>.t hv (hr ad h sh)
theorem kE.fK {n:Nat} {a:Pa} {o:Nat} {v:V} {r:List (Pa×Option (Option Nat))} {l:List V} (i:Nat) {cs:List V} (hv:lk n E=some (.ptr a o)) (hi:R[i]? =some (some a,.cells cs false)) (hx:cs[o]? =some v) (hr:kE E O R r l):kE E O R ((pa n,some none)::r) (v::l):=fun ad h sh=>
 .c hv (by have:=(gf.of (sh.hC hi) rfl).one hx;rwa [Nat.zero_add]at this) (hr ad h sh)
theorem kE.cN {n m:Nat} {a:Pa} {o:Nat} {l':List V} {r:List (Pa×Option (Option Nat))} {l:List V} (i:Nat) {cs:List V} (hv:lk n E=some (.ptr a o)) (hi:R[i]? =some (some a,.cells cs false)) (hx:(cs.drop o).take m=l') (hl:l'.length=m) (hr:kE E O R r l):kE E O R ((pa n,some (some m))::r) (.agg l'::l):=fun ad h sh=>
 .c hv (by have:=(gf.of (sh.hC hi) rfl).agg (i:=o) hx hl;rwa [Nat.zero_add]at this) (hr ad h sh)
def sU (res:List (Pa×Option (Option Nat))) (Rt Up:V→Fz→List Ob→Prop):bB where
 n:=fun E O R=>∃l,kE E O R res l∧Fin O R (Rt (oneOf l))
 x:=fun _ _ _ _=>False
 r:=fun E O R=>∃l,kE E O R res l∧Fin O R (Rt (oneOf l))
 p:=fun _=>Up
theorem lG {O:Fz} {R ad:List Ob}:∀(ms:List Pa) {h:Hp},SH O h (R++(dL ms++ad))→mO ms h∧SH O (kill ms h) (R++ad)
 |[],h,sh=>⟨trivial,sh⟩
 |m::ms,h,sh=>by
  have e:R++(dL (m::ms)++ad)=R++((some m,al.dH true)::(dL ms++ad)):=by simp[dL]
  rw[e]at sh;have hi:(R++((some m,al.dH true)::(dL ms++ad)))[R.length]? =some (some m,.dH true):=by rw[List.getElem?_append_right (Nat.le_refl _),Nat.sub_self];(try rfl)
  have I:=(sh.own _ _ _ hi).1;have J:=(sh.put hi (.dH false)).erase R.length;have e2:((R++((some m,al.dH true)::(dL ms++ad))).set R.length (some m,.dH false)).eraseIdx R.length=R++(dL ms++ad):=by
   rw[List.set_append,if_neg (Nat.lt_irrefl _),Nat.sub_self,List.set_cons_zero,List.eraseIdx_append_of_length_le (Nat.le_refl _),Nat.sub_self,List.eraseIdx_cons_zero]
  rw[e2]at J;obtain⟨k1,k2⟩:=lG ms J;exact⟨⟨I,k1⟩,k2⟩
theorem afa {f:Nat} {fn:hZ} {args:List V} {Rt Up:V→Fz→List Ob→Prop} (hf:F f=some (.code fn)) (hw:SW F ⟨⟨f,fn.nt,false,none⟩,fun _=>True⟩ fn.body (ie 0 args) O R (sU fn.res Rt Up)):ai F f args O R Rt Up:=fun ad h sh=>by
 refine aeU hf (WC.mono (Q:=(sU fn.res Rt Up).at O ad) ?_ ?_ ?_ ?_ (hw ad h sh))
 ·rintro E' h' ms ⟨ψ,O',I,J,l,h3,h4⟩;obtain⟨ka,ks⟩:=lG ms J;obtain⟨χ,kV,k1,k2,k3⟩:=h4 ad _ ks;exact⟨ka,l,h3 ad _ ks,χ,kV,I.trans k1,k2,k3⟩
 ·rintro i E' h' ms ⟨_,_,_,_,h3⟩;exact h3.elim
 ·rintro E' h' ms ⟨ψ,O',I,J,l,h3,h4⟩;obtain⟨ka,ks⟩:=lG ms J;obtain⟨χ,kV,k1,k2,k3⟩:=h4 ad _ ks;exact⟨ka,l,h3 ad _ ks,χ,kV,I.trans k1,k2,k3⟩
 ·rintro E' v h' ms ⟨ψ,O',I,J,h3⟩;obtain⟨ka,ks⟩:=lG ms J;exact⟨ka,ψ,O',I,ks,h3⟩
theorem ai.same {f:Nat} {args:List V} {Rt:V→List Ob→Prop} {Up:V→Fz→List Ob→Prop} (hc:ai F f args O R (fun r _ O'=>Rt r O') Up):ai F f args O R (fun r ψ O'=>ψ=O∧Rt r O') Up:=fun ad h sh=>by
 rcases hc ad h sh with⟨r,h',I,ψ,O',J,h3,h4⟩|h5
 ·exact .inl ⟨r,h',I,O,O',.refl O,h3.less J,rfl,h4⟩
 ·exact .inr h5
theorem ai.ak {f:Nat} {args:List V} {v:V} (hc:ai F f args O [] (fun r _ _=>r=v) never):bk F f args O v:=fun ad h sh=>by
 rcases hc ad h sh with⟨r,h',I,ψ,O',J,h3,rfl⟩|⟨_,_,_,_,_,_,_,h⟩
 ·refine .inl ⟨r,h',I,O,[],.refl O,?_,rfl,rfl,rfl⟩;have:=h3.less J;refine this.pick (fun j=>O'.length+j) (fun i o hi=>?_) (fun _ _ _ _ e=>by omega);rw[List.getElem?_append_right (by omega),Nat.add_sub_cancel_left];exact hi
 ·exact h.elim
theorem bk.L9 (i:Nat) {f:Nat} {args:List V} {u v:V} {k n:Nat} {cs:List V} {s:Option Pa} (hi:R[i]? =some (s,.cells cs false)) (ho:OV v k n cs s) (hc:∀ψ,O.Le ψ→FS ψ v k n cs→bk F f args ψ u):ai F f args O R (fun r ψ O'=>r=u∧ψ=O∧O'=R) never:=fun ad h sh=>by
 cases s with
 |none=>
  rcases hc O (.refl O) (ho.fs rfl fun a e=>by cases e) (R++ad) h (by simpa using sh)with⟨r,h',I,_,_,_,h3,rfl,rfl,rfl⟩|⟨_,_,_,_,_,_,_,h⟩
  ·exact .inl ⟨r,h',I,_,_,.refl _,by simpa using h3,rfl,rfl,rfl⟩
  ·exact h.elim
 |some a=>
  obtain⟨s1,s2⟩:=sh.freeze hi;rcases hc _ s2 (ho.fs rfl fun b e=>by cases e;simp[Fz.put]) (R.eraseIdx i++ad) h (by simpa using s1)with⟨r,h',I,_,_,_,h3,rfl,rfl,rfl⟩|⟨_,_,_,_,_,_,_,h⟩
  ·exact .inl ⟨r,h',I,_,_,.refl _,sh.ae7 hi (by simpa using h3),rfl,rfl,rfl⟩
  ·exact h.elim
end Go.Ev
namespace Go.Ev
inductive Op where
 |m (d s:Nat)
 |v (d:Nat) (x:V)
 |f (d n s:Nat)
 |n (d s:Nat)
 |e (d s i:Nat)
 |r (x:RS al)
noncomputable section
abbrev Op.den:Op→RS al
 |.m d s=>.op ⟨some (pa d),qA (.t (pa s)),none⟩
 |.v d y=>.op ⟨some (pa d),qA (.c y),none⟩
 |.f d k s=>.op ⟨some (pa d),qC k (.t (pa s)),none⟩
 |.n d s=>.op ⟨some (pa d),jf (.t (pa s)),none⟩
 |.e d s i=>.op ⟨some (pa d),KU (.t (pa s)) i,none⟩
 |.r x=>x
abbrev Op.aI:List Op→List (RS al)
 |[]=>[]
 |x::l=>x.den::Op.aI l
end
abbrev qW:List Op→Env→(Env→Prop)→(List Op→Env→Prop)→Prop
 |[],E,z,_=>z E
 |.m d s::r,E,z,k=>match lk s E with
  |some v=>qW r ((d,v)::E) z k
  |none=>k (.m d s::r) E
 |.v d y::r,E,z,k=>qW r ((d,y)::E) z k
 |.f d n s::r,E,z,k=>match lk s E with
  |some (.ptr a o)=>qW r ((d,.ptr a (o+n))::E) z k
  |_=>k (.f d n s::r) E
 |.n d s::r,E,z,k=>match lk s E with
  |some (.ptr a o)=>qW r ((d,.ptr a o)::E) z k
  |_=>k (.n d s::r) E
 |.e d s i::r,E,z,k=>match lk s E with
  |some (.aM l)=>match nth l i with
   |some v=>qW r ((d,v)::E) z k
   |none=>k (.e d s i::r) E
  |_=>k (.e d s i::r) E
 |.r x::r,E,_,k=>k (.r x::r) E
abbrev SA (F:Nat→Option aN) (K:KX) (l:List Op) (E:Env) (O:Fz) (R:List Ob) (Q:bB):Prop:=qW l E (fun E'=>Q.n E' O R) fun l' E'=>SR F K (Op.aI l') E' O R Q
variable{F:Nat→Option aN} {K:KX} {O:Fz} {R:List Ob} {Q:bB}
theorem S.r:∀{l:List Op} {E:Env},SA F K l E O R Q→SR F K (Op.aI l) E O R Q
 |[],_,h=>fun _ _ sh=>WR.nil ⟨O,R,.refl O,sh,h⟩
 |.m d s::r,E,h=>by
  rw[SA,qW]at h;split at h
  ·exact fun W y sh=>ad.mv .none (.t ‹_›) (S.r h W y sh)
  ·exact h
 |.v d y::r,E,h=>fun W _ sh=>ad.mv .none .c (S.r (l:=r) (E:=(d,y)::E) h W _ sh)
 |.f d n s::r,E,h=>by
  rw[SA,qW]at h;split at h
  ·exact fun W y sh=>ad.aE .none (.t ‹_›) (S.r h W y sh)
  ·exact h
 |.n d s::r,E,h=>by
  rw[SA,qW]at h;split at h
  ·exact fun W y sh=>ad.nil? .none (.t ‹_›) (S.r h W y sh)
  ·exact h
 |.e d s i::r,E,h=>by
  rw[SA,qW]at h;split at h
  ·split at h
   ·exact fun W y sh=>ad.ext .none (.t ‹_›) ‹_› (S.r h W y sh)
   ·exact h
  ·exact h
 |.r x::r,E,h=>h
end Go.Ev
namespace Go.Ev
def Src (O:Fz) (R:List Ob) (k:Nat) (x:V) (m:Nat) (xs:List V):Prop:=xs.length=m*k∧∀ad h,SH O h (R++ad)→j9 x=some m∧ln h k m x=some xs
theorem Src.f {O:Fz} {R:List Ob} {k m:Nat} {x:V} {xs:List V} (hs:FS O x k m xs):Src O R k x m xs:=⟨hs.1,fun _ _ sh=>hs.src sh⟩
theorem Src.s {O:Fz} {R:List Ob} {l:List UInt8}:Src O R 1 (.str l) l.length (l.map c5):=⟨by simp,fun _ _ _=>⟨rfl,by
 simp only[ln,eQ,cond_true];rw[zh (Nat.le_refl _),List.take_length]⟩⟩
theorem Src.new {O:Fz} {R:List Ob} {k m:Nat} {a:Pa} {l:List V} {c:hW} (i:Nat) (hl:l.length=m*k) (hi:R[i]? =some (some a,.cells l false):=by rfl):Src O R k (.sl a 0 m c) m l:=⟨hl,fun _ _ sh=>⟨rfl,(gf.of (sh.hC hi) rfl).all hl⟩⟩
theorem lH (k:IntKind) (n:Int):isScalar (.int k n)=true:=rfl
theorem pC (s:List UInt8):isScalar (.str s)=true:=rfl
theorem mR (b:Bool):isScalar (.bool b)=true:=rfl
theorem uS (a:Pa) (o:Nat):isScalar (.ptr a o)=true:=rfl
theorem uT (a:Pa) (o n:Nat) (c:hW):isScalar (.sl a o n c)=true:=rfl
theorem pD:isScalar (.no .sl)=true:=rfl
theorem uU (a:Pa):isScalar (.map a)=true:=rfl
theorem uV (f:Nat) (c:List V):isScalar (.fn f c)=true:=rfl
namespace S
variable{F:Nat→Option aN} {K:KX} {E:Env} {O:Fz} {R:List Ob} {Q:bB} {rs:List Op} {d:Nat} {g:Option (Pa×Bool)}
theorem no {sm:bz} (hw:az E g .no) (hn:SA F K rs ((d,dm)::E) O R Q):SR F K (.op ⟨some (pa d),sm,g⟩::Op.aI rs) E O R Q:=fun W h sh=>ad.no hw (S.r hn W h sh)
theorem F7 {sm:bz} (hw:az E g .no) (hd:lk d E=some dm) (hn:SA F K rs E O R Q):SR F K (.cf ⟨some (pa d),sm,g⟩::Op.aI rs) E O R Q:=fun W h sh=>ad.F7 hw hd (S.r hn W h sh)
theorem mv {x:Od} {a:V} (hn:SA F K rs ((d,a)::E) O R Q) (hx:ax E x a:=by first|exact .t rfl|exact .c) (hw:az E g .yes:=by first|exact .none|exact .yes rfl):SR F K (.op ⟨some (pa d),qA x,g⟩::Op.aI rs) E O R Q:=fun W h sh=>ad.mv hw hx (S.r hn W h sh)
theorem build {z l sd:List V} {ps:List (Nat×Nat×Od)} (hn:SA F K rs ((d,.agg l)::E) O R Q) (hf:uR E ps z=some (l,sd):=by rfl) (d3:aY sd=true:=by first|rfl|simp[aY,V.cells,lH,pC,mR,uS,uT,pD,uU,uV, *]) (hw:az E g .yes:=by first|exact .none|exact .yes rfl):
 SR F K (.op ⟨some (pa d),aL z ps,g⟩::Op.aI rs) E O R Q:=fun W h sh=>ad.build hw (zo hf d3) (S.r hn W h sh)
theorem nil? {x:Od} {a:Pa} {o:Nat} (hn:SA F K rs ((d,.ptr a o)::E) O R Q) (hx:ax E x (.ptr a o):=by exact .t rfl) (hw:az E g .yes:=by first|exact .none|exact .yes rfl):SR F K (.op ⟨some (pa d),jf x,g⟩::Op.aI rs) E O R Q:=fun W h sh=>ad.nil? hw hx (S.r hn W h sh)
theorem bin {op:BinOp} {q:cV} {x y:Od} {a b v:V} (hn:SA F K rs ((d,v)::E) O R Q) (hx:ax E x a:=by first|exact .t rfl|exact .c) (hy:ax E y b:=by first|exact .t rfl|exact .c) (hv:cg op q a b=some v:=by first|exact L2|exact Te|exact Tf|exact Tg|exact Th|exact Ti|exact Tj|exact Tk|exact ei (by omega) (by omega)|exact ig (by omega) (by omega)|exact F5 (by omega) (by omega)|exact sS (by omega)|assumption|rfl) (hw:az E g .yes:=by first|exact .none|exact .yes rfl):
 SR F K (.op ⟨some (pa d),a1 op q x y,g⟩::Op.aI rs) E O R Q:=fun W h sh=>ad.bin hw hx hy hv (S.r hn W h sh)
theorem un {op:UnOp} {x:Od} {a v:V} (hn:SA F K rs ((d,v)::E) O R Q) (hx:ax E x a:=by first|exact .t rfl|exact .c) (hv:yX op a=some v:=by rfl) (hw:az E g .yes:=by first|exact .none|exact .yes rfl):
 SR F K (.op ⟨some (pa d),dS op x,g⟩::Op.aI rs) E O R Q:=fun W h sh=>ad.un hw hx hv (S.r hn W h sh)
theorem qV {k j:IntKind} {x:Od} {n:Int} (hn:SA F K rs ((d,.int k (e6 k n))::E) O R Q) (hx:ax E x (.int j n):=by first|exact .t rfl|exact .c) (hw:az E g .yes:=by first|exact .none|exact .yes rfl):
 SR F K (.op ⟨some (pa d),cH k x,g⟩::Op.aI rs) E O R Q:=fun W h sh=>ad.qV hw hx (S.r hn W h sh)
theorem L0 {t:Nat} {x:Od} {a:V} (hn:SA F K rs ((d,.iface t a)::E) O R Q) (hx:ax E x a:=by first|exact .t rfl|exact .c) (hw:az E g .yes:=by first|exact .none|exact .yes rfl):
 SR F K (.op ⟨some (pa d),Ca t x,g⟩::Op.aI rs) E O R Q:=fun W h sh=>ad.L0 hw hx (S.r hn W h sh)
theorem FX {f:Nat} {xs:List Od} {vs:List V} (hn:SA F K rs ((d,.fn f vs)::E) O R Q) (hx:kD E xs=some vs:=by rfl) (hw:az E g .yes:=by first|exact .none|exact .yes rfl):
 SR F K (.op ⟨some (pa d),qB f xs,g⟩::Op.aI rs) E O R Q:=fun W h sh=>ad.FX hw (nV hx) (S.r hn W h sh)
theorem aE {off:Nat} {x:Od} {a:Pa} {o:Nat} (hn:SA F K rs ((d,.ptr a (o+off))::E) O R Q) (hx:ax E x (.ptr a o):=by exact .t rfl) (hw:az E g .yes:=by first|exact .none|exact .yes rfl):
 SR F K (.op ⟨some (pa d),qC off x,g⟩::Op.aI rs) E O R Q:=fun W h sh=>ad.aE hw hx (S.r hn W h sh)
theorem len {x:Od} {a:V} {n:Nat} (hn:SA F K rs ((d,.int .i64 (n:Int))::E) O R Q) (hx:ax E x a:=by first|exact .t rfl|exact .c) (hl:sE a=some (.int .i64 (n:Int)):=by first|exact FS.len (by assumption)|exact OV.len (by assumption)|rfl) (hw:az E g .yes:=by first|exact .none|exact .yes rfl):
 SR F K (.op ⟨some (pa d),c6 x,g⟩::Op.aI rs) E O R Q:=fun W h sh=>ad.pu hw (fun e he=>by rw[hx e he];exact hl) (S.r hn W h sh)
theorem cD {x:Od} {s:List UInt8} (hn:SA F K rs ((d,.int .i64 (s.length:Int))::E) O R Q) (hx:ax E x (.str s):=by first|exact .t rfl|exact .c) (hw:az E g .yes:=by first|exact .none|exact .yes rfl):
 SR F K (.op ⟨some (pa d),cq x,g⟩::Op.aI rs) E O R Q:=fun W h sh=>ad.cD hw hx (S.r hn W h sh)
theorem iS {x i:Od} {s:List UInt8} {j:Nat} {k:IntKind} {b:UInt8} (hj:s[j]? =some b) (hn:SA F K rs ((d,.int .u8 (b.toNat:Int))::E) O R Q) (hx:ax E x (.str s):=by first|exact .t rfl|exact .c) (hi:ax E i (.int k (j:Int)):=by first|exact .t rfl|exact .c) (hw:az E g .yes:=by first|exact .none|exact .yes rfl):
 SR F K (.op ⟨some (pa d),iy x i,g⟩::Op.aI rs) E O R Q:=fun W h sh=>ad.iS hw hx hi hj (S.r hn W h sh)
theorem je {x:Od} {lo hi:Option Od} {a v:V} {kU b8:Option V} (hv:Go.Ev.je a kU b8=some v) (hn:SA F K rs ((d,v)::E) O R Q) (hx:ax E x a:=by first|exact .t rfl|exact .c) (I:jl E lo kU:=by first|exact .none|exact .some (.t rfl)|exact .some .c) (J:jl E hi b8:=by first|exact .none|exact .some (.t rfl)|exact .some .c) (hw:az E g .yes:=by first|exact .none|exact .yes rfl):
 SR F K (.op ⟨some (pa d),sD x lo hi,g⟩::Op.aI rs) E O R Q:=fun W h sh=>ad.je hw hx I J hv (S.r hn W h sh)
theorem slice {s:Nat} {x:Od} {lo hi mx:Option Od} {a v:V} {kU b8 p5:Option V} (hv:ef s a kU b8 p5=some v) (hn:SA F K rs ((d,v)::E) O R Q) (hx:ax E x a:=by first|exact .t rfl|exact .c) (I:jl E lo kU:=by first|exact .none|exact .some (.t rfl)|exact .some .c) (J:jl E hi b8:=by first|exact .none|exact .some (.t rfl)|exact .some .c) (h3:jl E mx p5:=by first|exact .none|exact .some (.t rfl)|exact .some .c) (hw:az E g .yes:=by first|exact .none|exact .yes rfl):
 SR F K (.op ⟨some (pa d),eE s x lo hi mx,g⟩::Op.aI rs) E O R Q:=fun W h sh=>ad.slice hw hx I J h3 hv (S.r hn W h sh)
theorem pB {m:Bool} {x y:Od} {a b:V} {v:V} (hv:mm m a b=some v) (hn:SA F K rs ((d,v)::E) O R Q) (hx:ax E x a:=by first|exact .t rfl|exact .c) (hy:ax E y b:=by first|exact .t rfl|exact .c) (hw:az E g .yes:=by first|exact .none|exact .yes rfl):
 SR F K (.op ⟨some (pa d),ll m x [y],g⟩::Op.aI rs) E O R Q:=fun W h sh=>ad.pB hw hx hy hv (S.r hn W h sh)
theorem aX {x:Od} {p u:V} {xs:List V} (hn:SA F K rs ((d,u)::E) O R Q) (hx:ax E x p:=by exact .t rfl) (hp:EP O p xs:=by assumption) (hu:xs[0]? =some u:=by rfl) (hw:az E g .yes:=by first|exact .none|exact .yes rfl):
 SR F K (.op ⟨some (pa d),bY none x,g⟩::Op.aI rs) E O R Q:=fun W h sh=>ad.load hw hx (hp.L6 hu sh) (S.r hn W h sh)
theorem bP {x:Od} {p:V} {xs l:List V} {n:Nat} (hn:SA F K rs ((d,.agg l)::E) O R Q) (hx:ax E x p:=by exact .t rfl) (hp:EP O p xs:=by assumption) (hl:xs.take n=l:=by rfl) (h1:l.length=n:=by rfl) (hw:az E g .yes:=by first|exact .none|exact .yes rfl):
 SR F K (.op ⟨some (pa d),bY (some n) x,g⟩::Op.aI rs) E O R Q:=fun W h sh=>ad.load hw hx (hp.cl hl h1 sh) (S.r hn W h sh)
theorem ld {x:Od} {a:Pa} {o:Nat} {u:V} {cs:List V} (i:Nat) (hn:SA F K rs ((d,u)::E) O R Q) (hx:ax E x (.ptr a o):=by exact .t rfl) (hi:R[i]? =some (some a,.cells cs false):=by rfl) (hu:cs[o]? =some u:=by rfl) (hw:az E g .yes:=by first|exact .none|exact .yes rfl):
 SR F K (.op ⟨some (pa d),bY none x,g⟩::Op.aI rs) E O R Q:=fun W h sh=>ad.load hw hx (by have:=(gf.of (sh.hC hi) rfl).one hu;rwa [Nat.zero_add]at this) (S.r hn W h sh)
theorem af {x:Od} {a:Pa} {o n:Nat} {cs l:List V} (i:Nat) (hn:SA F K rs ((d,.agg l)::E) O R Q) (hx:ax E x (.ptr a o):=by exact .t rfl) (hi:R[i]? =some (some a,.cells cs false):=by rfl) (hl:(cs.drop o).take n=l:=by rfl) (h1:l.length=n:=by rfl) (hw:az E g .yes:=by first|exact .none|exact .yes rfl):
 SR F K (.op ⟨some (pa d),bY (some n) x,g⟩::Op.aI rs) E O R Q:=fun W h sh=>ad.load hw hx (by have:=(gf.of (sh.hC hi) rfl).agg hl h1;rwa [Nat.zero_add]at this) (S.r hn W h sh)
theorem afb {k n j:Nat} {x i:Od} {v:V} {cs:List V} {q:IntKind} (hs:FS O v k n cs) (hj:j<n) (hn:∀p,EP O p ((cs.drop (j*k)).take k)→SA F K rs ((d,p)::E) O R Q) (hx:ax E x v:=by first|exact .t rfl|exact .c) (hi:ax E i (.int q (j:Int)):=by first|exact .t rfl|exact .c) (hw:az E g .yes:=by first|exact .none|exact .yes rfl):
 SR F K (.op ⟨some (pa d),bA none k x i,g⟩::Op.aI rs) E O R Q:=fun W h sh=>by
 obtain⟨a,o,c,rfl,J⟩:=hs.at hj;exact ad.zk hw hx hi hj (S.r (hn _ J) W h sh)
theorem bl {off:Nat} {x:Od} {p:V} {xs:List V} (hp:EP O p xs) (hn:∀q,EP O q (xs.drop off)→SA F K rs ((d,q)::E) O R Q) (hx:ax E x p:=by exact .t rfl) (hw:az E g .yes:=by first|exact .none|exact .yes rfl):
 SR F K (.op ⟨some (pa d),qC off x,g⟩::Op.aI rs) E O R Q:=fun W h sh=>by
 obtain⟨a,o,rfl,J⟩:=hp.field off;exact ad.aE hw hx (S.r (hn _ J) W h sh)
theorem zk {k n j:Nat} {x i:Od} {v:V} {cs:List V} {s:Option Pa} {q:IntKind} (ho:OV v k n cs s) (hj:j<n) (hn:∀a,s=some a→SA F K rs ((d,.ptr a (j*k))::E) O R Q) (hx:ax E x v:=by exact .t rfl) (hi:ax E i (.int q (j:Int)):=by first|exact .t rfl|exact .c) (hw:az E g .yes:=by first|exact .none|exact .yes rfl):
 SR F K (.op ⟨some (pa d),bA none k x i,g⟩::Op.aI rs) E O R Q:=fun W h sh=>by
 rcases ho.2.2 with⟨_,rfl,_⟩|⟨a,rfl,rfl⟩|⟨a,rfl,rfl⟩
 ·omega
 ·exact ad.zk hw hx hi hj (by rw[Nat.zero_add];exact S.r (hn a rfl) W h sh)
 ·exact ad.zk hw hx hi hj (by rw[Nat.zero_add];exact S.r (hn a rfl) W h sh)
theorem CF {k n o j:Nat} {x i:Od} {a:Pa} {c:hW} {q:IntKind} (hj:j<n) (hn:SA F K rs ((d,.ptr a (o+j*k))::E) O R Q) (hx:ax E x (.sl a o n c):=by exact .t rfl) (hi:ax E i (.int q (j:Int)):=by first|exact .t rfl|exact .c) (hw:az E g .yes:=by first|exact .none|exact .yes rfl):
 SR F K (.op ⟨some (pa d),bA none k x i,g⟩::Op.aI rs) E O R Q:=fun W h sh=>ad.zk hw hx hi hj (S.r hn W h sh)
theorem zl {k len o j:Nat} {x i:Od} {a:Pa} {q:IntKind} (hj:j<len) (hn:SA F K rs ((d,.ptr a (o+j*k))::E) O R Q) (hx:ax E x (.ptr a o):=by exact .t rfl) (hi:ax E i (.int q (j:Int)):=by first|exact .t rfl|exact .c) (hw:az E g .yes:=by first|exact .none|exact .yes rfl):
 SR F K (.op ⟨some (pa d),bA (some len) k x i,g⟩::Op.aI rs) E O R Q:=fun W h sh=>ad.zl hw hx hi hj (S.r hn W h sh)
theorem FW {x:Od} {v:V} {n:Nat} {s:List UInt8} (hs:∀W h,SH O h (R++W)→Sl h v 1 n (s.map c5)) (hn:SA F K rs ((d,.str s)::E) O R Q) (hx:ax E x v:=by first|exact .t rfl|exact .c) (hw:az E g .yes:=by first|exact .none|exact .yes rfl):
 SR F K (.op ⟨some (pa d),dT x,g⟩::Op.aI rs) E O R Q:=fun W h sh=>ad.ae2 hw hx (hs W h sh) (S.r hn W h sh)
theorem alloc {z:List V} (hn:∀a,SA F K rs ((d,.ptr a 0)::E) O ((some a,.cells z false)::R) Q) (hw:az E g .yes:=by first|exact .none|exact .yes rfl):SR F K (.op ⟨some (pa d),ar z,g⟩::Op.aI rs) E O R Q:=fun W _ sh=>ad.alloc hw (S.r (hn _) W _ (sh.alloc _))
theorem box {x:Od} {v:V} (hn:∀a,SA F K rs ((d,.ptr a 0)::E) O ((some a,.cells v.cells false)::R) Q) (hx:ax E x v:=by first|exact .t rfl|exact .c) (hs:aY v.cells=true:=by first|rfl|simp[aY,V.cells,lH,pC,mR,uS,uT,pD,uU,uV, *]) (hw:az E g .yes:=by first|exact .none|exact .yes rfl):
 SR F K (.op ⟨some (pa d),Fc x,g⟩::Op.aI rs) E O R Q:=fun W _ sh=>ad.box hw hx hs (S.r (hn _) W _ (sh.alloc _))
theorem a8 {z l sd:List V} {n:Nat} {ps:List (Nat×Nat×Od)} (hn:∀a,SA F K rs ((d,.sl a 0 n (.ex n))::E) O ((some a,.cells l false)::R) Q) (hf:uR E ps z=some (l,sd):=by rfl) (d3:aY sd=true:=by first|rfl|simp[aY,V.cells,lH,pC,mR,uS,uT,pD,uU,uV, *]) (hs:aY l=true:=by first|rfl|simp[aY,V.cells,lH,pC,mR,uS,uT,pD,uU,uV, *]) (hw:az E g .yes:=by first|exact .none|exact .yes rfl):
 SR F K (.op ⟨some (pa d),aG z n ps,g⟩::Op.aI rs) E O R Q:=fun W _ sh=>ad.a8 hw (zo hf d3) hs (S.r (hn _) W _ (sh.alloc _))
theorem FY {x:Od} {s:List UInt8} (hn:∀a,OV (.sl a 0 s.length (.un 1)) 1 s.length (s.map c5) (some a)→SA F K rs ((d,.sl a 0 s.length (.un 1))::E) O ((some a,.cells (s.map c5) false)::R) Q) (hx:ax E x (.str s):=by first|exact .t rfl|exact .c) (hw:az E g .yes:=by first|exact .none|exact .yes rfl):
 SR F K (.op ⟨some (pa d),gx x,g⟩::Op.aI rs) E O R Q:=fun W h sh=>ad.FY hw hx (S.r (hn _ ⟨by simp,L1 s,.inr (.inl ⟨_,rfl,rfl⟩)⟩) W _ (sh.alloc _))
theorem xh {z:List V} {tJ:Nat} {l c:Od} {n m:Nat} {k j:IntKind} (rJ:n≤m) (hm:m≤1073741824) (hb:tJ≤65536) (hn:∀a,SA F K rs ((d,.sl a 0 n (.ex m))::E) O ((some a,.cells (dI z m) false)::R) Q) (hl:ax E l (.int k (n:Int)):=by first|exact .t rfl|exact .c) (hc:ax E c (.int j (m:Int)):=by first|exact .t rfl|exact .c) (hw:az E g .yes:=by first|exact .none|exact .yes rfl):
 SR F K (.op ⟨some (pa d),jg z tJ l c,g⟩::Op.aI rs) E O R Q:=fun W h sh=>ad.xh hw hl hc rJ (by omega) (by have:=Nat.mul_le_mul hb hm;omega) (S.r (hn _) W _ (sh.alloc _))
theorem store {n:Nat} {y x:Od} {a:Pa} {o:Nat} {v:V} {cs l':List V} (i:Nat) (hn:SA F K rs E O (R.set i (some a,.cells l' false)) Q) (ha:ax E y (.ptr a o):=by exact .t rfl) (hx:ax E x v:=by first|exact .t rfl|exact .c) (hi:R[i]? =some (some a,.cells cs false):=by rfl) (cI:dk o cs v.cells=some l':=by rfl) (hl:Nat.beq v.cells.length n=true:=by rfl) (hs:aY v.cells=true:=by first|rfl|simp[aY,V.cells,lH,pC,mR,uS,uT,pD,uU,uV, *]) (hw:az E g .yes:=by first|exact .none|exact .yes rfl):
 SR F K (.op ⟨none,gy n y x,g⟩::Op.aI rs) E O R Q:=fun W _ sh=>ad.store hw ha hx hl (F2 (sh.hC hi) hs cI) (S.r hn W _ (sh.zn hi _))
theorem app {k n m:Nat} {y x:Od} {v u:V} {cs xs:List V} {s:Option Pa} (i:Nat) (hi:R[i]? =some (s,.cells cs false)) (ho:OV v k n cs s) (hs:Src O R k u m xs) (eV:aY xs=true) (hb:n+m≤1073741824) (hk:0<k) (hn:∀v' s',OV v' k (n+m) (cs++xs) s'→SA F K rs ((d,v')::E) O (R.set i (s',.cells (cs++xs) false)) Q) (hy:ax E y v:=by first|exact .t rfl|exact .c) (hx:ax E x u:=by first|exact .t rfl|exact .c) (hw:az E g .yes:=by first|exact .none|exact .yes rfl):
 SR F K (.op ⟨some (pa d),Cc k y x,g⟩::Op.aI rs) E O R Q:=fun W h sh=>by
 obtain⟨I,J⟩:=hs.2 W h sh;obtain⟨v',s',h',k1,k2,k3⟩:=ho.app sh hi I J hs.1 eV hk hb;exact ad.app hw hy hx k1 (S.r (hn v' s' k2) W h' k3)
theorem call [gd K] {n:Nat} {xs:List Od} {vs:List V} {Rt:V→Fz→List Ob→Prop} (hc:ai F n vs O [] Rt never) (hn:∀v ψ O',O.Le ψ→Rt v ψ O'→SA F K rs ((d,v)::E) ψ (O'++R) Q) (hx:kD E xs=some vs:=by rfl) (hw:az E g .yes:=by first|exact .none|exact .yes rfl):
 SR F K (.op ⟨some (pa d),aC n xs,g⟩::Op.aI rs) E O R Q:=fun W h sh=>by
 rcases hc (R++W) h (by simpa using sh)with⟨v,h',I,ψ,O',J,h3,h4⟩|⟨_,_,_,_,_,_,_,h⟩
 ·exact WR.up J (ad.call hw (nV hx) I (S.r (hn v ψ O' J h4) W h' (by simpa using h3)))
 ·exact h.elim
theorem afc [gd K] {n:Nat} {xs:List Od} {vs:List V} {v:V} (hc:bk F n vs O v) (hn:SA F K rs ((d,v)::E) O R Q) (hx:py E xs vs) (hw:az E g .yes):SR F K (.op ⟨some (pa d),aC n xs,g⟩::Op.aI rs) E O R Q:=fun W h sh=>by
 rcases hc (R++W) h (by simpa using sh)with⟨r,h',I,ψ,O',J,h3,rfl,rfl,rfl⟩|⟨_,_,_,_,_,_,_,h⟩
 ·exact ad.call hw hx I (S.r hn W h' (by simpa using h3))
 ·exact h.elim
theorem ak [gd K] {n:Nat} {xs:List Od} {vs:List V} {v:V} (hc:bk F n vs O v) (hn:SA F K rs ((d,v)::E) O R Q) (hx:kD E xs=some vs:=by rfl) (hw:az E g .yes:=by first|exact .none|exact .yes rfl):
 SR F K (.op ⟨some (pa d),aC n xs,g⟩::Op.aI rs) E O R Q:=call hc (fun _ _ _ _ ⟨I,J,h3⟩=>by subst I;subst J;subst h3;exact hn) hx hw
theorem bb [gd K] {n:Nat} {xs:List Od} {vs:List V} {Rt:V→Fz→List Ob→Prop} (i:Nat) {o:Ob} (hi:R[i]? =some o) (hc:ai F n vs O [o] Rt never) (hn:∀v ψ O',O.Le ψ→Rt v ψ O'→SA F K rs ((d,v)::E) ψ (O'++R.eraseIdx i) Q) (hx:kD E xs=some vs:=by rfl) (hw:az E g .yes:=by first|exact .none|exact .yes rfl):
 SR F K (.op ⟨some (pa d),aC n xs,g⟩::Op.aI rs) E O R Q:=fun W h sh=>by
 rcases hc (R.eraseIdx i++W) h (sh.front hi)with⟨v,h',I,ψ,O',J,h3,h4⟩|⟨_,_,_,_,_,_,_,h⟩
 ·exact WR.up J (ad.call hw (nV hx) I (S.r (hn v ψ O' J h4) W h' (by rw[List.append_assoc];exact h3)))
 ·exact h.elim
theorem afd [gd K] {n:Nat} {xs:List Od} {vs:List V} {Rt:V→Fz→List Ob→Prop} (hc:ai F n vs O R Rt never) (hn:∀v ψ O',O.Le ψ→Rt v ψ O'→SA F K rs ((d,v)::E) ψ O' Q) (hx:kD E xs=some vs:=by rfl) (hw:az E g .yes:=by first|exact .none|exact .yes rfl):
 SR F K (.op ⟨some (pa d),aC n xs,g⟩::Op.aI rs) E O R Q:=fun W h sh=>by
 rcases hc W h sh with⟨v,h',I,ψ,O',J,h3,h4⟩|⟨_,_,_,_,_,_,_,h⟩
 ·exact WR.up J (ad.call hw (nV hx) I (S.r (hn v ψ O' J h4) W h' h3))
 ·exact h.elim
theorem bR (i:Nat) {v:V} {k n:Nat} {cs:List V} {s:Option Pa} (ho:OV v k n cs s) (hi:R[i]? =some (s,.cells cs false)) (hn:∀ψ,O.Le ψ→FS ψ v k n cs→SA F K rs E ψ (R.eraseIdx i) Q):SR F K (Op.aI rs) E O R Q:=
 SR.fin (Fin.bR i hi ho fun ψ I J=>.done (S.r (hn ψ I J)))
theorem drop (i:Nat) (hn:SA F K rs E O (R.eraseIdx i) Q):SR F K (Op.aI rs) E O R Q:=SR.fin (Fin.drop i (.done (S.r hn)))
end S
end Go.Ev
namespace Go.Ev
inductive Co where
 |k
 |g (l:List Op)
 |s (a b:Co)
 |T (a b:Co)
 |c (x:Od) (a b:Co)
 |b (id:Nat) (a:Co)
 |l (a:Co)
 |x (id:Nat)
 |q
 |H (w:Od) (ps:List Pa) (a b:Co)
 |ad (a:IC al)
noncomputable section
abbrev Co.den:Co→IC al
 |.k=>.skip
 |.g y=>.region (Op.aI y)
 |.s y z=>.seq y.den z.den
 |.T y z=>.seq y.den z.den
 |.c w y z=>.cond w y.den z.den
 |.b id y=>.block id y.den
 |.l y=>.loop y.den
 |.x id=>.exit id
 |.q=>.ret
 |.H w ps y z=>.rangeFunc w ps y.den z.den
 |.ad y=>y
end
abbrev bB.aw (Q:bB) (id:Nat):bB:={Q with x:=fun i E ψ R=>match Nat.beq i id with|true=>Q.n E ψ R|false=>Q.x i E ψ R}
abbrev SC (F:Nat→Option aN) (K:KX):Co→Env→Fz→List Ob→bB→Prop
 |.k,E,O,R,Q=>Q.n E O R
 |.g l,E,O,R,Q=>SA F K l E O R Q
 |.s a b,E,O,R,Q=>SC F K a E O R (Q.then fun E' ψ O'=>SC F K b E' ψ O' Q)
 |.T a b,E,O,R,Q=>SC F K a E O R (Q.then fun E' ψ O'=>SW F K b.den E' ψ O' Q)
 |.b id a,E,O,R,Q=>SC F K a E O R (Q.aw id)
 |.x id,E,O,R,Q=>Q.x id E O R
 |.c x a b,E,O,R,Q=>SW F K (.cond x a.den b.den) E O R Q
 |.l a,E,O,R,Q=>SW F K (.loop a.den) E O R Q
 |.q,E,O,R,Q=>Q.r E O R
 |.H w ps a b,E,O,R,Q=>SW F K (.rangeFunc w ps a.den b.den) E O R Q
 |.ad a,E,O,R,Q=>SW F K a E O R Q
variable{F:Nat→Option aN} {K:KX}
theorem bB.afe {Q:bB} {id:Nat}:Q.aw id={Q with x:=fun i E' ψ O'=>if i=id then Q.n E' ψ O' else Q.x i E' ψ O'}:=by
 unfold bB.aw;congr 1;funext i E ψ R;by_cases h:i=id
 ·subst h;rw[if_pos rfl,Nat.beq_refl]
 ·rw[if_neg h];cases hb:Nat.beq i id with
  |false=>rfl
  |true=>exact absurd (Nat.eq_of_beq_eq_true hb) h
theorem SC.w:∀{c:Co} {E:Env} {O:Fz} {R:List Ob} {Q:bB},SC F K c E O R Q→SW F K c.den E O R Q
 |.k,_,_,_,_,h=>SW.skip h
 |.g _,_,_,_,_,h=>SW.region (S.r h)
 |.s a b,E,O,R,Q,h=>SW.seq (SW.then (fun E' ψ O'=>SC F K b E' ψ O' Q) (SC.w (c:=a) h) fun _ _ _ _ h=>SC.w h)
 |.T a b,E,O,R,Q,h=>SW.seq (SC.w (c:=a) h)
 |.b id a,E,O,R,Q,h=>SW.block (by have:=SC.w (c:=a) h;rw[bB.afe]at this;exact this)
 |.x _,_,_,_,_,h=>SW.exit h
 |.c _ _ _,_,_,_,_,h=>h
 |.l _,_,_,_,_,h=>h
 |.q,_,_,_,_,h=>SW.ret h
 |.H _ _ _ _,_,_,_,_,h=>h
 |.ad _,_,_,_,_,h=>h
namespace C
variable{E:Env} {O:Fz} {R:List Ob} {Q:bB}
theorem B {c:Od} {a b:Co} {t:Bool} (ht:t=true→SC F K a E O R Q) (hf:t=false→SC F K b E O R Q) (hc:ax E c (.bool t):=by exact .t rfl):SW F K (.cond c a.den b.den) E O R Q:=SW.L3 hc (fun h=>(ht h).w) fun h=>(hf h).w
theorem D {c:Od} {a b:Co} {p:Prop} [Decidable p] (ht:p→SC F K a E O R Q) (hf:¬p→SC F K b E O R Q) (hc:ax E c (.bool (decide p)):=by exact .t rfl):SW F K (.cond c a.den b.den) E O R Q:=SW.F6 hc (fun h=>(ht h).w) fun h=>(hf h).w
theorem sub {c:Co} {E':Env} (hs:Sub E' E) (hw:SC F K c E' O R Q):SW F K c.den E O R Q:=SW.sub hs hw.w
end C
end Go.Ev
namespace Go.Ev
abbrev t (n:Nat):Od:=.t (pa n)
abbrev i (n:Int):Od:=.c (.int .i64 n)
abbrev o (d:Nat) (s:bz):Op:=.r (.op ⟨some (pa d),s,none⟩)
abbrev o0 (s:bz):Op:=.r (.op ⟨none,s,none⟩)
abbrev oy (g d:Nat) (s:bz):Op:=.r (.op ⟨some (pa d),s,some (pa g,true)⟩)
abbrev on (g d:Nat) (s:bz):Op:=.r (.op ⟨some (pa d),s,some (pa g,false)⟩)
abbrev ko (d:Nat) (s:bz):Op:=.r (.cf ⟨some (pa d),s,none⟩)
abbrev uW (g d:Nat) (s:bz):Op:=.r (.cf ⟨some (pa d),s,some (pa g,false)⟩)
end Go.Ev
