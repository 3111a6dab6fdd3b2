/- A part of the proof of glacislaw13.LiveOnce. -/
import Derived.Test.YtebhegkangheiaaGreatDoorOF
namespace Go.Ev
structure bG (U:Type)where
 k:Nat
 f:U->List V
 len:∀x,(f x).length=k
 sc:∀x,aY (f x)=true
section
variable{U:Type} (e:bG U)
def bG.fl (l:List U):List V:=l.flatMap e.f
def bG.ob (s:Option Pa) (l:List U):Ob:=(s,.cells (e.fl l) false)
def aa (O:Fz) (v:V) (l:List U):Prop:=FS O v e.k l.length (e.fl l)
def af (v:V) (l:List U) (s:Option Pa):Prop:=OV v e.k l.length (e.fl l) s
end
section
variable{U:Type} {e:bG U} {O ψ:Fz} {v:V} {l m:List U} {s:Option Pa} {R ad:List Ob}
theorem gz (l:List U):(e.fl l).length=l.length*e.k:=by
 induction l with
 |nil=>simp[bG.fl]
 |cons a l d=>simp only[bG.fl,rS,c2,e.len,b7]at*;rw[d,iH,pd,qn]
theorem iW (l:List U):aY (e.fl l)=true:=by
 induction l with
 |nil=>rfl
 |cons a l d=>exact yU (e.sc a) d
theorem nD (l m:List U):e.fl (l++m)=e.fl l++e.fl m:=by simp[bG.fl]
theorem Jh (x:U):e.fl [x]=e.f x:=by simp[bG.fl]
theorem sZ (l:List U) (j:Nat):(e.fl l).drop (j*e.k)=e.fl (l.drop j):=by
 induction l generalizing j with
 |nil=>simp[bG.fl]
 |cons a l d=>
  cases j with
  |zero=>simp
  |succ j=>
   show(e.f a++e.fl l).drop ((j+1)*e.k)=e.fl (l.drop j);rw[iH,pd,List.drop_append,e.len,p8 (by rw[e.len];omega),fo,qb,d]
theorem s0 (l:List U) (j:Nat):(e.fl l).take (j*e.k)=e.fl (l.take j):=by
 induction l generalizing j with
 |nil=>simp[bG.fl]
 |cons a l d=>
  cases j with
  |zero=>simp[bG.fl]
  |succ j=>
   show(e.f a++e.fl l).take ((j+1)*e.k)=e.f a++e.fl (l.take j);rw[iH,pd,List.take_append,e.len,kk (by rw[e.len];omega),qb,d]
theorem s3 (l:List U) (j:Nat) (hj:j<l.length):((e.fl l).drop (j*e.k)).take e.k=e.f l[j]:=by
 rw[sZ,bQ hj];show(e.f l[j]++e.fl (l.drop (j+1))).take e.k=_;rw[List.take_append,e.len,iG,nX,e9,kk (by rw[e.len];exact aB _)]
theorem pL (l:List U) (j q:Nat) (hj:j<l.length) {u:V} (hu:(e.f l[j])[q]? =some u):(e.fl l)[j*e.k+q]? =some u:=by
 rw[<-s3 l j hj,jv]at hu;split at hu
 ·rw[gJ]at hu;exact hu
 ·cases hu
theorem s4 (a b xs:List V) (h:xs.length=a.length):over (a++b) xs=some (xs++b):=by
 induction xs generalizing a with
 |nil=>
  have:a=[]:=e8 (by simpa using h.symm);subst this;cases b<;>rfl
 |cons x xs d=>
  cases a with
  |nil=>simp at h
  |cons y a=>
   show(match over (a++b) xs with|some r=>some (x::r)|none=>none)=_;rw[d a (by simpa using h)];(try rfl)
theorem vE (a b:List V) (xs:List V) (n:Nat) (h:a.length=n):cT n (a++b) xs=(over b xs).map (a++·):=by
 induction a generalizing n with
 |nil=>
  simp only[na]at h;subst h;show over b xs=_;cases over b xs<;>rfl
 |cons x a d=>
  subst h;show(match cT a.length (a++b) xs with|some r=>some (x::r)|none=>none)=_;rw[d _ rfl];cases over b xs<;>rfl
theorem Ji (l:List U) (j:Nat) (hj:j<l.length) (x:U):cT (j*e.k) (e.fl l) (e.f x)=some (e.fl (l.set j x)):=by
 have o:e.fl l=e.fl (l.take j)++(e.f l[j]++e.fl (l.drop (j+1))):=by
  have:l=l.take j++(l[j]::l.drop (j+1)):=by rw[rN,jT]
  conv=>lhs;rw[this,nD]
  (try rfl)
 have aj:(e.fl (l.take j)).length=j*e.k:=by rw[gz,cE,hD (by omega)]
 rw[o,vE _ _ _ _ aj,s4 _ _ _ (by rw[e.len,e.len])];rw[List.set_eq_take_append_cons_drop,ae hj,nD];(try rfl)
theorem Jj (l:List U) (j q:Nat) (hj:j<l.length) {xs:List V} {x:U} (hx:cT q (e.f l[j]) xs=some (e.f x)):cT (j*e.k+q) (e.fl l) xs=some (e.fl (l.set j x)):=by
 have o:e.fl l=e.fl (l.take j)++(e.f l[j]++e.fl (l.drop (j+1))):=by
  have:l=l.take j++(l[j]::l.drop (j+1)):=by rw[rN,jT]
  conv=>lhs;rw[this,nD]
  (try rfl)
 have aj:(e.fl (l.take j)).length=j*e.k:=by rw[gz,cE,hD (by omega)]
 have key:∀(a b:List V) (q:Nat) (xs r:List V),cT q a xs=some r->cT q (a++b) xs=some (r++b):=by
  intro a b q xs r h;obtain⟨F,d⟩:=qB h;have A:a++b=a.take q++(((a.drop q).take xs.length)++(a.drop (q+xs.length)++b)):=by
   rw[<-bp ((a.drop q).take xs.length),<-nY,jT,<-bp,jT]
  rw[A,vE _ _ _ _ (by rw[cE];omega),s4 _ _ _ (by rw[cE,bW];omega),d];simp
 have D:∀(a b:List V) (q:Nat) (xs r:List V),cT q b xs=some r->cT (a.length+q) (a++b) xs=some (a++r):=by
  intro a b q xs r h
  induction a with
  |nil=>simpa using h
  |cons y a B=>
   rw[b7,Nat.add_right_comm];show(match cT (a.length+q) (a++b) xs with|some r=>some (y::r)|none=>none)=_;rw[B];(try rfl)
 rw[o,<-aj,D _ _ _ _ _ (key _ _ _ _ _ hx),List.set_eq_take_append_cons_drop,ae hj,nD];(try rfl)
theorem aa.mono (h:aa e O v l) (d:O.Le ψ):aa e ψ v l:=FS.mono h d
theorem aa.nil (O:Fz):aa e O (.no .sl) ([]:List U):=FS.nil O e.k
theorem af.nil:af e (.no .sl) ([]:List U) none:=OV.nil e.k
theorem aa.len (h:aa e O v l):mb v=some (.int .i64 (l.length:Int)):=FS.len h
theorem af.len (h:af e v l s):mb v=some (.int .i64 (l.length:Int)):=OV.len h
theorem aa.hi (h:aa e O v l) {j:Nat} (hj:j<=l.length):∃v',dx e.k v none (some (.int .i64 (j:Int))) none=some v'/\aa e O v' (l.take j):=by
 obtain⟨v',o,aj⟩:=FS.hi h hj;refine⟨v',o,?_⟩;rw[s0]at aj;unfold aa
 rwa [cE,hD hj]
theorem aa.lo (h:aa e O v l) {j:Nat} (hj:j<=l.length):∃v',dx e.k v (some (.int .i64 (j:Int))) none none=some v'/\aa e O v' (l.drop j):=by
 obtain⟨v',o,aj⟩:=FS.lo h hj;refine⟨v',o,?_⟩;rw[sZ]at aj;unfold aa
 rwa [bW]
theorem aa.both (h:aa e O v l) {i j:Nat} (d:i<=j) (hj:j<=l.length):∃v',dx e.k v (some (.int .i64 (i:Int))) (some (.int .i64 (j:Int))) none=some v'/\aa e O v' ((l.drop i).take (j-i)):=by
 obtain⟨v',o,aj⟩:=FS.both h d hj;refine⟨v',o,?_⟩;rw[sZ,s0]at aj;unfold aa
 rwa [cE,bW,hD (by omega)]
theorem af.new {a:Pa} {n:Nat} (hn:l.length=n):af e (.sl a 0 n (.ex n)) l (some a):=by
 subst hn;exact⟨gz l,iW l,.inr (.inr ⟨a,rfl,rfl⟩)⟩
theorem af.set (h:af e v l s) (j:Nat) (x:U):af e v (l.set j x) s:=by
 obtain⟨_,_,d⟩:=h;exact⟨gz _,iW _,by rw[pb];exact d⟩
def mA (e:bG U) (O:Fz) (R:List Ob) (u:V) (m:List U):Prop:=Src O R e.k u m.length (e.fl m)
theorem mA.f (h:aa e O v l):mA e O R v l:=Src.f h
theorem mA.lit (i:Nat) {a:Pa} {x:U} {c:fM} (hi:R[i]? =some (some a,.cells (e.f x) false):=by rfl):mA e O R (.sl a 0 1 c) [x]:=by
 have:=Src.new (O:=O) (R:=R) (k:=e.k) (m:=1) (a:=a) (c:=c) i (by rw[e.len,pd]) hi;unfold mA;rw[Jh];exact this
def aU:bG UInt8:=⟨1,fun b=>[cz b],fun _=>rfl,fun _=>rfl⟩
theorem lI (s:List UInt8):aU.fl s=s.map cz:=by
 induction s with
 |nil=>rfl
 |cons b s d=>show[cz b]++aU.fl s=_;rw[d];(try rfl)
def dA:bG (List UInt8):=⟨1,fun s=>[.str s],fun _=>rfl,fun _=>rfl⟩
def bt:bG Int:=⟨1,fun n=>[.int .i64 n],fun _=>rfl,fun _=>rfl⟩
def lJ:bG Bool:=⟨1,fun b=>[.bool b],fun _=>rfl,fun _=>rfl⟩
end
theorem SH.nil {O:Fz} {h:Hp} {R:List Ob} (s:SH O h R) (b:ak):SH O h ((none,b)::R):=by
 have key:∀(i:Nat) (a:Pa) (c:ak),((none,b)::R:List Ob)[i]? =some (some a,c)->∃j,i=j+1/\R[j]? =some (some a,c):=fun i a c hi=>by
  cases i with
  |zero=>simp at hi
  |succ j=>exact⟨j,rfl,by simpa using hi⟩
 refine⟨s.wf,s.jE,fun i a c hi=>?_,fun i j a c d hi hj=>?_⟩
 ·obtain⟨k,rfl,hk⟩:=key i a c hi;exact s.own k a c hk
 ·obtain⟨k,rfl,hk⟩:=key i a c hi;obtain⟨l,rfl,hl⟩:=key j a d hj;rw[s.apart k l a c d hk hl]
theorem Fin.new {O:Fz} {R:List Ob} {P:Fz->List Ob->Prop} {U:Type} (e:bG U) (hn:Fin O (e.ob Option.none []::R) P):Fin O R P:=fun ad h sh=>hn ad h (sh.nil _)
theorem SW.new {F:Nat->Option aP} {K:KX} {E:Env} {O:Fz} {R:List Ob} {Q:bz} {c:IC ak} {U:Type} (e:bG U) (hn:SW F K c E O (e.ob none []::R) Q):SW F K c E O R Q:=fun ad h sh=>hn ad h (sh.nil _)
theorem S.new {F:Nat->Option aP} {K:KX} {E:Env} {O:Fz} {R:List Ob} {Q:bz} {rs:List Op} {U:Type} (e:bG U) (hn:SA F K rs E O (e.ob none []::R) Q):SR F K (Op.aK rs) E O R Q:=fun ad h sh=>S.r hn ad h (sh.nil _)
namespace S
variable{F:Nat->Option aP} {K:KX} {E:Env} {O:Fz} {R:List Ob} {Q:bz} {rs:List Op} {d:Nat} {g:Option (Pa×Bool)} {U:Type} {e:bG U} {v:V} {l m:List U} {s:Option Pa}
theorem aF {k j:Nat} {x i:Od} {q:IntKind} (hs:aa e O v l) (hj:j<l.length) (hn:∀p,EP O p (e.f l[j])->SA F K rs ((d,p)::E) O R Q) (hx:ay E x v:=by first|exact .t rfl|exact .c) (hi:ay E i (.int q (j:Int)):=by first|exact .t rfl|exact .c) (hk:k=e.k:=by rfl) (hw:aA E g .yes:=by first|exact .none|exact .yes rfl):
 SR F K (.op ⟨some (pa d),bs none k x i,g⟩::Op.aK rs) E O R Q:=by
 subst hk;exact Gb hs hj (fun p hp=>hn p (by rw[s3 l j hj]at hp;exact hp)) hx hi hw
theorem ct {k j:Nat} {x i:Od} {q:IntKind} (ho:af e v l s) (hj:j<l.length) (hn:∀a,s=some a->SA F K rs ((d,.ptr a (j*e.k))::E) O R Q) (hx:ay E x v:=by exact .t rfl) (hi:ay E i (.int q (j:Int)):=by first|exact .t rfl|exact .c) (hk:k=e.k:=by rfl) (hw:aA E g .yes:=by first|exact .none|exact .yes rfl):
 SR F K (.op ⟨some (pa d),bs none k x i,g⟩::Op.aK rs) E O R Q:=by
 subst hk;exact pG ho hj hn hx hi hw
theorem eJ {j I:Nat} {x:Od} {a:Pa} {u:V} (q i:Nat) (hn:SA F K rs ((d,u)::E) O R Q) (hi:R[i]? =some (e.ob (some a) l):=by rfl) (ho:I=j*e.k+q:=by rfl) (hx:ay E x (.ptr a I):=by exact .t rfl) (hj:j<l.length:=by first|assumption|omega) (hu:(e.f l[j])[q]? =some u:=by rfl) (hw:aA E g .yes:=by first|exact .none|exact .yes rfl):
 SR F K (.op ⟨some (pa d),b2 none x,g⟩::Op.aK rs) E O R Q:=ld i hn hx hi (by subst ho;exact pL l j q hj hu) hw
theorem qY {j n:Nat} {x:Od} {a:Pa} (i:Nat) (hj:j<l.length) (hn:SA F K rs ((d,.agg (e.f l[j]))::E) O R Q) (hi:R[i]? =some (e.ob (some a) l):=by rfl) (hk:n=e.k:=by rfl) (hx:ay E x (.ptr a (j*e.k)):=by exact .t rfl) (hw:aA E g .yes:=by first|exact .none|exact .yes rfl):
 SR F K (.op ⟨some (pa d),b2 (some n) x,g⟩::Op.aK rs) E O R Q:=by
 subst hk;exact ag i hn hx hi (s3 l j hj) (e.len _) hw
theorem kK {j n:Nat} {y x:Od} {a:Pa} {u:V} (z:U) (i:Nat) (hn:SA F K rs E O (R.set i (e.ob (some a) (l.set j z))) Q) (hi:R[i]? =some (e.ob (some a) l):=by rfl) (hk:n=e.k:=by rfl) (ha:ay E y (.ptr a (j*e.k)):=by exact .t rfl) (hx:ay E x u:=by first|exact .t rfl|exact .c) (hu:u.cells=e.f z:=by rfl) (hj:j<l.length:=by first|assumption|omega) (hw:aA E g .yes:=by first|exact .none|exact .yes rfl):
 SR F K (.op ⟨none,fa n y x,g⟩::Op.aK rs) E O R Q:=by
 subst hk;exact store i hn ha hx hi (by rw[hu];exact Ji l j hj z) (by rw[hu,e.len];exact dU _) (by rw[hu];exact e.sc z) hw
theorem pM {j I n:Nat} {y x:Od} {a:Pa} {u:V} (z:U) (q i:Nat) (hn:SA F K rs E O (R.set i (e.ob (some a) (l.set j z))) Q) (hi:R[i]? =some (e.ob (some a) l):=by rfl) (ho:I=j*e.k+q:=by rfl) (ha:ay E y (.ptr a I):=by exact .t rfl) (hx:ay E x u:=by first|exact .t rfl|exact .c) (hj:j<l.length:=by first|assumption|omega) (hu:cT q (e.f l[j]) u.cells=some (e.f z):=by rfl) (hl:Nat.beq u.cells.length n=true:=by rfl) (hs:aY u.cells=true:=by rfl) (hw:aA E g .yes:=by first|exact .none|exact .yes rfl):
 SR F K (.op ⟨none,fa n y x,g⟩::Op.aK rs) E O R Q:=by
 subst ho;exact store i hn ha hx hi (Jj l j q hj hu) hl hs hw
theorem br {k:Nat} {y x:Od} {u:V} (i:Nat) (ho:af e v l s) (hs:mA e O R u m) (j:l.length+m.length<=1073741824) (hn:∀v' s',af e v' (l++m) s'->SA F K rs ((d,v')::E) O (R.set i (e.ob s' (l++m))) Q) (A:0<e.k:=by decide) (hi:R[i]? =some (e.ob s l):=by rfl) (hk:k=e.k:=by rfl) (B:ay E y v:=by first|exact .t rfl|exact .c) (hx:ay E x u:=by first|exact .t rfl|exact .c) (hw:aA E g .yes:=by first|exact .none|exact .yes rfl):
 SR F K (.op ⟨some (pa d),qv k y x,g⟩::Op.aK rs) E O R Q:=by
 subst hk;refine app i hi ho hs (iW m) j A (fun v' s' h=>?_) B hx hw;have o:af e v' (l++m) s':=by unfold af;rw[nD,c2];exact h
 have:=hn v' s' o;unfold bG.ob at this
 rwa [nD]at this
theorem cd (i:Nat) (ho:af e v l s) (hn:∀ψ,O.Le ψ->aa e ψ v l->SA F K rs E ψ (R.eraseIdx i) Q) (hi:R[i]? =some (e.ob s l):=by rfl):SR F K (Op.aK rs) E O R Q:=bL i ho hi hn
end S
def gv (b:Bool) (v:V):V:=bif b then v else cV
theorem Jk {b:Bool} {v:V} (h:b=true):gv b v=v:=by subst h;rfl
def Gd (E:Env) (g:Option (Pa×Bool)) (b:Bool):Prop:=∀e,bY e E->eb e g=bif b then .yes else .no
theorem Gd.y {E:Env} {n:Nat} {c:Bool} (h:lk n E=some (.bool c)):Gd E (some (pa n,true)) c:=fun e he=>by
 cases c
 ·exact aA.no (n:=n) h rfl e he
 ·exact aA.yes (n:=n) h e he
theorem Gd.n {E:Env} {n:Nat} {c:Bool} (h:lk n E=some (.bool c)):Gd E (some (pa n,false)) (!c):=fun e he=>by
 cases c
 ·exact aA.yes (n:=n) h e he
 ·exact aA.no (n:=n) h rfl e he
theorem Gd.yg {E:Env} {n:Nat} {b c:Bool} (h:lk n E=some (gv b (.bool c))):Gd E (some (pa n,true)) (b&&c):=fun e he=>by
 cases b
 ·exact aA.yP (n:=n) (l:=[]) h e he
 ·exact Gd.y h e he
theorem Gd.ng {E:Env} {n:Nat} {b c:Bool} (h:lk n E=some (gv b (.bool c))):Gd E (some (pa n,false)) (b&&!c):=fun e he=>by
 cases b
 ·exact aA.yP (n:=n) (l:=[]) h e he
 ·exact Gd.n h e he
def da (E:Env) (x:Od) (b:Bool) (v:V):Prop:=b=true->ay E x v
theorem da.u {E:Env} {x:Od} {b:Bool} {v:V} (h:ay E x v):da E x b v:=fun _=>h
theorem da.g {E:Env} {n:Nat} {b:Bool} {v:V} (h:lk n E=some (gv b v)):da E (.t (pa n)) b v:=fun d=>.t (by rw[h,Jk d])
inductive nE (E:Env) (b:Bool):List Od->List V->Prop
 |nil:nE E b [] []
 |cons {x:Od} {a:V} {xs:List Od} {vs:List V} (h:da E x b a) (hs:nE E b xs vs):nE E b (x::xs) (a::vs)
theorem nE.is {E:Env} {b:Bool} {xs:List Od} {vs:List V} (h:nE E b xs vs) (d:b=true):kE E xs vs:=by
 induction h with
 |nil=>exact .nil
 |cons h _ j=>exact .cons (h d) j
theorem S.mB {F:Nat->Option aP} {K:KX} {E:Env} {O:Fz} {R:List Ob} {Q:bz} {rs:List Op} {d:Nat} {c:Bool} (hn:∀b,b=c->SA F K rs ((d,.bool b)::E) O R Q):SA F K rs ((d,.bool c)::E) O R Q:=hn c rfl
theorem G.mB {F:Nat->Option aP} {K:KX} {E:Env} {O:Fz} {R:List Ob} {Q:bz} {rs:List Op} {d:Nat} {c g:Bool} (hn:∀b,b=c->SA F K rs ((d,gv g (.bool b))::E) O R Q):SA F K rs ((d,gv g (.bool c))::E) O R Q:=hn c rfl
namespace G
variable{F:Nat->Option aP} {K:KX} {E:Env} {O:Fz} {R:List Ob} {Q:bz} {rs:List Op} {d:Nat} {g:Option (Pa×Bool)} {b:Bool}
theorem pu {f:T V->Hp->Option V} {v:V} (j:Gd E g b) (o:b=true->∀W h,SH O h (R++W)->∀e,bY e E->f e h=some v) (hn:SA F K rs ((d,gv b v)::E) O R Q):SR F K (.op ⟨some (pa d),.pu f,g⟩::Op.aK rs) E O R Q:=fun W h sh=>by
 cases b with
 |false=>exact ad.no j (S.r hn W h sh)
 |true=>exact ad.pu j (o rfl W h sh) (S.r hn W h sh)
theorem mv {x:Od} {a:V} (hn:SA F K rs ((d,gv b a)::E) O R Q) (j:Gd E g b:=by first|exact .y rfl|exact .n rfl|exact .yg rfl|exact .ng rfl) (hx:da E x b a:=by first|exact .g rfl|exact .gl rfl|exact .u (.t rfl)|exact .u .c):SR F K (.op ⟨some (pa d),lb x,g⟩::Op.aK rs) E O R Q:=
 pu j (fun h _ _ _ e he=>by simp only[hx h e he]) hn
theorem aD {off:Nat} {x:Od} {a:Pa} {I:Nat} (hn:SA F K rs ((d,gv b (.ptr a (I+off)))::E) O R Q) (j:Gd E g b:=by first|exact .y rfl|exact .n rfl|exact .yg rfl|exact .ng rfl) (hx:da E x b (.ptr a I):=by first|exact .g rfl|exact .gl rfl|exact .u (.t rfl)):SR F K (.op ⟨some (pa d),lg off x,g⟩::Op.aK rs) E O R Q:=
 pu j (fun h _ _ _ e he=>by simp only[hx h e he]) hn
theorem nil? {x:Od} {a:Pa} {I:Nat} (hn:SA F K rs ((d,gv b (.ptr a I))::E) O R Q) (j:Gd E g b:=by first|exact .y rfl|exact .n rfl|exact .yg rfl|exact .ng rfl) (hx:da E x b (.ptr a I):=by first|exact .g rfl|exact .gl rfl|exact .u (.t rfl)):SR F K (.op ⟨some (pa d),gP x,g⟩::Op.aK rs) E O R Q:=
 pu j (fun h _ _ _ e he=>by simp only[hx h e he]) hn
theorem bin {op:BinOp} {q:cy} {x y:Od} {u w v:V} (hn:SA F K rs ((d,gv b v)::E) O R Q) (j:Gd E g b:=by first|exact .y rfl|exact .n rfl|exact .yg rfl|exact .ng rfl) (hx:da E x b u:=by first|exact .g rfl|exact .gl rfl|exact .u (.t rfl)|exact .u .c) (o:da E y b w:=by first|exact .g rfl|exact .gl rfl|exact .u (.t rfl)|exact .u .c)
 (hv:b=true->b0 op q u w=some v:=by(intro h;first|exact vv|exact yW|exact yX|exact yY|exact yZ|exact y0|exact y1|exact y2|exact dz (by omega) (by omega)|exact fU (by omega) (by omega)|exact sR (by omega) (by omega)|exact my (by omega)|rfl)):SR F K (.op ⟨some (pa d),bc op q x y,g⟩::Op.aK rs) E O R Q:=
 pu j (fun h _ _ _ e he=>by simp only[hx h e he,o h e he,hv h]) hn
theorem un {op:UnOp} {x:Od} {u v:V} (hn:SA F K rs ((d,gv b v)::E) O R Q) (j:Gd E g b:=by first|exact .y rfl|exact .n rfl|exact .yg rfl|exact .ng rfl) (hx:da E x b u:=by first|exact .g rfl|exact .gl rfl|exact .u (.t rfl)|exact .u .c) (hv:pg op u=some v:=by rfl):SR F K (.op ⟨some (pa d),dj op x,g⟩::Op.aK rs) E O R Q:=
 pu j (fun h _ _ _ e he=>by simp only[hx h e he,hv]) hn
theorem len {x:Od} {a:V} {n:Nat} (hn:SA F K rs ((d,gv b (.int .i64 (n:Int)))::E) O R Q) (j:Gd E g b:=by first|exact .y rfl|exact .n rfl|exact .yg rfl|exact .ng rfl) (hx:da E x b a:=by first|exact .g rfl|exact .gl rfl|exact .u (.t rfl)|exact .u .c) (hl:mb a=some (.int .i64 (n:Int)):=by first|exact FS.len (by assumption)|exact OV.len (by assumption)|exact aa.len (by assumption)|exact af.len (by assumption)|rfl):SR F K (.op ⟨some (pa d),cl x,g⟩::Op.aK rs) E O R Q:=
 pu j (fun h _ _ _ e he=>by rw[hx h e he];exact hl) hn
theorem cb {x:Od} {s:List UInt8} (hn:SA F K rs ((d,gv b (.int .i64 (s.length:Int)))::E) O R Q) (j:Gd E g b:=by first|exact .y rfl|exact .n rfl|exact .yg rfl|exact .ng rfl) (hx:da E x b (.str s):=by first|exact .g rfl|exact .gl rfl|exact .u (.t rfl)|exact .u .c):SR F K (.op ⟨some (pa d),b4 x,g⟩::Op.aK rs) E O R Q:=
 pu j (fun h _ _ _ e he=>by rw[hx h e he];(try rfl)) hn
theorem mw {k j:IntKind} {x:Od} {n:Int} (hn:SA F K rs ((d,gv b (.int k (ek k n)))::E) O R Q) (o:Gd E g b:=by first|exact .y rfl|exact .n rfl|exact .yg rfl|exact .ng rfl) (hx:da E x b (.int j n):=by first|exact .g rfl|exact .gl rfl|exact .u (.t rfl)|exact .u .c):SR F K (.op ⟨some (pa d),cH k x,g⟩::Op.aK rs) E O R Q:=
 pu o (fun h _ _ _ e he=>by simp only[hx h e he]) hn
theorem gy {x i:Od} {s:List UInt8} {j:Nat} {k:IntKind} {c:UInt8} (hn:SA F K rs ((d,gv b (.int .u8 (c.toNat:Int)))::E) O R Q) (A:Gd E g b:=by first|exact .y rfl|exact .n rfl|exact .yg rfl|exact .ng rfl) (hx:da E x b (.str s):=by first|exact .g rfl|exact .gl rfl|exact .u (.t rfl)|exact .u .c) (hi:da E i b (.int k (j:Int)):=by first|exact .g rfl|exact .gl rfl|exact .u (.t rfl)|exact .u .c) (hj:b=true->s[j]? =some c:=by first|assumption|(intro _;assumption)):
 SR F K (.op ⟨some (pa d),gi x i,g⟩::Op.aK rs) E O R Q:=
 pu A (fun h _ _ _ e he=>by
  have o:i.ev e=.int k (.ofNat j):=hi h e he;simp only[hx h e he,o,lp,hj h];rfl) hn
theorem ld {x:Od} {a:Pa} {I:Nat} {u:V} {cs:List V} (i:Nat) (hn:SA F K rs ((d,gv b u)::E) O R Q) (A:Gd E g b:=by first|exact .y rfl|exact .n rfl|exact .yg rfl|exact .ng rfl) (hx:da E x b (.ptr a I):=by first|exact .g rfl|exact .gl rfl|exact .u (.t rfl)) (hi:R[i]? =some (some a,.cells cs false):=by rfl) (hu:cs[I]? =some u:=by rfl):SR F K (.op ⟨some (pa d),b2 none x,g⟩::Op.aK rs) E O R Q:=
 pu A (fun j W h sh e he=>by
  have o:=(eZ.of (SH.fy sh hi) rfl).one hu;rw[eV]at o;simp only[hx j e he,o]) hn
theorem ag {x:Od} {a:Pa} {I n:Nat} {cs l:List V} (i:Nat) (hn:SA F K rs ((d,gv b (.agg l))::E) O R Q) (A:Gd E g b:=by first|exact .y rfl|exact .n rfl|exact .yg rfl|exact .ng rfl) (hx:da E x b (.ptr a I):=by first|exact .g rfl|exact .gl rfl|exact .u (.t rfl)) (hi:R[i]? =some (some a,.cells cs false):=by rfl) (hl:(cs.drop I).take n=l:=by rfl) (B:l.length=n:=by rfl):SR F K (.op ⟨some (pa d),b2 (some n) x,g⟩::Op.aK rs) E O R Q:=
 pu A (fun j W h sh e he=>by
  have o:=(eZ.of (SH.fy sh hi) rfl).agg hl B;rw[eV]at o;simp only[hx j e he,o]) hn
theorem a1 {x:Od} {p u:V} {xs:List V} (hn:SA F K rs ((d,gv b u)::E) O R Q) (o:Gd E g b:=by first|exact .y rfl|exact .n rfl|exact .yg rfl|exact .ng rfl) (hx:da E x b p:=by first|exact .g rfl|exact .gl rfl|exact .u (.t rfl)) (hp:b=true->EP O p xs:=by assumption) (hu:xs[0]? =some u:=by rfl):SR F K (.op ⟨some (pa d),b2 none x,g⟩::Op.aK rs) E O R Q:=
 pu o (fun j W h sh e he=>by rw[hx j e he];exact(hp j).vz hu sh) hn
theorem bJ {x:Od} {p:V} {xs l:List V} {n:Nat} (hn:SA F K rs ((d,gv b (.agg l))::E) O R Q) (o:Gd E g b:=by first|exact .y rfl|exact .n rfl|exact .yg rfl|exact .ng rfl) (hx:da E x b p:=by first|exact .g rfl|exact .gl rfl|exact .u (.t rfl)) (hp:b=true->EP O p xs:=by assumption) (hl:xs.take n=l:=by rfl) (A:l.length=n:=by rfl):SR F K (.op ⟨some (pa d),b2 (some n) x,g⟩::Op.aK rs) E O R Q:=
 pu o (fun j W h sh e he=>by rw[hx j e he];exact(hp j).b1 hl A sh) hn
theorem bl {off:Nat} {x:Od} {p:V} {xs:List V} (hp:b=true->EP O p xs) (hn:∀q,(b=true->EP O q (xs.drop off))->SA F K rs ((d,gv b q)::E) O R Q) (j:Gd E g b:=by first|exact .y rfl|exact .n rfl|exact .yg rfl|exact .ng rfl) (hx:da E x b p:=by first|exact .g rfl|exact .gl rfl|exact .u (.t rfl)):SR F K (.op ⟨some (pa d),lg off x,g⟩::Op.aK rs) E O R Q:=by
 cases b with
 |false=>exact pu (v:=.no .bot) j (fun h=>by cases h) (hn _ (fun h=>by cases h))
 |true=>
  obtain⟨a,I,o,aj⟩:=(hp rfl).field off;exact pu j (fun A _ _ _ e he=>by rw[hx rfl e he,o]) (hn _ (fun _=>aj))
theorem aF {U:Type} {d5:bG U} {v:V} {l:List U} {k j:Nat} {x i:Od} {q:IntKind} {z:U} (hs:aa d5 O v l) (hn:∀p,(b=true->EP O p (d5.f z))->SA F K rs ((d,gv b p)::E) O R Q) (D:Gd E g b:=by first|exact .y rfl|exact .n rfl|exact .yg rfl|exact .ng rfl) (hx:da E x b v:=by first|exact .g rfl|exact .gl rfl|exact .u (.t rfl)|exact .u .c) (hi:da E i b (.int q (j:Int)):=by first|exact .g rfl|exact .gl rfl|exact .u (.t rfl)|exact .u .c) (hk:k=d5.k:=by rfl) (hj:b=true->l[j]? =some z:=by first|assumption|(intro _;assumption)):
 SR F K (.op ⟨some (pa d),bs none k x i,g⟩::Op.aK rs) E O R Q:=by
 subst hk;cases b with
 |false=>exact pu (v:=.no .bot) D (fun h=>by cases h) (hn _ (fun h=>by cases h))
 |true=>
  obtain⟨A,hz⟩:=dS.1 (hj rfl);obtain⟨a,I,c,o,aj⟩:=FS.at hs A;rw[s3 l j A,hz]at aj;refine pu D (fun B _ _ _ e he=>?_) (hn _ (fun _=>aj));have B:Nat.blt j l.length=true:=by simpa[pe]using A
  have G:i.ev e=.int q (.ofNat j):=hi rfl e he;simp only[hx rfl e he,o,G,B,aE]
theorem ct {U:Type} {d5:bG U} {v:V} {l:List U} {s:Option Pa} {k j:Nat} {x i:Od} {q:IntKind} (ho:af d5 v l s) (hj:j<l.length) (hn:∀a,s=some a->SA F K rs ((d,gv b (.ptr a (j*d5.k)))::E) O R Q) (h:Gd E g b:=by first|exact .y rfl|exact .n rfl|exact .yg rfl|exact .ng rfl) (hx:da E x b v:=by first|exact .g rfl|exact .gl rfl|exact .u (.t rfl)) (hi:da E i b (.int q (j:Int)):=by first|exact .g rfl|exact .gl rfl|exact .u (.t rfl)|exact .u .c) (hk:k=d5.k:=by rfl):
 SR F K (.op ⟨some (pa d),bs none k x i,g⟩::Op.aK rs) E O R Q:=by
 cases b with
 |true=>exact S.ct ho hj hn (hx rfl) (hi rfl) hk h
 |false=>
  rcases ho.2.2 with⟨_,o,_⟩|⟨a,_,rfl⟩|⟨a,_,rfl⟩
  ·omega
  ·exact S.no h (hn a rfl)
  ·exact S.no h (hn a rfl)
theorem eJ {U:Type} {d5:bG U} {l:List U} {j I:Nat} {x:Od} {a:Pa} {u:V} (q i:Nat) (hn:SA F K rs ((d,gv b u)::E) O R Q) (h:Gd E g b:=by first|exact .y rfl|exact .n rfl|exact .yg rfl|exact .ng rfl) (hi:R[i]? =some (d5.ob (some a) l):=by rfl) (ho:I=j*d5.k+q:=by rfl) (hx:da E x b (.ptr a I):=by first|exact .g rfl|exact .gl rfl|exact .u (.t rfl)) (hj:j<l.length:=by first|assumption|omega) (hu:(d5.f l[j])[q]? =some u:=by rfl):
 SR F K (.op ⟨some (pa d),b2 none x,g⟩::Op.aK rs) E O R Q:=by
 cases b with
 |true=>exact S.eJ q i hn hi ho (hx rfl) hj hu h
 |false=>exact S.no h hn
theorem or {n:Nat} {c:Od} {a r:Bool} (hn:SA F K rs ((d,.bool (a||r))::E) O R Q) (hc:ay E c (.bool a):=by exact .t rfl) (j:lk n E=some (gv (!a) (.bool r)):=by rfl):SR F K (.op ⟨some (pa d),cU c (.c (.bool true)) (.t (pa n)),none⟩::Op.aK rs) E O R Q:=fun W h sh=>
 ad.pu .none (fun e he=>by
  simp only[hc e he];cases a with
  |true=>rfl
  |false=>exact congrArg some (ay.t j e he)) (S.r hn W h sh)
theorem and {n:Nat} {c:Od} {a r:Bool} (hn:SA F K rs ((d,.bool (a&&r))::E) O R Q) (hc:ay E c (.bool a):=by exact .t rfl) (j:lk n E=some (gv a (.bool r)):=by rfl):SR F K (.op ⟨some (pa d),cU c (.t (pa n)) (.c (.bool false)),none⟩::Op.aK rs) E O R Q:=fun W h sh=>
 ad.pu .none (fun e he=>by
  simp only[hc e he];cases a with
  |false=>rfl
  |true=>exact congrArg some (ay.t j e he)) (S.r hn W h sh)
theorem nF {n:Nat} {c:Od} {a r:Bool} (hn:SA F K rs ((d,gv b (.bool (a||r)))::E) O R Q) (j:Gd E g b:=by first|exact .y rfl|exact .n rfl|exact .yg rfl|exact .ng rfl) (hc:da E c b (.bool a):=by first|exact .g rfl|exact .gl rfl|exact .u (.t rfl)) (o:lk n E=some (gv (b&&!a) (.bool r)):=by rfl):SR F K (.op ⟨some (pa d),cU c (.c (.bool true)) (.t (pa n)),g⟩::Op.aK rs) E O R Q:=
 pu j (fun h _ _ _ e he=>by
  simp only[hc h e he];subst h;cases a with
  |true=>rfl
  |false=>exact congrArg some (ay.t o e he)) hn
theorem fV {n:Nat} {c:Od} {a r:Bool} (hn:SA F K rs ((d,gv b (.bool (a&&r)))::E) O R Q) (j:Gd E g b:=by first|exact .y rfl|exact .n rfl|exact .yg rfl|exact .ng rfl) (hc:da E c b (.bool a):=by first|exact .g rfl|exact .gl rfl|exact .u (.t rfl)) (o:lk n E=some (gv (b&&a) (.bool r)):=by rfl):SR F K (.op ⟨some (pa d),cU c (.t (pa n)) (.c (.bool false)),g⟩::Op.aK rs) E O R Q:=
 pu j (fun h _ _ _ e he=>by
  simp only[hc h e he];subst h;cases a with
  |false=>rfl
  |true=>exact congrArg some (ay.t o e he)) hn
theorem al [eY K] {n:Nat} {xs:List Od} {vs:List V} {v:V} (hc:b=true->bm F n vs O v) (hn:SA F K rs ((d,gv b v)::E) O R Q) (h:Gd E g b:=by first|exact .y rfl|exact .n rfl|exact .yg rfl|exact .ng rfl) (hx:nE E b xs vs:=by repeat(first|exact .nil|refine .cons (.g rfl) ?_|refine .cons (.gl rfl) ?_|refine .cons (.u (.t rfl)) ?_|refine .cons (.u .c) ?_)):SR F K (.op ⟨some (pa d),aI n xs,g⟩::Op.aK rs) E O R Q:=by
 cases b with
 |false=>exact S.no h hn
 |true=>exact S.Gc (hc rfl) hn (hx.is rfl) h
end G
namespace S
variable{F:Nat->Option aP} {K:KX} {E:Env} {O:Fz} {R:List Ob} {Q:bz} {rs:List Op} {d:Nat} {g:Option (Pa×Bool)}
theorem iX [eY K] {n:Nat} {xs:List Od} {vs:List V} {Rt D:V->Fz->List Ob->Prop} (k:Nat) (hc:ai F n vs O (R.take k) Rt D) (hn:∀v ψ j,O.Le ψ->Rt v ψ j->SA F K rs ((d,v)::E) ψ (j++R.drop k) Q) (hu:∀v ψ j,O.Le ψ->D v ψ j->Q.p E v ψ (j++R.drop k)) (hx:im E xs=some vs:=by rfl) (hw:aA E g .yes:=by first|exact .none|exact .yes rfl):
 SR F K (.op ⟨some (pa d),aI n xs,g⟩::Op.aK rs) E O R Q:=fun W h sh=>by
 rcases hc (R.drop k++W) h (by rw[<-bp,jT];exact sh)with⟨v,h',o,ψ,j,aj,A,B⟩|⟨v,h',o,ψ,j,aj,A,B⟩
 ·exact WR.up aj (ad.call hw (j4 hx) o (S.r (hn v ψ j aj B) W h' (by rw[bp];exact A)))
 ·exact WR.FV (d:=some d) hw (fun e he=>by show iI.call n (di e xs)=_;rw[(j4 hx).ev he]) o ⟨ψ,j++R.drop k,aj,by rw[bp];exact A,hu v ψ j aj B⟩
theorem panic {x:Od} {t:Nat} {v:V} (hq:Q.p E (.iface t v) O R) (hx:ay E x (.iface t v):=by first|exact .t rfl|exact .c) (hw:aA E g .yes:=by first|exact .none|exact .yes rfl):
 SR F K (.op ⟨none,po x,g⟩::Op.aK rs) E O R Q:=fun W h sh=>
 WR.panic (d:=none) (v:=.iface t v) hw (fun e he=>by simp only[hx e he]) ⟨O,R,.refl O,sh,hq⟩
end S
section
variable{F:Nat->Option aP} {O:Fz} {R:List Ob} {Rt:V->Fz->List Ob->Prop}
def s5 (fn:fO) (Rt:V->Fz->List Ob->Prop) (E:Env):bz where
 n:=fun _ h d=>∃l,iq E h d fn.res l/\Fin h d (Rt (oneOf l))
 x:=fun _ _ _ _=>False
 r:=fun _ h d=>∃l,iq E h d fn.res l/\Fin h d (Rt (oneOf l))
 p:=fun _ _ _ _=>False
def Jl (F:Nat->Option aP) (fn j:fO) (g d3:Nat) (G:IC ak) (Rt:V->Fz->List Ob->Prop) (vs:List V):bz where
 n:=fun E h d=>SW F ⟨⟨g,j.nt,true,none⟩,fun _=>True⟩ G ((d3,.no .iface)::fT 0 vs) h d (s5 fn Rt E)
 x:=fun _ _ _ _=>False
 r:=fun E h d=>SW F ⟨⟨g,j.nt,true,none⟩,fun _=>True⟩ G ((d3,.no .iface)::fT 0 vs) h d (s5 fn Rt E)
 p:=fun E v h d=>SW F ⟨⟨g,j.nt,true,none⟩,fun _=>True⟩ G ((d3,v)::fT 0 vs) h d (s5 fn Rt E)
def Jm (F:Nat->Option aP) (fn h:fO) (f g d1 d3:Nat) (B G:IC ak) (xs:List Od) (Rt:V->Fz->List Ob->Prop):bz where
 n:=fun E ψ d=>∃vs,im E xs=some vs/\SW F ⟨⟨f,fn.nt,false,none⟩,fun _=>True⟩ B ((d1,.fn g vs)::E) ψ d (Jl F fn h g d3 G Rt vs)
 x:=fun _ _ _ _=>False
 r:=fun _ _ _=>False
 p:=fun _ _ _ _=>False
inductive s6:Mode->V->Mode->Prop
 |ret:s6 .returning (.no .iface) .returning
 |up (v:V):s6 (.panicking v false) v (.panicking v true)
theorem Jn {f g:Nat} {fn B:fO} {G:IC ak} {d3:Nat} {vs:List V} {M I:Mode} {v0:V} (W:s6 M v0 I) (ay:F f=some (.code fn)) (ab:F g=some (.code B)) (az:B.body=.seq (.region [.op ⟨some (pa d3),qy,none⟩]) G) (aA:B.res=[])
 {j:T V} {Y:Env} (he:bY j Y) {aj:Hp} {am:Fz} {ao ad:List Ob} {d D:List Pa} (sh:SH am aj (ao++(c9 D++(c9 d++ad)))) (hw:SW F ⟨⟨g,B.nt,true,none⟩,fun _=>True⟩ G ((d3,v0)::fT 0 vs) am ao (s5 fn Rt Y)):
 ∃v h',(∀td fr cs ls,∃xs,Reach F (.go ⟨⟨f,fn.nt,false,none⟩,j,td,marks D (.call g vs::marks d []),M⟩ (fr::cs) aj ls) (finish fr v cs h' (xs++ls)))/\∃ψ L,am.Le ψ/\SH ψ h' (L++ad)/\Rt v ψ L:=by
 obtain⟨aB,aC⟩:=iU D sh;have aw:bY ((fP vs .z .E).set v0 (pa d3)) ((d3,v0)::fT 0 vs):=(pF vs).set d3 v0;obtain⟨aF,ar,an⟩:=hw (c9 d++ad) _ aC _ aw;have h0:∀td fr cs ls,Reach F (.go ⟨⟨f,fn.nt,false,none⟩,j,td,marks D (.call g vs::marks d []),M⟩ (fr::cs) aj ls) (.go ⟨⟨g,B.nt,true,none⟩,(fP vs .z .E).set v0 (pa d3),eF G [],[],.run⟩ (⟨⟨f,fn.nt,false,none⟩,j,td,marks d [],I⟩::fr::cs) (kill D aj) ls):=by
  intro td fr cs ls;refine(mu (fr:=⟨⟨f,fn.nt,false,none⟩,j,td,[],M⟩) D aB (by cases W<;>intro e<;>cases e)).trans ?_;refine .trans (b:=.go (enter B g vs true) (⟨⟨f,fn.nt,false,none⟩,j,td,marks d [],M⟩::fr::cs) (kill D aj) ls) (.one ?_) ?_
  ·cases W with
   |ret=>
    show unwind F ⟨⟨f,fn.nt,false,none⟩,j,td,.call g vs::marks d [],.returning⟩ (fr::cs) (kill D aj) ls=_;simp only[unwind,ab]
   |up _=>
    show unwind F ⟨⟨f,fn.nt,false,none⟩,j,td,.call g vs::marks d [],.panicking v0 false⟩ (fr::cs) (kill D aj) ls=_;simp only[unwind,ab]
  ·have R:enter B g vs true=⟨⟨g,B.nt,true,none⟩,fP vs .z .E,[.code (.seq (.region [.op ⟨some (pa d3),qy,none⟩]) G)],[],.run⟩:=by simp only[enter,az]
   rw[R];refine .trans (.one rfl) ?_;refine .trans (b:=.go ⟨⟨g,B.nt,true,none⟩,(fP vs .z .E).set v0 (pa d3),[.cI [],.code G],[],.run⟩ (⟨⟨f,fn.nt,false,none⟩,j,td,marks d [],I⟩::fr::cs) (kill D aj) ls) (.one ?_) ?_
   ·cases W<;>rfl
   ·exact .trans (.one rfl) (lG _ _ _ _ _ _ _ _)
 have back:∀(O:T V) (U:List Item) (o:List Pa) (A:Hp) (l:List V),jC o A->jC d (kill o A)->il Y (kill d (kill o A)) fn.res l->∀td fr cs ls,Reach F (.go ⟨⟨g,B.nt,true,none⟩,O,U,marks o [],.returning⟩ (⟨⟨f,fn.nt,false,none⟩,j,td,marks d [],I⟩::fr::cs) A ls) (finish fr (oneOf l) cs (kill d (kill o A)) ls):=by
  intro O U o A l a3 Q hl td fr cs ls;refine(mu (fr:=⟨⟨g,B.nt,true,none⟩,O,U,[],.returning⟩) o a3 (by intro e;cases e)).trans ?_;refine .trans (b:=.go ⟨⟨f,fn.nt,false,none⟩,j,td,marks d [],.returning⟩ (fr::cs) (kill o A) ls) (.one ?_) ?_
  ·show unwind F ⟨⟨g,B.nt,true,none⟩,O,U,[],.returning⟩ (⟨⟨f,fn.nt,false,none⟩,j,td,marks d [],I⟩::fr::cs) (kill o A) ls=_;cases W<;>simp only[unwind,ab,aA,hY,doReturn,aE]
  ·refine(mu (fr:=⟨⟨f,fn.nt,false,none⟩,j,td,[],.returning⟩) d Q (by intro e;cases e)).trans (.one ?_);show unwind F ⟨⟨f,fn.nt,false,none⟩,j,td,[],.returning⟩ (fr::cs) (kill d (kill o A)) ls=_;simp only[unwind,ay,hl j he,doReturn,bw]
 cases ar with
 | @n O A o ap av hq=>
   obtain⟨aD,au,ai,al,l,hl,Z⟩:=hq;obtain⟨a3,ah⟩:=iU o al;obtain⟨Q,S⟩:=iU d ah;obtain⟨ψ,L,ac,ae,ag⟩:=Z ad _ S;refine⟨oneOf l,kill d (kill o A),fun td fr cs ls=>?_,ψ,L,ai.trans ac,ae,ag⟩;obtain⟨x,hx,hr⟩:=an [] [] (⟨⟨f,fn.nt,false,none⟩,j,td,marks d [],I⟩::fr::cs) ls trivial (fun _ _ _ _ R=>by cases R);cases hx with|n _ _ _ xs _=>
   exact⟨xs,(h0 td fr cs ls).trans (hr.trans (.trans (.one rfl) (back _ _ _ _ _ a3 Q (hl ad _ S) td fr cs _)))⟩
 |x _ hq=>obtain⟨_,_,_,_,h⟩:=hq;exact h.elim
 | @r O A o ap av hq=>
   obtain⟨aD,au,ai,al,l,hl,Z⟩:=hq;obtain⟨a3,ah⟩:=iU o al;obtain⟨Q,S⟩:=iU d ah;obtain⟨ψ,L,ac,ae,ag⟩:=Z ad _ S;refine⟨oneOf l,kill d (kill o A),fun td fr cs ls=>?_,ψ,L,ai.trans ac,ae,ag⟩;obtain⟨x,hx,hr⟩:=an [] [] (⟨⟨f,fn.nt,false,none⟩,j,td,marks d [],I⟩::fr::cs) ls trivial (fun _ _ _ _ R=>by cases R);cases hx with
   |r _ _ _ U xs _=>exact⟨xs,(h0 td fr cs ls).trans (hr.trans (back _ _ _ _ _ a3 Q (hl ad _ S) td fr cs _))⟩
 |p _ hq=>obtain⟨_,_,_,_,h⟩:=hq;exact h.elim
theorem Jo {f g:Nat} {fn ao:fO} {args:List V} {A B G:IC ak} {d1 d3:Nat} {xs:List Od} (aC:F f=some (.code fn)) (aK:fn.body=.seq A (.seq (.region [.op ⟨some (pa d1),lf g xs,none⟩,.op ⟨none,pn (.t (pa d1)) [],none⟩]) B))
 (aL:F g=some (.code ao)) (aM:ao.body=.seq (.region [.op ⟨some (pa d3),qy,none⟩]) G) (aO:ao.res=[])
 (hw:SW F ⟨⟨f,fn.nt,false,none⟩,fun _=>True⟩ A (fT 0 args) O R (Jm F fn ao f g d1 d3 B G xs Rt)):ai F f args O R Rt never:=fun ad h sh=>by
 obtain⟨aV,aE,aD⟩:=hw ad h sh _ (pF args);have hd:∀fr cs ls,jx F fr cs h ls f args=.go ⟨⟨f,fn.nt,false,none⟩,fP args .z .E,[.code fn.body],[],.run⟩ (fr::cs) h ls:=fun fr cs ls=>by simp only[jx,aC,enter]
 cases aE with
 | @n j o D az aA hq=>
   obtain⟨ψ,aU,av,aS,vs,aQ,aI⟩:=hq;have aB:bY (j.set (.fn g vs) (pa d1)) ((d1,.fn g vs)::az):=aA.set d1 _;obtain⟨aW,aF,au⟩:=aI (c9 D++ad) o aS _ aB;have h0:∀fr cs ls,∃ae,Reach F (jx F fr cs h ls f args) (.go ⟨⟨f,fn.nt,false,none⟩,j.set (.fn g vs) (pa d1),eF B [],.call g vs::marks D [],.run⟩ (fr::cs) o (ae++ls)):=by
    intro fr cs ls;rw[hd,aK];obtain⟨x,hx,hr⟩:=aD [.code (.seq (.region [.op ⟨some (pa d1),lf g xs,none⟩,.op ⟨none,pn (.t (pa d1)) [],none⟩]) B)] [] (fr::cs) ls trivial (fun _ _ _ _ j=>by cases j);cases hx with|n _ _ _ ae _=>
    refine⟨ae,(lG _ _ _ _ _ _ _ _).trans (hr.trans (.trans (.one rfl) ?_))⟩;refine .trans (b:=.go ⟨⟨f,fn.nt,false,none⟩,j.set (.fn g vs) (pa d1),[.cI [],.code B],.call g vs::marks D [],.run⟩ (fr::cs) o (ae++ls)) (.one ?_) (.trans (.one rfl) (lG _ _ _ _ _ _ _ _));show hG F _ j [.code B] (marks D []) (fr::cs) o (ae++ls) (.cI [.op ⟨some (pa d1),lf g xs,none⟩,.op ⟨none,pn (.t (pa d1)) [],none⟩])=_;rw[pE (d0:=[.op ⟨none,pn (.t (pa d1)) [],none⟩]) (e':=j.set (.fn g vs) (pa d1)) (h':=o) ?_]
    ·have aP:Od.ev (j.set (.fn g vs) (pa d1)) (.t (pa d1))=.fn g vs:=(ay.t (E:=(d1,.fn g vs)::az) (n:=d1) (a:=.fn g vs) (by simp[lk])) _ aB;exact qR (d:=none) (c:=.defer (.call g vs)) (h:=o) rfl (by simp only[aP,di,fo]) _ _ _ _
    ·rw[mn rfl];simp only[lf,(j4 aQ).ev aA];rfl
   have aw:=fun{M aH:Mode} {v0:V} (aJ:s6 M v0 aH) {an:T V} {al:Env} (he:bY an al) {aj:Hp} {ar:Fz} {am:List Ob} {ap:List Pa} (aT:SH ar aj (am++(c9 ap++(c9 D++ad)))) aR=>Jn (Rt:=Rt) (vs:=vs) aJ aC aL aM aO he aT aR;cases aF with
   | @n an aj ap al U hq=>
     obtain⟨ar,am,ab,ac,S⟩:=hq;obtain⟨v,h',W,ah,L,Y,k2,Z⟩:=aw .ret U ac S;refine .inl ⟨v,h',fun fr cs ls=>?_,ah,L,(av.trans ab).trans Y,k2,Z⟩;obtain⟨xs,Q⟩:=h0 fr cs ls;obtain⟨x,hx,hr⟩:=au [] (.call g vs::marks D []) (fr::cs) (xs++ls) trivial (fun _ _ _ _ j=>by cases j);cases hx with|n _ _ _ I _=>
     obtain⟨ag,hz⟩:=W [] fr cs (I++(xs++ls));exact⟨ag++(I++xs),by rw[bp,bp];exact Q.trans (hr.trans (.trans (.one rfl) hz))⟩
   |x _ hq=>obtain⟨_,_,_,_,h⟩:=hq;exact h.elim
   | @r an aj ap al U hq=>
     obtain⟨ar,am,ab,ac,S⟩:=hq;obtain⟨v,h',W,ah,L,Y,k2,Z⟩:=aw .ret U ac S;refine .inl ⟨v,h',fun fr cs ls=>?_,ah,L,(av.trans ab).trans Y,k2,Z⟩;obtain⟨xs,Q⟩:=h0 fr cs ls;obtain⟨x,hx,hr⟩:=au [] (.call g vs::marks D []) (fr::cs) (xs++ls) trivial (fun _ _ _ _ j=>by cases j);cases hx with
     |r _ _ _ td I _=>
      obtain⟨ag,hz⟩:=W td fr cs (I++(xs++ls));exact⟨ag++(I++xs),by rw[bp,bp];exact Q.trans (hr.trans hz)⟩
   | @p an v0 aj ap al U hq=>
     obtain⟨ar,am,ab,ac,S⟩:=hq;obtain⟨v,h',W,ah,L,Y,k2,Z⟩:=aw (.up v0) U ac S;refine .inl ⟨v,h',fun fr cs ls=>?_,ah,L,(av.trans ab).trans Y,k2,Z⟩;obtain⟨xs,Q⟩:=h0 fr cs ls;obtain⟨x,hx,hr⟩:=au [] (.call g vs::marks D []) (fr::cs) (xs++ls) trivial (fun _ _ _ _ j=>by cases j);cases hx with
     |p _ _ _ _ td I _=>
      obtain⟨ag,hz⟩:=W td fr cs (I++(xs++ls));exact⟨ag++(I++xs),by rw[bp,bp];exact Q.trans (hr.trans hz)⟩
 |x _ hq=>obtain⟨_,_,_,_,h⟩:=hq;exact h.elim
 |r _ hq=>obtain⟨_,_,_,_,h⟩:=hq;exact h.elim
 |p _ hq=>obtain⟨_,_,_,_,h⟩:=hq;exact h.elim
end
end Go.Ev
namespace Go.Ev
variable{F:Nat->Option aP} {K:KX} {E:Env} {O:Fz} {R:List Ob}
def zb (F:Nat->Option aP) (K:KX) (l:Pa) (args:List V) (h:Hp) (v:Bool) (h':Hp):Prop:=∀fr cs ls,K.L ls->∃xs,K.L (xs++ls)/\Reach F (oa fr cs h ls l args) (finish fr (.bool v) cs h' (xs++ls))
def oD (F:Nat->Option aP) (K:KX) (l:Pa) (args:List V) (O:Fz) (R:List Ob) (T:Bool->Fz->List Ob->Prop):Prop:=∀ad h,SH O h (R++ad)->∃b h',zb F K l args h b h'/\∃ψ d,O.Le ψ/\SH ψ h' (d++ad)/\T b ψ d
theorem WR.yield {d:Option Nat} {g:Option (Pa×Bool)} {f:T V->iI} {l:Pa} {args:List V} {rs:List (RS ak)} {v:Bool} {h h':Hp} {Q:ep} (hw:aA E g .yes) (B:∀e,bY e E->f e=.yield l args) (hc:zb F K l args h v h')
 (hn:WR F K rs (ow E (.bool v) d) h' Q):WR F K (.op ⟨d.map pa,.dv f,g⟩::rs) E h Q:=by
 intro e he;obtain⟨r,o,aj⟩:=hn _ (he.put (.bool v) d);refine⟨r,o,fun k ds cs ls hL ho=>?_⟩;obtain⟨xs,j,A⟩:=hc ⟨K.k,e,.cI (.op ⟨d.map pa,.dv f,g⟩::rs)::k,ds,.run⟩ cs ls hL;obtain⟨x,hx,hr⟩:=aj k ds cs (xs++ls) j ho;refine⟨x,hx.more,?_⟩;rw[qR (hw e he) (B e he)];exact A.trans (.step hr)
theorem S.yield {rs:List Op} {d:Nat} {Q:bz} {f:Od} {l:Pa} {xs:List Od} {vs:List V} {T:Bool->Fz->List Ob->Prop} (hc:oD F K l vs O R T) (hn:∀b ψ j,O.Le ψ->T b ψ j->SA F K rs ((d,.bool b)::E) ψ j Q) (B:ay E f (.fp l):=by exact .t rfl) (hx:im E xs=some vs:=by rfl):
 SR F K (.op ⟨some (pa d),n3 f xs,none⟩::Op.aK rs) E O R Q:=fun W h sh=>by
 obtain⟨b,h',D,ψ,j,aj,o,A⟩:=hc W h sh;exact WR.up aj (WR.yield (d:=some d) .none (fun e he=>by
  show(match f.ev e with
   |.fn g a2=>iI.call g (di e xs++a2)
   |.fp l=>.yield l (di e xs)
   |_=>.bad 59)=_
  rw[B e he,(j4 hx).ev he]) D (S.r (hn b ψ j aj A) W h' o))
theorem SH.zc {O:Fz} {h:Hp} {R ad:List Ob} {I:Ob} (s:SH O h (I::(R++ad))):SH O h (R++(I::ad)):=by
 have:=SH.back (i:=R.length) (aB _) s
 rwa [dT,b6,bp]at this
theorem SH.s7 {O:Fz} {h:Hp} {R ad:List Ob} {I:Ob} (s:SH O h (R++(I::ad))):SH O h (I::(R++ad)):=by
 have e:R++(I::ad)=(R++[I])++ad:=by simp
 rw[e]at s;have:=s.front (i:=R.length) (I:=I) (by rw[db (aB _),iG];(try rfl));have d:(R++[I]).eraseIdx R.length=R:=by rw[List.eraseIdx_append_of_length_le (aB _),iG];simp
 rwa [d]at this
theorem SH.s8 {O:Fz} {h:Hp} {R ad:List Ob} {a:Pa} {b:ak} (s:SH O h (R++((some a,b)::ad))):h.get a=some b:=(s.s7.own 0 a b rfl).1
theorem SH.vF {O:Fz} {h:Hp} {R ad:List Ob} {a:Pa} {b:ak} (s:SH O h (R++((some a,b)::ad))) (b':ak):SH O (h.put a b') (R++((some a,b')::ad)):=(s.s7.put (i:=0) rfl b').zc
def zd (r:l8) (l:Pa) (a b:IC ak):KX:=⟨⟨r.fn,r.nt,false,some l⟩,fun ls=>eX l ls=some ⟨l,a,b⟩⟩
def pN (g nt:Nat) (l:Pa) (a b:IC ak):KX:=⟨⟨g,nt,false,none⟩,fun ls=>eX l ls=some ⟨l,a,b⟩⟩
def Jp (r:l8) (l:Pa) (Y:Bool->Fz->List Ob->Prop):bz where
 n:=fun _ h d=>Y true h ((some l,.loop {r with state:=.ready,pending:=none})::d)
 x:=fun _ _ _ _=>False
 r:=fun _ h d=>Y false h ((some l,.loop {r with state:=.done,pending:=some .ret})::d)
 p:=fun _ _ _ _=>False
def Jq (F:Nat->Option aP) (r:l8) (l:Pa) (a b:IC ak) (Y:Bool->Fz->List Ob->Prop):bz where
 n:=fun d ψ h=>SW F (zd r l a b) b d ψ h (Jp r l Y)
 x:=fun _ _ _ _=>False
 r:=fun _ _ _=>False
 p:=fun _ _ _ _=>False
theorem oD.round {g nt:Nat} {l:Pa} {r:l8} {a b:IC ak} {args:List V} {e':T V} {ab:Env} {Y:Bool->Fz->List Ob->Prop} (av:r.state=.ready) (ch:me r.params args r.env=some e') (he:bY e' ab)
 (hw:SW F (zd r l a b) a ab O R (Jq F r l a b Y)):oD F (pN g nt l a b) l args O ((some l,.loop r)::R) Y:=by
 intro ad h sh;have ah:SH O h (R++((some l,.loop r)::ad)):=SH.zc sh;obtain⟨aA,al,ac⟩:=hw _ h ah _ he;have hd:∀fr cs ls,eX l ls=some ⟨l,a,b⟩->oa fr cs h ls l args=.go ⟨⟨r.fn,r.nt,false,some l⟩,e',[.code a,.begin,.code b],[],.run⟩ (fr::cs) h ls:=fun fr cs ls hl=>by
  simp only[oa,ah.s8,ch,hl]
 cases al with
 | @n d o aw az ap hq=>
   obtain⟨ψ,an,ag,Z,ao⟩:=hq;by_cases ae:aw=[]
   ·subst ae;change SH ψ o (an++((some l,.loop r)::ad))at Z;have ay:=Z.vF (.loop {r with state:=.busy});obtain⟨aB,am,I⟩:=ao _ _ ay _ ap;have go:∀fr cs ls,eX l ls=some ⟨l,a,b⟩->∃xs,eX l (xs++ls)=some ⟨l,a,b⟩/\Reach F (oa fr cs h ls l args) (.go ⟨⟨r.fn,r.nt,false,some l⟩,d,eF b [],[],.run⟩ (fr::cs) (o.put l (.loop {r with state:=.busy})) (xs++ls)):=by
     intro fr cs ls hl;rw[hd fr cs ls hl];obtain⟨x,hx,hr⟩:=ac [.begin,.code b] [] (fr::cs) ls hl (fun _ _ _ _ d=>by cases d);cases hx with|n _ _ _ xs hk=>
     refine⟨xs,hk.1,(lG _ _ _ _ _ _ _ _).trans (hr.trans (.trans (.one ?_) (lG _ _ _ _ _ _ _ _)))⟩;show hG F ⟨r.fn,r.nt,false,some l⟩ d [.code b] [] (fr::cs) o (xs++ls) .begin=_;simp only[hG,Z.s8,av]
    have fin:∀(M:T V) (td:List Item) (aj:Hp) (j:Option k6),aj.get l=some (.loop {r with state:=.busy})->∀fr cs ls,nl ⟨⟨r.fn,r.nt,false,some l⟩,M,td,[],.run⟩ (fr::cs) aj ls j=finish fr (.bool (match j with|none=>true|some _=>false)) cs (aj.put l (.loop {r with state:=match j with|none=>.ready|some _=>.done,pending:=j})) ls:=by
     intro M td aj j au fr cs ls;cases j<;>simp only[nl,au,doReturn,bw]
    cases am with
    | @n M aj W ai ar hq=>
      obtain⟨L,Q,U,B,S⟩:=hq;by_cases D:W=[]
      ·subst D;change SH L aj (Q++((some l,.loop {r with state:=.busy})::ad))at B;refine⟨true,aj.put l (.loop {r with state:=.ready,pending:=none}),fun fr cs ls hl=>?_,L,_,ag.trans U,(B.vF _).s7,S⟩;obtain⟨xs,A,h0⟩:=go fr cs ls hl;obtain⟨x,hx,hr⟩:=I [] [] (fr::cs) (xs++ls) A (fun _ _ _ _ d=>by cases d);cases hx with|n _ _ _ G hk=>
       refine⟨G++xs,by rw[bp];exact hk.1,h0.trans (hr.trans (.trans (.one (fin _ _ _ none B.s8 _ _ _)) ?_))⟩;rw[bp];exact .refl _
      ·refine⟨true,aj,fun fr cs ls hl=>?_,?_⟩
       ·obtain⟨xs,A,h0⟩:=go fr cs ls hl;obtain⟨x,hx,hr⟩:=I [] [] (fr::cs) (xs++ls) A (fun _ _ _ _ d=>by cases d);cases hx with|n _ _ _ G hk=>exact absurd (hk.2 (by intro e;cases e)) D
       ·exfalso;obtain⟨xs,A,h0⟩:=go ⟨⟨0,0,false,none⟩,.E,[],[],.run⟩ [] [⟨l,a,b⟩] (by simp[eX,(Pa.beq_iff l l).2 rfl]);obtain⟨x,hx,hr⟩:=I [] [] (⟨⟨0,0,false,none⟩,.E,[],[],.run⟩::[]) (xs++[(⟨l,a,b⟩:LE)]) A (fun _ _ _ _ d=>by cases d);cases hx with|n _ _ _ G hk=>exact absurd (hk.2 (by intro e;cases e)) D
    |x _ hq=>obtain⟨_,_,_,_,h⟩:=hq;exact h.elim
    | @r M aj W ai ar hq=>
      obtain⟨L,Q,U,B,S⟩:=hq;by_cases D:W=[]
      ·subst D;change SH L aj (Q++((some l,.loop {r with state:=.busy})::ad))at B;refine⟨false,aj.put l (.loop {r with state:=.done,pending:=some .ret}),fun fr cs ls hl=>?_,L,_,ag.trans U,(B.vF _).s7,S⟩;obtain⟨xs,A,h0⟩:=go fr cs ls hl;obtain⟨x,hx,hr⟩:=I [] [] (fr::cs) (xs++ls) A (fun _ _ _ _ d=>by cases d);cases hx with|r _ _ _ td G hk=>
       refine⟨G++xs,by rw[bp];exact hk.1,h0.trans (hr.trans ?_)⟩;rw[bp];exact .of_eq (fin _ _ _ (some .ret) B.s8 _ _ _)
      ·exfalso;obtain⟨xs,A,h0⟩:=go ⟨⟨0,0,false,none⟩,.E,[],[],.run⟩ [] [⟨l,a,b⟩] (by simp[eX,(Pa.beq_iff l l).2 rfl]);obtain⟨x,hx,hr⟩:=I [] [] (⟨⟨0,0,false,none⟩,.E,[],[],.run⟩::[]) (xs++[(⟨l,a,b⟩:LE)]) A (fun _ _ _ _ d=>by cases d);cases hx with|r _ _ _ td G hk=>exact absurd (hk.2 (by intro e;cases e)) D
    |p _ hq=>obtain⟨_,_,_,_,h⟩:=hq;exact h.elim
   ·exfalso;obtain⟨x,hx,hr⟩:=ac [.begin,.code b] [] [] [⟨l,a,b⟩] (by show eX l _=_;simp[eX,(Pa.beq_iff l l).2 rfl]) (fun _ _ _ _ d=>by cases d);cases hx with|n _ _ _ xs hk=>exact absurd (hk.2 (by intro e;cases e)) ae
 |x _ hq=>obtain⟨_,_,_,_,h⟩:=hq;exact h.elim
 |r _ hq=>obtain⟨_,_,_,_,h⟩:=hq;exact h.elim
 |p _ hq=>obtain⟨_,_,_,_,h⟩:=hq;exact h.elim
def Jr (Q:bz) (E:Env) (l:Pa):bz where
 n:=fun _ ψ h=>∃r d,h=(some l,.loop r)::d/\r.state≠.busy/\((r.pending=none/\Q.n E ψ d)\/(r.pending=some .ret/\Q.r E ψ d))
 x:=fun _ _ _ _=>False
 r:=fun _ ψ h=>∃r d,h=(some l,.loop r)::d/\r.state≠.busy/\((r.pending=none/\Q.n E ψ d)\/(r.pending=some .ret/\Q.r E ψ d))
 p:=fun _ _ _ _=>False
theorem SW.ze [eY K] {Q:bz} {f:Od} {ps:List Pa} {a b:IC ak} {g:Nat} {a2:List V} {D:fO} (ag:F g=some (.code D)) (az:D.res=[])
 (hw:∀(l:Pa) (e:T V),bY e E->SW F (pN g D.nt l a b) D.body (fT 0 (.fp l::a2)) O ((some l,.loop {state:=.ready,pending:=none,fn:=K.k.fn,nt:=K.k.nt,env:=e,params:=ps})::R) (Jr Q E l))
 (av:ay E f (.fn g a2):=by exact .t rfl) (hk:K.k.round=none:=by rfl):SW F K (.rangeFunc f ps a b) E O R Q:=by
 intro ad h sh e he;have aC:SH O (h.alloc (.c4 true)) ((some h.next,.c4 true)::(R++ad)):=sh.alloc _;have an:=aC.alloc (.loop {state:=.ready,pending:=none,fn:=K.k.fn,nt:=K.k.nt,env:=e,params:=ps});have aA:(h.alloc (.c4 true)).next=h.next.succ:=rfl;rw[aA]at an;have aD:SH O ((h.alloc (.c4 true)).alloc (.loop {state:=.ready,pending:=none,fn:=K.k.fn,nt:=K.k.nt,env:=e,params:=ps})) (((some h.next.succ,.loop {state:=.ready,pending:=none,fn:=K.k.fn,nt:=K.k.nt,env:=e,params:=ps})::R)++((some h.next,.c4 true)::ad)):=by
  refine an.pick (fun j=>if j=0 then 0 else if j<=R.length then j+1 else if j=R.length+1 then 1 else j) (fun j x hj=>?_) (fun p q _ _ e=>by(split at e<;>split at e<;>(try split at e)<;>(try split at e)<;>(try split at e)<;>(try split at e)<;>omega));cases j with
  |zero=>exact hj
  |succ j=>
   rw[ab (by omega)];rw[k3,dF]at hj;by_cases o:j<R.length
   ·rw[ae (by omega),dF,dF,dt o];rw[dt o]at hj;exact hj
   ·rw[db (by omega)]at hj;rw[ab (by omega)];by_cases aj:j=R.length
    ·subst aj;rw[iG,gd]at hj;rw[ae rfl];exact hj
    ·rw[ab (by omega)];obtain⟨q,hq⟩:∃q,j=R.length+q+1:=⟨j-R.length-1,by omega⟩
     subst hq;rw[show R.length+q+1-R.length=q+1 by omega,dF]at hj;rw[show R.length+q+1+1=(R.length+q)+1+1 from rfl,dF,dF,db (by omega),mV];exact hj
 obtain⟨aE,ap,ac⟩:=hw h.next.succ e he _ _ aD _ (pF (.fp h.next.succ::a2));have h0:∀k ds cs ls,Reach F (.go ⟨K.k,e,eF (.rangeFunc f ps a b) k,ds,.run⟩ cs h ls) (.go ⟨⟨g,D.nt,false,none⟩,fP (.fp h.next.succ::a2) .z .E,eF D.body [],[],.run⟩ (⟨K.k,e,.gQ h.next.succ::k,.mark h.next::ds,.run⟩::cs) ((h.alloc (.c4 true)).alloc (.loop {state:=.ready,pending:=none,fn:=K.k.fn,nt:=K.k.nt,env:=e,params:=ps})) (⟨h.next.succ,a,b⟩::ls)):=by
  intro k ds cs ls;refine .trans (.one ?_) (lG _ _ _ _ _ _ _ _);show hZ F K.k e k ds cs h ls (.rangeFunc f ps a b)=_;simp only[hZ,hk,av e he,ag];rfl
 have ai:∀ls,eX h.next.succ (⟨h.next.succ,a,b⟩::ls)=some ⟨h.next.succ,a,b⟩:=fun ls=>by simp[eX,(Pa.beq_iff h.next.succ h.next.succ).2 rfl]
 have back:∀(B:T V) (td:List Item) (ms:List Pa) (aj:Hp) (r:l8),jC ms aj->(kill ms aj).get h.next.succ=some (.loop r)->r.state≠.busy->∀Z,r.pending=Z->∀k ds cs ls,Reach F (.go ⟨⟨g,D.nt,false,none⟩,B,td,marks ms [],.returning⟩ (⟨K.k,e,.gQ h.next.succ::k,.mark h.next::ds,.run⟩::cs) aj ls) (.go ⟨K.k,e,r2 Z++k,.mark h.next::ds,.run⟩ cs ((kill ms aj).put h.next.succ (.loop {r with state:=.exhausted})) ls):=by
  intro B td ms aj r ha aw M Z aB k ds cs ls;subst aB;refine(mu (fr:=⟨⟨g,D.nt,false,none⟩,B,td,[],.returning⟩) ms ha (by intro e;cases e)).trans ?_;refine .trans (b:=.go ⟨K.k,e,.j2 h.next.succ::k,.mark h.next::ds,.run⟩ cs (kill ms aj) ls) (.one ?_) (.one ?_)
  ·show unwind F ⟨⟨g,D.nt,false,none⟩,B,td,[],.returning⟩ (⟨K.k,e,.gQ h.next.succ::k,.mark h.next::ds,.run⟩::cs) (kill ms aj) ls=_;simp only[unwind,ag,az,hY,doReturn,bw,finish]
  ·show hG F K.k e k (.mark h.next::ds) cs (kill ms aj) ls (.j2 h.next.succ)=_;simp only[hG,aw]
 have tail:∀(ψ:Fz) (d:Hp) (ms:List Pa) (r:l8) (A:List Ob),O.Le ψ->SH ψ d (((some h.next.succ,.loop r)::A)++(c9 ms++((some h.next,.c4 true)::ad)))->jC ms d/\(kill ms d).get h.next.succ=some (.loop r)/\SH ψ ((kill ms d).put h.next.succ (.loop {r with state:=.exhausted})) (A++(c9 [h.next]++ad)):=by
  intro ψ d ms r A G S;obtain⟨Y,W⟩:=iU ms S;exact⟨Y,(W.own 0 _ _ rfl).1,((W.put (i:=0) rfl (.loop {r with state:=.exhausted})).erase 0)⟩
 have key:∀(ψ:Fz) (d:Hp) (ms:List Pa) (r:l8) (A:List Ob),O.Le ψ->SH ψ d (((some h.next.succ,.loop r)::A)++(c9 ms++((some h.next,.c4 true)::ad)))->r.state≠.busy->((r.pending=none/\Q.n E ψ A)\/(r.pending=some .ret/\Q.r E ψ A))->
  (∀k ds cs ls,∃(B:T V) (td:List Item) (xs:List LE),Reach F (.go ⟨⟨g,D.nt,false,none⟩,fP (.fp h.next.succ::a2) .z .E,eF D.body [],[],.run⟩ (⟨K.k,e,.gQ h.next.succ::k,.mark h.next::ds,.run⟩::cs) ((h.alloc (.c4 true)).alloc (.loop {state:=.ready,pending:=none,fn:=K.k.fn,nt:=K.k.nt,env:=e,params:=ps})) (⟨h.next.succ,a,b⟩::ls)) (.go ⟨⟨g,D.nt,false,none⟩,B,td,marks ms [],.returning⟩ (⟨K.k,e,.gQ h.next.succ::k,.mark h.next::ds,.run⟩::cs) d (xs++(⟨h.next.succ,a,b⟩::ls))))->
  ∃r,(Q.at O ad).Holds r/\∀k ds cs ls,K.L ls->lF r k->∃x,Ends K k ds cs ls r x/\Reach F (.go ⟨K.k,e,eF (.rangeFunc f ps a b) k,ds,.run⟩ cs h ls) x:=by
  intro ψ d ms r A G S M hq ah;obtain⟨Y,am,W⟩:=tail ψ d ms r A G S;have al:K.k.round≠none->[h.next]=[]:=fun q=>absurd hk q;rcases hq with⟨hp,hq⟩|⟨hp,hq⟩
  ·refine⟨.n e ((kill ms d).put h.next.succ (.loop {r with state:=.exhausted})) [h.next],.n he ⟨ψ,A,G,W,hq⟩,fun k ds cs ls hL ho=>?_⟩;obtain⟨B,td,xs,hr⟩:=ah k ds cs ls;have U:=back B td ms d r Y am M _ hp k ds cs (xs++(⟨h.next.succ,a,b⟩::ls));have I:xs++((⟨h.next.succ,a,b⟩:LE)::ls)=(xs++[⟨h.next.succ,a,b⟩])++ls:=by simp
   rw[I]at hr U;exact⟨_,.n _ _ _ (xs++[(⟨h.next.succ,a,b⟩:LE)]) ⟨eY.up _ _ hL,al⟩,(h0 k ds cs ls).trans (hr.trans U)⟩
  ·refine⟨.r e ((kill ms d).put h.next.succ (.loop {r with state:=.exhausted})) [h.next],.r he ⟨ψ,A,G,W,hq⟩,fun k ds cs ls hL ho=>?_⟩;obtain⟨B,td,xs,hr⟩:=ah k ds cs ls;have U:=back B td ms d r Y am M _ hp k ds cs (xs++(⟨h.next.succ,a,b⟩::ls));have I:xs++((⟨h.next.succ,a,b⟩:LE)::ls)=(xs++[⟨h.next.succ,a,b⟩])++ls:=by simp
   rw[I]at hr U;exact⟨_,.r _ _ _ k (xs++[(⟨h.next.succ,a,b⟩:LE)]) ⟨eY.up _ _ hL,al⟩,(h0 k ds cs ls).trans (hr.trans (U.trans (.one rfl)))⟩
 cases ap with
 | @n B d ms ao au hq=>
   obtain⟨ψ,ar,G,S,r,A,rfl,M,hq⟩:=hq;refine key ψ d ms r A G S M hq (fun k ds cs ls=>?_);obtain⟨x,hx,hr⟩:=ac [] [] (⟨K.k,e,.gQ h.next.succ::k,.mark h.next::ds,.run⟩::cs) (⟨h.next.succ,a,b⟩::ls) (ai ls) (fun _ _ _ _ I=>by cases I);cases hx with|n _ _ _ xs _=>
   exact⟨B,[],xs,hr.trans (.one rfl)⟩
 |x _ hq=>obtain⟨_,_,_,_,h⟩:=hq;exact h.elim
 | @r B d ms ao au hq=>
   obtain⟨ψ,ar,G,S,r,A,rfl,M,hq⟩:=hq;refine key ψ d ms r A G S M hq (fun k ds cs ls=>?_);obtain⟨x,hx,hr⟩:=ac [] [] (⟨K.k,e,.gQ h.next.succ::k,.mark h.next::ds,.run⟩::cs) (⟨h.next.succ,a,b⟩::ls) (ai ls) (fun _ _ _ _ I=>by cases I);cases hx with|r _ _ _ td xs _=>
   exact⟨B,td,xs,hr⟩
 |p _ hq=>obtain⟨_,_,_,_,h⟩:=hq;exact h.elim
end Go.Ev
namespace Go.Ev
abbrev Bs:=List UInt8
structure lK where
 at_:Int
 b:Bs
structure au where
 last:List Bs
 wait:List lK
 arm:Int
 down:Bool
structure aT where
 kind:Int
 gen:Int
 load:Bs
 deriving DecidableEq
structure ah where
 addr:Int
 gen:Int
 deriving DecidableEq
structure mC where
 n:Int
 seq:Int
 sum:Int
 aJ:Int
 pos:Int
structure bA where
 ino:Int
 idx:Int
 load:Bs
 deriving DecidableEq
structure cK where
 kind:Int
 id:Int
 cZ:Int
 base:Int
 done:Int
 deriving DecidableEq
structure cj where
 kind:Int
 mode:Int
 body:Bs
 deriving DecidableEq
structure aX where
 name:Bs
 ino:Int
 deriving DecidableEq
abbrev ao:=List cj
structure bC where
 r:cK
 t:ao
 deriving DecidableEq
structure aV where
 d:au
 seq:Int
 sum:Int
 aJ:Int
 pos:Int
 n:Int
 next:Int
 id:Int
 trees:List bC
def au.has (d:au) (i:Int):Bool:=!d.down&&decide (0<=i)&&decide (i<(d.last.length:Int))
def au.waits (d:au) (i:Int):Option Bs:=(d.wait.reverse.find? (fun p=>decide (p.at_=i))).map (·.b)
def au.read (d:au) (i:Int):Bs×Bool:=if d.has i then((d.waits i).getD ((d.last[i.toNat]?).getD []),true)else([],false)
def au.write (d:au) (i:Int) (b:Bs):au×Bool:=
 if !d.has i||!decide ((b.length:Int)=64)then(d,false)
 else if d.arm>0 then({d with wait:=d.wait++[⟨i,b⟩],arm:=d.arm-1,down:=decide (d.arm-1=0)},!decide (d.arm-1=0))
 else({d with wait:=d.wait++[⟨i,b⟩]},!d.down)
def gA (out:List Bs) (p:lK):List Bs:=if 0<=p.at_ then out.set p.at_.toNat p.b else out
def au.lL (d:au):List Bs:=d.wait.foldl gA d.last
def au.flush (d:au):au×Bool:=if d.down then(d,false)else({d with last:=d.lL,wait:=[]},true)
theorem Js (d:au) (h:d.wait=[]):d.lL=d.last:=by simp[au.lL,h]
theorem zf (out:List Bs) (p:lK):(gA out p).length=out.length:=by unfold gA;split<;>simp
def bM (x:Int):UInt8:=UInt8.ofNat (x%256).toNat
def le:Nat->Int->Bs
 |0,_=>[]
 |k+1,x=>bM x::le k (x/256)
def bo (n:Nat) (l:List Int):Bs:=l.flatMap (le n)
def dB:Bs->Int
 |[]=>0
 |b::l=>b.toNat+256*dB l
theorem fz (n:Nat) (x:Int):(le n x).length=n:=by induction n generalizing x with|zero=>rfl|succ n d=>simp[le,d]
theorem fW (n:Nat) (l:List Int):(bo n l).length=l.length*n:=by
 induction l with
 |nil=>simp[bo]
 |cons a l d=>simp only[bo,rS,c2,fz,b7]at*;rw[d,iH];omega
theorem s9 (k:Nat) (x:Int):le (k+1) x=le k x++[bM (x/256^k)]:=by
 induction k generalizing x with
 |zero=>simp[le]
 |succ k d=>
  rw[le,d (x/256)];show bM x::(le k (x/256)++[_])=(bM x::le k (x/256))++[_];rw[k3,Int.ediv_ediv_of_nonneg (by decide),Int.pow_succ,Int.mul_comm]
theorem ta (n:Nat) (l:List Int) (x:Int):bo n (l++[x])=bo n l++le n x:=by simp[bo]
def cf (b:Bs) (n:Nat):Int×Bool:=if n<1\/4<n\/b.length<n then(0,false)else(dB (b.take n),true)
theorem Jt (l:Bs) (b:UInt8):dB (l++[b])=dB l+b.toNat*256^l.length:=by
 induction l with
 |nil=>simp[dB]
 |cons a l d=>simp only[k3,dB,d,b7,Int.pow_succ,Int.mul_add];rw[Int.add_assoc];congr 2;rw[Int.mul_left_comm];congr 1;rw[Int.mul_comm]
theorem vG (l:Bs):0<=dB l:=by induction l with|nil=>exact ej 0|cons a l d=>simp only[dB];omega
theorem vH (l:Bs):dB l<256^l.length:=by
 induction l with
 |nil=>decide
 |cons a l d=>have:=a.toNat_lt;simp only[dB,b7,Int.pow_succ];omega
def gp (b:Bs) (s:Bs):Bs:=if 255<s.length then b else b++le 1 s.length++s
abbrev cL:=Bs×Bool
def rdNum (n:Nat) (s:cL):Int×cL:=if s.2||!(cf s.1 n).2 then(0,(s.1,true))else((cf s.1 n).1,(s.1.drop n,false))
theorem zg (l:Bs) (h:l.length<=4):dB l<4294967296:=by
 have o:=vH l;have aj:256^l.length<=256^4:=Nat.pow_le_pow_right (by decide) h;have d:(256:Int)^l.length=((256^l.length:Nat):Int):=by rw[rX];(try rfl)
 omega
def jG (x:aT):Bool:=decide (1<=x.kind)&&decide (x.kind<=5)&&decide (0<=x.gen)&&decide (x.gen<=1073741824)&&decide ((x.load.length:Int)<=55)
def gq (x:aT):Bs:=gp (le 1 x.kind++le 4 x.gen) x.load
def dn (x:aT):Bs:=if jG x then gq x++List.replicate (64-(gq x).length) 0 else[]
def lM (s:Bs):aT:=⟨((s[0]?).getD 0).toNat,dB ((s.drop 1).take 4),(s.drop 6).take (min ((s[5]?).getD 0).toNat 55)⟩
def fA:aT:=⟨0,0,[]⟩
def er (s:Bs):Option aT:=if s.length=64 then(if dn (lM s)=s then some (lM s)else none)else none
def e1 (n:Int):Bool:=decide (0<=n)&&decide (n<=1073741824)
def zh (x:mC):Bool:=e1 x.n&&decide (1<=x.n)&&e1 x.seq&&e1 x.sum&&e1 x.aJ&&e1 x.pos&&decide (x.pos<=64)
def ir (x:mC):Bs:=if zh x then dn ⟨5,x.n,bo 4 [x.seq,x.sum,x.aJ,x.pos]⟩else[]
def j5:bG lK:=⟨2,fun p=>[.int .i64 p.at_,.str p.b],fun _=>rfl,fun _=>rfl⟩
def aq:bG ah:=⟨2,fun p=>[.int .i64 p.addr,.int .i64 p.gen],fun _=>rfl,fun _=>rfl⟩
def bu:bG aT:=⟨3,fun x=>[.int .i64 x.kind,.int .i64 x.gen,.str x.load],fun _=>rfl,fun _=>rfl⟩
def bq:bG bA:=⟨3,fun x=>[.int .i64 x.ino,.int .i64 x.idx,.str x.load],fun _=>rfl,fun _=>rfl⟩
def df:bG cK:=⟨5,fun x=>[.int .i64 x.kind,.int .i64 x.id,.int .i64 x.cZ,.int .i64 x.base,.int .i64 x.done],fun _=>rfl,fun _=>rfl⟩
def aG:bG cj:=⟨3,fun x=>[.int .i64 x.kind,.int .i64 x.mode,.str x.body],fun _=>rfl,fun _=>rfl⟩
def cC:bG aX:=⟨2,fun x=>[.str x.name,.int .i64 x.ino],fun _=>rfl,fun _=>rfl⟩
theorem FS.ax {O:Fz} {v:V} {k n:Nat} {cs:List V} (h:FS O v k n cs):isScalar v=true:=by rcases h.2 with⟨rfl,_⟩|⟨_,_,_,_,_,rfl,_⟩<;>rfl
theorem OV.ax {v:V} {k n:Nat} {cs:List V} {s:Option Pa} (h:OV v k n cs s):isScalar v=true:=by rcases h.2.2 with⟨rfl,_⟩|⟨_,rfl,_⟩|⟨_,rfl,_⟩<;>rfl
theorem aa.ax {U:Type} {e:bG U} {O:Fz} {v:V} {l:List U} (h:aa e O v l):isScalar v=true:=FS.ax h
theorem af.ax {U:Type} {e:bG U} {v:V} {l:List U} {s:Option Pa} (h:af e v l s):isScalar v=true:=OV.ax h
theorem kL (b:Bool):c7 (.bool b) (.bool b)=true:=by cases b<;>rfl
theorem tb (k:IntKind) (n:Int):same (.int k n) (.int k n)=true:=by
 show c7 (.int k n) (.int k n)=true;exact e0 k n
theorem tc (s:Bs):same (.str s) (.str s)=true:=by
 show c7 (.str s) (.str s)=true;exact fx s
theorem FS.same {O:Fz} {v:V} {k n:Nat} {cs:List V} (h:FS O v k n cs):same v v=true:=by
 rcases h.2 with⟨rfl,_⟩|⟨a,I,c,_,_,rfl,_⟩
 ·rfl
 ·cases c with
  |ex c=>show((a.beq a&&Nat.beq I I)&&(Nat.beq n n&&Nat.beq c c))=true;rw[dU,dU,dU,(Pa.beq_iff a a).2 rfl];(try rfl)
  |un c=>show((a.beq a&&Nat.beq I I)&&(Nat.beq n n&&Nat.beq c c))=true;rw[dU,dU,dU,(Pa.beq_iff a a).2 rfl];(try rfl)
def cu (O:Fz) (cs:List V) (d:au):Prop:=∃h wv,cs=[h,wv,.int .i64 d.arm,.bool d.down]/\aa dA O h d.last/\aa j5 O wv d.wait
theorem cu.mono {O ψ:Fz} {cs:List V} {d:au} (h:cu O cs d) (j:O.Le ψ):cu ψ cs d:=let⟨B,wv,o,aj,A⟩:=h;⟨B,wv,o,aj.mono j,A.mono j⟩
theorem cu.open {O:Fz} {cs:List V} {d:au} (h:cu O cs d):∃j wv,cs=[j,wv,.int .i64 d.arm,.bool d.down]/\aa dA O j d.last/\aa j5 O wv d.wait/\isScalar j=true/\isScalar wv=true:=
 let⟨j,wv,o,aj,A⟩:=h;⟨j,wv,o,aj,A,aj.ax,A.ax⟩
theorem zi {q:cy} {x:Int} {k:Nat} (hk:k<=7):b0 .shr q (.int .i64 x) (.int .i64 (8*(k:Int)))=some (.int .i64 (x/256^k)):=by
 show nc false .i64 x (8*(k:Int))=_;have h0:gM (8*(k:Int)) 0=false:=by rw[mf];simp;omega
 simp only[nc,h0,bw];have o:(8*(k:Int)).toNat=8*k:=by omega
 have aj:min (8*k) (IntKind.bits .i64)=8*k:=by simp[IntKind.bits];omega
 have e:(2:Int)^(8*k)=256^k:=by
  have:(256:Nat)^k=2^(8*k):=by rw[Nat.pow_mul]
  have h:=congrArg (fun(n:Nat)=>(n:Int)) this;simp only[rX]at h;exact h.symm
 rw[o,aj,e,Int.fdiv_eq_ediv_of_nonneg _ (Int.pow_nonneg (by decide))]
theorem te (x:Int):V.int .u8 (ek .u8 x)=cz (bM x):=by
 have h:ek .u8 x=x%256:=by rw[nr];simp[IntKind.wrap,IntKind.signed,IntKind.bits]
 show _=V.int .u8 (Int.ofNat (bM x).toNat);rw[h];congr 1;show _=(((bM x).toNat:Nat):Int);unfold bM;have h0:0<=x%256:=Int.emod_nonneg _ (by decide);have o:x%256<256:=Int.emod_lt_of_pos _ (by decide);rw[UInt8.toNat_ofNat',qd (by omega)];omega
theorem vI {q:cy} {j:Nat} (h:1<=j) (aj:j<=4611686018427387904):b0 .sub q (.int .i64 (j:Int)) (.int .i64 1)=some (.int .i64 ((j-1:Nat):Int)):=by
 rw[fU (by omega) (by omega),show(j:Int)-1=((j-1:Nat):Int) by omega]
theorem vJ (b:UInt8):ek .i64 (b.toNat:Int)=(b.toNat:Int):=sQ .i64 (by have:=o7 b;show _<=9223372036854775807;omega)
theorem mA.s {O:Fz} {R:List Ob} (l:Bs):mA aU O R (.str l) l:=by
 unfold mA;rw[lI];exact Src.s
theorem aa.bytes {O:Fz} {h:Hp} {R:List Ob} {v:V} {l:Bs} (hs:aa aU O v l) (sh:SH O h R):Sl h v 1 l.length (l.map cz):=by
 have:=FS.sl hs sh;rw[lI]at this;exact this
theorem af.bytes {O:Fz} {h:Hp} {R ad:List Ob} {v:V} {l:Bs} {s:Option Pa} {i:Nat} (ho:af aU v l s) (hi:R[i]? =some (aU.ob s l)) (sh:SH O h (R++ad)):Sl h v 1 l.length (l.map cz):=by
 have:=OV.sl ho hi sh;rw[lI]at this;exact this
theorem tf {s:Bs} {i j:Nat} (d:i<=j) (hj:j<=s.length):gO (.str s) (some (.int .i64 (i:Int))) (some (.int .i64 (j:Int)))=some (.str ((s.drop i).take (j-i))):=by
 simp only[Go.Ev.gO,sW d hj,lq];rw[pD (by rw[bW];omega)]
theorem Ju {s:Bs} {i:Nat} (hi:i<=s.length):gO (.str s) (some (.int .i64 (i:Int))) none=some (.str (s.drop i)):=by
 simp only[Go.Ev.gO,oA hi (aB _),lq];rw[pD (by rw[bW];exact aB _),<-bW,dT]
namespace S
variable{F:Nat->Option aP} {K:KX} {E:Env} {O:Fz} {R:List Ob} {Q:bz} {rs:List Op} {d:Nat} {g:Option (Pa×Bool)}
theorem fB {y x:Od} {a:Pa} {I:Nat} {v:V} {cs l':List V} (i:Nat) (hn:SA F K rs E O (R.set i (some a,.cells l' false)) Q) (ha:ay E y (.ptr a I):=by exact .t rfl) (hx:ay E x v:=by exact .t rfl) (hv:isScalar v=true:=by assumption) (hi:R[i]? =some (some a,.cells cs false):=by rfl) (ch:cT I cs [v]=some l':=by rfl) (hw:aA E g .yes:=by first|exact .none|exact .yes rfl):
 SR F K (.op ⟨none,fa 1 y x,g⟩::Op.aK rs) E O R Q:=store i hn ha hx hi (by rw[gV hv];exact ch) (by rw[gV hv];(try rfl)) (by rw[gV hv];simp[aY,hv]) hw
theorem iY {x:Od} {b:UInt8} (hn:SA F K rs ((d,.int .i64 (b.toNat:Int))::E) O R Q) (hx:ay E x (cz b):=by exact .t rfl) (hw:aA E g .yes:=by first|exact .none|exact .yes rfl):SR F K (.op ⟨some (pa d),cH .i64 x,g⟩::Op.aK rs) E O R Q:=
 mw (k:=.i64) (j:=.u8) (n:=(b.toNat:Int)) (by rw[vJ];exact hn) hx hw
theorem tg {x:Od} {v:V} {l:Bs} (hs:aa aU O v l) (hn:SA F K rs ((d,.str l)::E) O R Q) (hx:ay E x v:=by exact .t rfl) (hw:aA E g .yes:=by first|exact .none|exact .yes rfl):SR F K (.op ⟨some (pa d),dk x,g⟩::Op.aK rs) E O R Q:=
 sJ (fun _ _ sh=>hs.bytes sh) hn hx hw
theorem hM {x:Od} {v:V} {l:Bs} {s:Option Pa} (i:Nat) (ho:af aU v l s) (hn:SA F K rs ((d,.str l)::E) O R Q) (hi:R[i]? =some (aU.ob s l):=by rfl) (hx:ay E x v:=by exact .t rfl) (hw:aA E g .yes:=by first|exact .none|exact .yes rfl):SR F K (.op ⟨some (pa d),dk x,g⟩::Op.aK rs) E O R Q:=
 sJ (fun _ _ sh=>ho.bytes hi sh) hn hx hw
theorem jH {x:Od} {s:Bs} (hn:∀v ψ,O.Le ψ->aa aU ψ v s->SA F K rs ((d,v)::E) ψ R Q) (hx:ay E x (.str s):=by first|exact .t rfl|exact .c) (hw:aA E g .yes:=by first|exact .none|exact .yes rfl):SR F K (.op ⟨some (pa d),fN x,g⟩::Op.aK rs) E O R Q:=
 fun W _ sh=>ad.sL hw hx (bL (rs:=rs) (R:=(_,.cells (s.map cz) false)::R) 0 (⟨by simp,vu s,.inr (.inl ⟨_,rfl,rfl⟩)⟩:OV _ 1 s.length (s.map cz) _) rfl (fun ψ o aj=>hn _ ψ o (by unfold aa;rw[lI];exact aj)) W _ (sh.alloc _))
theorem Jv {x:Od} {s:Bs} (hn:∀a,af aU (.sl a 0 s.length (.un 1)) s (some a)->SA F K rs ((d,.sl a 0 s.length (.un 1))::E) O (aU.ob (some a) s::R) Q) (hx:ay E x (.str s):=by first|exact .t rfl|exact .c) (hw:aA E g .yes:=by first|exact .none|exact .yes rfl):SR F K (.op ⟨some (pa d),fN x,g⟩::Op.aK rs) E O R Q:=
 sL (fun a ho=>by
  have o:af aU (.sl a 0 s.length (.un 1)) s (some a):=by unfold af;rw[lI];exact ho
  have:=hn a o;unfold bG.ob at this
  rwa [lI]at this) hx hw
theorem pO {U:Type} {e:bG U} {z sd:List V} {n:Nat} {ps:List (Nat×Nat×Od)} (l:List U) (hn:∀v ψ,O.Le ψ->aa e ψ v l->SA F K rs ((d,v)::E) ψ R Q) (h:ny E ps z=some (e.fl l,sd):=by rfl) (hl:l.length=n:=by rfl) (dl:aY sd=true:=by first|rfl|simp[aY,V.cells,iV,kI,jF,nz,nA,kJ,nB,nC, *]) (hw:aA E g .yes:=by first|exact .none|exact .yes rfl):SR F K (.op ⟨some (pa d),aH z n ps,g⟩::Op.aK rs) E O R Q:=
 fun W _ sh=>ad.a8 hw (pJ h dl) (iW l) (cd (rs:=rs) (R:=(_,.cells (e.fl l) false)::R) 0 (l:=l) (af.new hl) (fun ψ o aj=>hn _ ψ o aj) rfl W _ (sh.alloc _))
theorem bE {x:Od} {a:Pa} {I:Nat} {u:V} {cs:List V} (i:Nat) (hn:SA F K rs E O R Q) (hd:lk d E=some u:=by rfl) (hx:ay E x (.ptr a I):=by exact .t rfl) (hi:R[i]? =some (some a,.cells cs false):=by rfl) (hu:cs[I]? =some u:=by rfl) (hs:same u u=true:=by first|rfl|exact tb _ _|exact tc _|exact kL _|exact FS.same (by assumption)) (hw:aA E g .yes:=by first|exact .none|exact .yes rfl):
 SR F K (.bX ⟨some (pa d),b2 none x,g⟩::Op.aK rs) E O R Q:=fun W h sh=>ad.sU hw hd hx (by have:=(eZ.of (sh.fy hi) rfl).one hu;rwa [eV]at this) hs (S.r hn W h sh)
theorem th {x:Od} {p u:V} {xs:List V} (hn:SA F K rs E O R Q) (hd:lk d E=some u:=by rfl) (hx:ay E x p:=by exact .t rfl) (hp:EP O p xs:=by assumption) (hu:xs[0]? =some u:=by rfl) (hs:same u u=true:=by first|rfl|exact tb _ _|exact tc _|exact kL _|exact FS.same (by assumption)) (hw:aA E g .yes:=by first|exact .none|exact .yes rfl):
 SR F K (.bX ⟨some (pa d),b2 none x,g⟩::Op.aK rs) E O R Q:=fun W h sh=>ad.sU hw hd hx (hp.vz hu sh) hs (S.r hn W h sh)
theorem oE {U:Type} {e:bG U} {z:List V} {h:Nat} {l c:Od} {n:Nat} {k j:IntKind} (z0:U) (hm:n<=1073741824) (o:h<=65536) (hn:∀a,af e (.sl a 0 n (.ex n)) (List.replicate n z0) (some a)->SA F K rs ((d,.sl a 0 n (.ex n))::E) O (e.ob (some a) (List.replicate n z0)::R) Q) (hz:z=e.f z0:=by rfl) (hl:ay E l (.int k (n:Int)):=by first|exact .t rfl|exact .c) (hc:ay E c (.int j (n:Int)):=by first|exact .t rfl|exact .c) (hw:aA E g .yes:=by first|exact .none|exact .yes rfl):
 SR F K (.op ⟨some (pa d),hT z h l c,g⟩::Op.aK rs) E O R Q:=by
 subst hz;have hr:∀n,c5 (e.f z0) n=e.fl (List.replicate n z0):=fun n=>by
  induction n with
  |zero=>rfl
  |succ n A=>show e.f z0++c5 (e.f z0) n=_;rw[A,rP];(try rfl)
 refine ox (aB n) hm o (fun a=>?_) hl hc hw;rw[hr];exact hn a (af.new (by simp))
theorem pk {U:Type} {e:bG U} {v:V} {l:List U} {s:Option Pa} {k n:Nat} {z:List V} {z0:U} {y x:Od} {q:IntKind} (i:Nat) (ho:af e v l s) (hz:z=e.f z0) (B:l.length+n<=1073741824) (hn:∀v' s',af e v' (l++List.replicate n z0) s'->SA F K rs ((d,v')::E) O (R.set i (e.ob s' (l++List.replicate n z0))) Q) (D:0<e.k:=by decide) (hi:R[i]? =some (e.ob s l):=by rfl) (hk:k=e.k:=by rfl) (L:ay E y v:=by first|exact .t rfl|exact .c) (hx:ay E x (.int q (n:Int)):=by first|exact .t rfl|exact .c) (hw:aA E g .yes:=by first|exact .none|exact .yes rfl):
 SR F K (.op ⟨some (pa d),uo k z y x,g⟩::Op.aK rs) E O R Q:=fun W h sh=>by
 subst hk;subst hz;have hr:∀n,c5 (e.f z0) n=e.fl (List.replicate n z0):=fun n=>by
  induction n with
  |zero=>rfl
  |succ n M=>show e.f z0++c5 (e.f z0) n=_;rw[M,rP];(try rfl)
 have G:(c5 (e.f z0) n).length=n*e.k:=by rw[hr,gz,k0]
 obtain⟨v',s',h',Y,k2,j⟩:=OV.jX (m:=n) (xs:=c5 (e.f z0) n) (k:=e.k) sh hi ho G (by rw[hr];exact iW _) D B;have A:e.fl l++c5 (e.f z0) n=e.fl (l++List.replicate n z0):=by rw[hr,nD]
 rw[A]at k2 j;have o:af e v' (l++List.replicate n z0) s':=by unfold af;rw[c2,k0];exact k2
 refine ad.st hw (fun e' he=>?_) (S.r (hn v' s' o) W h' j);have I:x.ev e'=.int q (.ofNat n):=hx e' he;simp only[Go.Ev.pk,L e' he,I,gj,hA (show n<=1073741824 by omega),aE,Y]
end S
def iu:Bs->Bs->Bool
 |[],b=>!b.isEmpty
 |a::x,b=>match b with|[]=>false|c::y=>if a.toNat<c.toNat then true else if c.toNat<a.toNat then false else iu x y
def oF (c:UInt8):Bool:=decide ((c.toNat:Int)<33)||decide ((126:Int)<(c.toNat:Int))||decide ((c.toNat:Int)=47)
def et (s:Bs):Bool:=s.all (fun c=>!oF c)&&(decide ((1:Int)<=(s.length:Int))&&decide ((s.length:Int)<=6))
def vK (s:Bs):Bool:=et s&&!decide (s.head? =some 126)
def mD (own:Bool) (name:Bs) (n:Nat):Bool:=!et name||(!own&&!vK name)||decide (8<=n)
def fX (own:Bool):Bs->Bs->List Bs->Option (List Bs)
 |[],name,out=>if mD own name out.length then none else some (out++[name])
 |c::r,name,out=>if c.toNat=47 then(if mD own name out.length then none else fX own r [] (out++[name]))else fX own r (name++[c]) out
def parts (path:Bs) (own:Bool):Option (List Bs):=if path=[47]then some []else match path with
 |[]=>none
 |c::r=>if c.toNat=47 then fX own r [] []else none
def oG (e:aX):Bs:=le 1 e.name.length++e.name++le 1 e.ino
def mE (prev:Option Bs) (e:aX) (s:Bs):Bool:=!et e.name||decide (e.ino<1)||decide (9<e.ino)||(match prev with|some p=>!iu p e.name|none=>false)||decide (120<s.length)
def eu:Option Bs->Bs->List aX->Option Bs
 |_,s,[]=>if 120<s.length then none else some s
 |prev,s,e::r=>if mE prev e s then none else eu (some e.name) (s++oG e) r
def eK (l:List aX):Option Bs:=eu none [] l
def gr:Nat->Bs->List aX->Option (List aX)
 |_,[],d=>some d
 |0,_::_,_=>none
 |f+1,c::r,d=>if 6<c.toNat\/r.length<c.toNat+1 then none else gr f (r.drop (c.toNat+1)) (d++[⟨r.take c.toNat,((r[c.toNat]?).getD 0).toNat⟩])
def cv (body:Bs):Option (List aX):=match gr body.length body []with
 |none=>none
 |some l=>if eK l=some body then some l else none
def fe (l:List aX) (name:Bs):Option Int:=(l.find? (fun e=>decide (e.name=name))).map (·.ino)
def iZ (e:aX):List aX->List aX
 |[]=>[e]
 |x::r=>if iu e.name x.name then e::x::r else x::iZ e r
def iv (l:List aX) (e:aX):List aX×Bool:=if(fe l e.name).isSome then(l,false)else(iZ e l,true)
def ja (l:List aX) (name:Bs):List aX×Bool:=if(fe l name).isSome then(l.filter (fun e=>!decide (e.name=name)),true)else(l,false)
def ef:cj:=⟨0,0,[]⟩
def nG:ao:=⟨2,7,[]⟩::List.replicate 8 ef
def nodeAt (t:ao) (ino:Int):cj:=(t[(ino-1).toNat]?).getD ef
def aW (t:ao) (ino:Int):List aX:=if ino<1\/(t.length:Int)<ino\/(nodeAt t ino).kind≠2 then[]else(cv (nodeAt t ino).body).getD []
def bump (named:List Int) (e:aX):List Int:=named.modify e.ino.toNat (·+1)
def j6 (n:cj) (nm:List Int):Option (List Int):=if n.mode<0\/255<n.mode\/120<n.body.length then none else some nm
def ff (nm:List Int) (n:cj):Option (List Int):=
 if n.kind=0 then(if n=ef then some nm else none)else if n.kind=1 then j6 n nm
 else if n.kind=2 then(match cv n.body with|none=>none|some l=>j6 n (l.foldl bump nm))else none
def j7:List cj->List Int->Option (List Int)
 |[],nm=>some nm
 |n::r,nm=>match ff nm n with|none=>none|some d=>j7 r d
def pP (t:ao):Option (List Int):=j7 t (List.replicate 10 0)
def mark (seen:List Bool) (e:aX):List Bool:=seen.set e.ino.toNat true
def jb (t:ao) (seen:List Bool) (i:Nat):List Bool:=if(seen[i]?).getD false then(aW t i).foldl mark seen else seen
def iw (t:ao) (seen:List Bool):List Bool:=[1,2,3,4,5,6,7,8,9].foldl (jb t) seen
def jI (t:ao):Nat->List Bool->List Bool
 |0,s=>s
 |k+1,s=>jI t k (iw t s)
def eg (t:ao):List Bool:=jI t 9 ((List.replicate 10 false).set 1 true)
def jJ (t:ao) (nm:List Int) (seen:List Bool) (i:Nat):Bool:=
 let there:=!decide ((nodeAt t i).kind=0)
 let n:=(nm[i]?).getD 0
 (decide (0<n)&&!there)||(there&&!((seen[i]?).getD false))||(decide ((i:Int)=1)&&decide (0<n))||(decide ((1:Int)<i)&&decide ((nodeAt t i).kind=2)&&!decide (n=1))
def bH (t:ao):Bool:=if t.length=9/\(nodeAt t 1).kind=2 then(match pP t with
 |none=>false
 |some nm=>[1,2,3,4,5,6,7,8,9].all (fun i=>!jJ t nm (eg t) i))else false
def hO (t:ao):Int->List Bs->Int×Int
 |at_,[]=>(at_,0)
 |at_,nm::r=>if(nodeAt t at_).kind≠2 then(0,5)else match fe (aW t at_) nm with
  |none=>(0,2)
  |some n=>if(t.length:Int)<n then(0,2)else hO t n r
def dV (t:ao) (l:List Bs):Int×Int:=if t.length<1 then(0,2)else hO t 1 l
def bb (t:ao) (path:Bs) (own:Bool):Int×Int:=match parts path own with
 |none=>(0,1)
 |some l=>dV t l
def bI (t:ao):Prop:=t.length<=1000/\∀n∈t,n.body.length<=100000
theorem Jw {l:List aX}:∀{p:Option Bs} {s b:Bs},eu p s l=some b->∀e∈l,1<=e.ino/\e.ino<=9:=by
 induction l with
 |nil=>intro p s b _ e he;cases he
 |cons a l j=>
  intro p s b h e he;simp only[eu]at h;split at h
  ·cases h
  ·rename_i d;rcases bS.1 he with rfl|he
   ·simp only[mE,cx,aR,not_or]at d;omega
   ·exact j h e he
theorem vL {b:Bs} {l:List aX} (h:cv b=some l):∀e∈l,1<=e.ino/\e.ino<=9:=by
 unfold cv at h;split at h
 ·cases h
 ·split at h
  ·rename_i aj;cases h;exact Jw aj
  ·cases h
theorem kM {t:ao} {i:Int}:∀e∈aW t i,1<=e.ino/\e.ino<=9:=by
 unfold aW;split
 ·intro e he;cases he
 ·cases h:cv (nodeAt t i).body with
  |none=>intro e he;cases he
  |some l=>exact vL h
theorem ti {t:ao} {i:Nat} (h:i<t.length):nodeAt t (i+1:Nat)=t[i]:=by
 unfold nodeAt;rw[show(((i+1:Nat):Int)-1).toNat=i by omega,bj h];(try rfl)
theorem Jx:∀(f:Nat) (b:Bs) (d l:List aX),gr f b d=some l->l.length<=d.length+f:=by
 intro f
 induction f with
 |zero=>intro b d l h;cases b with
  |nil=>simp only[gr,aL]at h;subst h;omega
  |cons c r=>simp[gr]at h
 |succ f j=>intro b d l h;cases b with
  |nil=>simp only[gr,aL]at h;subst h;omega
  |cons c r=>
   simp only[gr]at h;split at h
   ·cases h
   ·have:=j _ _ _ h;rw[c2]at this;simp at this;omega
theorem vM {b:Bs} {l:List aX} (h:cv b=some l):l.length<=b.length:=by
 unfold cv at h;split at h
 ·cases h
 ·rename_i l' hl;split at h
  ·cases h;have:=Jx _ _ _ _ hl;simp at this;omega
  ·cases h
theorem mF {t:ao} (d:bI t) (i:Int):(aW t i).length<=100000:=by
 unfold aW;split
 ·exact cS _
 ·rename_i h0;cases h:cv (nodeAt t i).body with
  |none=>exact cS _
  |some l=>
   have o:=vM h;have aj:(nodeAt t i).body.length<=100000:=by
    unfold nodeAt;cases hq:t[(i-1).toNat]? with
    |none=>exact cS _
    |some n=>exact d.2 n (km hq)
   show l.length<=_;omega
def aQ (t:ao) (l:List Bs):Int×Bs×Int:=
 if(dV t l.dropLast).2≠0 then(0,[],(dV t l.dropLast).2)
 else if(nodeAt t (dV t l.dropLast).1).kind≠2 then(0,[],5)else((dV t l.dropLast).1,l.getLastD [],0)
def eL (t:ao) (ino:Int) (n:cj):ao:=t.set (ino-1).toNat n
def fg (t:ao) (bi:Int) (e:aX):ao×Bool:=match eK (iv (aW t bi) e).1 with
 |none=>(t,false)
 |some b=>(eL t bi {nodeAt t bi with body:=b},true)
def j8 (t:ao) (bi:Int) (name:Bs):ao:=eL t bi {nodeAt t bi with body:=(eK (ja (aW t bi) name).1).getD []}
def pQ (ino:Int) (l:List aX):Int:=l.foldl (fun n e=>if e.ino=ino then n+1 else n) 0
def nH (t:ao) (ino:Int):Nat->Nat->Int->Int
 |0,_,n=>n
 |f+1,i,n=>nH t ino f (i+1) (n+pQ ino (aW t i))
def oI (t:ao) (ino:Int):Int:=if ino=1 then 1 else nH t ino t.length 1 0
def fh (t:ao) (bi:Int):Nat->Int->Option Bool
 |0,_=>none
 |f+1,top=>if bi=top then some true else(aW t top).foldr (fun e rest=>if e.ino<=(t.length:Int)/\(nodeAt t e.ino).kind=2 then(match fh t bi f e.ino with
  |none=>none
  |some true=>some true
  |some false=>rest)else rest) (some false)
def jc (s:Bs) (n:Nat):Bs:=s.take n++List.replicate (n-s.length) 0
def bU (t:ao) (path:Bs) (own:Bool):Int×Int:=if(bb t path own).2=0/\(nodeAt t (bb t path own).1).kind=2 then(0,4)else bb t path own
def oJ (t:ao):Int:=match t.findIdx? (fun n=>decide (n.kind=0))with
 |none=>0
 |some i=>i+1
def gB (t:ao) (path:Bs) (kind mode ino:Int) (own:Bool):ao×Int:=match parts path own with
 |none=>(t,1)
 |some l=>
  if(kind≠1/\kind≠2)\/mode<0\/255<mode\/ino<0\/9<ino then(t,1)
  else if l=[]then(t,3)
  else if(aQ t l).2.2≠0 then(t,(aQ t l).2.2)
  else if(fe (aW t (aQ t l).1) (aQ t l).2.1).isSome then(t,3)
  else if 0<ino/\((t.length:Int)<ino\/(nodeAt t ino).kind≠0)then(t,3)
  else
   let k:=if ino=0 then oJ t else ino
   if k=0 then(t,8)
   else if(fg t (aQ t l).1 ⟨(aQ t l).2.1,k⟩).2 then(eL (fg t (aQ t l).1 ⟨(aQ t l).2.1,k⟩).1 k ⟨kind,mode,[]⟩,0)else(t,8)
def fY (t:ao) (fr d:Bs) (own:Bool):ao×Int:=match parts fr own,parts d own with
 |some _,some l=>
  if(bb t fr own).2≠0 then(t,(bb t fr own).2)
  else if(nodeAt t (bb t fr own).1).kind=2 then(t,4)
  else if l=[]then(t,3)
  else if(aQ t l).2.2≠0 then(t,(aQ t l).2.2)
  else if(fe (aW t (aQ t l).1) (aQ t l).2.1).isSome then(t,3)
  else if(fg t (aQ t l).1 ⟨(aQ t l).2.1,(bb t fr own).1⟩).2 then((fg t (aQ t l).1 ⟨(aQ t l).2.1,(bb t fr own).1⟩).1,0)else(t,8)
 |_,_=>(t,1)
def jd (t:ao) (path:Bs) (own:Bool):ao×Int:=
 let ino:=(bb t path own).1
 if(bb t path own).2≠0 then(t,(bb t path own).2)
 else if ino=1 then(t,4)
 else if(nodeAt t ino).kind=2/\(nodeAt t ino).body≠[]then(t,6)
 else
  let p:=aQ t ((parts path own).getD [])
  let x:=j8 t p.1 p.2.1
  (if oI x ino=0 then eL x ino ef else x,0)
def mG (f:Nat) (t:ao) (fr d:Bs) (own:Bool):Option (ao×Int):=match parts fr own,parts d own with
 |some q,some l=>
  let ino:=(bb t fr own).1
  if(bb t fr own).2≠0 then some (t,(bb t fr own).2)
  else if ino=1 then some (t,4)
  else if l=[]then some (t,3)
  else
   let p:=aQ t l
   if p.2.2≠0 then some (t,p.2.2)
   else
    let w:=aQ t q
    if w.1=p.1/\w.2.1=p.2.1 then some (t,0)
    else if(fe (aW t p.1) p.2.1).isSome then some (t,3)
    else
     let go:ao×Int:=if(fg (j8 t w.1 w.2.1) p.1 ⟨p.2.1,ino⟩).2 then((fg (j8 t w.1 w.2.1) p.1 ⟨p.2.1,ino⟩).1,0)else(t,8)
     if(nodeAt t ino).kind=2 then(match fh t p.1 f ino with
      |none=>none
      |some true=>some (t,7)
      |some false=>some go)else some go
 |_,_=>some (t,1)
def oK (body:Bs) (off:Nat) (text:Bs):Bs:=
 let b:=jc body (max body.length (off+text.length))
 b.take off++text++b.drop (off+text.length)
def hP (t:ao) (path:Bs) (off:Int) (text:Bs) (own:Bool):ao×Int:=
 let ino:=(bU t path own).1
 if(bU t path own).2≠0 then(t,(bU t path own).2)
 else if off<0 then(t,1)
 else if 120<off\/120-off<text.length then(t,8)
 else if text=[]then(t,0)
 else(eL t ino {nodeAt t ino with body:=oK (nodeAt t ino).body off.toNat text},0)
def je (t:ao) (path:Bs) (size:Int) (own:Bool):ao×Int:=
 let ino:=(bU t path own).1
 if(bU t path own).2≠0 then(t,(bU t path own).2)
 else if size<0 then(t,1)
 else if 120<size then(t,8)
 else(eL t ino {nodeAt t ino with body:=jc (nodeAt t ino).body size.toNat},0)
def j9 (t:ao) (path:Bs) (mode:Int) (own:Bool):ao×Int:=
 let ino:=(bb t path own).1
 if(bb t path own).2≠0 then(t,(bb t path own).2)
 else if mode<0\/255<mode then(t,1)
 else(eL t ino {nodeAt t ino with mode:=mode},0)
theorem Jy (t:ao):∀(l:List Bs) (at_:Int),1<=at_->at_<=t.length->(hO t at_ l).2=0->1<=(hO t at_ l).1/\(hO t at_ l).1<=t.length:=by
 intro l
 induction l with
 |nil=>intro a o aj _;exact⟨o,aj⟩
 |cons nm r A=>
  intro a o aj h;simp only[hO]at h⊢;split
  ·rename_i hk;rw[ae hk]at h;cases h
  ·rename_i hk;rw[ab hk]at h;cases d:fe (aW t a) nm with
   |none=>rw[d]at h;cases h
   |some n=>
    rw[d]at h;simp only at h⊢;split
    ·rename_i hn;rw[ae hn]at h;cases h
    ·rename_i hn;rw[ab hn]at h;have j:1<=n:=by
      unfold fe at d;simp only[jR]at d;obtain⟨e,he,rfl⟩:=d;exact(kM e (qa he)).1
     exact A n j (by omega) h
theorem vN {t:ao} {l:List Bs} (h:(dV t l).2=0):1<=(dV t l).1/\(dV t l).1<=t.length:=by
 unfold dV at h⊢;split
 ·rename_i h0;rw[ae h0]at h;cases h
 ·rename_i h0;rw[ab h0]at h;exact Jy t l 1 (ej _) (by omega) h
theorem kN {t:ao} {p:Bs} {own:Bool} (h:(bb t p own).2=0):1<=(bb t p own).1/\(bb t p own).1<=t.length/\(parts p own).isSome=true:=by
 unfold bb at h⊢;cases hp:parts p own with
 |none=>rw[hp]at h;cases h
 |some l=>rw[hp]at h;have:=vN h;exact⟨this.1,this.2,rfl⟩
theorem vO:∀a b:Bs,kt a b=iu a b
 |[],[]=>rfl
 |[],_::_=>rfl
 |_::_,[]=>rfl
 |a::x,b::y=>by
  show(bif Nat.blt a.toNat b.toNat then true else bif Nat.beq a.toNat b.toNat then kt x y else false)=if a.toNat<b.toNat then true else if b.toNat<a.toNat then false else iu x y
  rw[vO x y];by_cases o:a.toNat<b.toNat
  ·rw[ae o,show Nat.blt a.toNat b.toNat=true by simpa[pe]using o];(try rfl)
  ·rw[ab o,show Nat.blt a.toNat b.toNat=false by cases d:Nat.blt a.toNat b.toNat with|false=>rfl|true=>exact absurd (by simpa[pe]using d) o];by_cases aj:b.toNat<a.toNat
   ·rw[ae aj,ov (by omega)];(try rfl)
   ·rw[ab aj,show a.toNat=b.toNat by omega,dU];(try rfl)
theorem zj:∀a b:Bs,(!(iu a b||decide (a=b)))=iu b a
 |[],[]=>rfl
 |[],_::_=>rfl
 |_::_,[]=>rfl
 |a::x,b::y=>by
  have h:=zj x y;simp only[iu];by_cases o:a.toNat<b.toNat
  ·simp[o,Nat.not_lt.2 (pc o)]
  ·by_cases aj:b.toNat<a.toNat
   ·have d:¬a=b:=fun e=>by subst e;omega
    simp[o,aj,d]
   ·have he:a=b:=qi.1 (by omega);subst he;simp only[Nat.lt_irrefl,if_false];rw[<-h];simp
theorem zk {q:cy} {a b:Bs}:b0 .geq q (.str a) (.str b)=some (.bool (!iu a b)):=by
 show some (V.bool (!kt a b))=_;rw[vO]
theorem Jz {q:cy} {a b:Bs}:b0 .gtr q (.str a) (.str b)=some (.bool (iu b a)):=by
 show some (V.bool (!(kt a b||jW a b)))=_;rw[vO,lv,<-zj a b,show(a==b)=decide (a=b) by rw[kp];simp]
theorem JA (k g k' d:Int) (l l':Bs):b0 .eql (.agg [(0,.i),(1,.i),(2,.s)]) (.agg [.int .i64 k,.int .i64 g,.str l]) (.agg [.int .i64 k',.int .i64 d,.str l'])=some (.bool (decide (k=k'/\g=d/\l=l'))):=by
 have h:=sV k g k' d l l';have aj:∀I:Option Bool,I.map (fun b=>V.bool (!b))=some (.bool (!decide (k=k'/\g=d/\l=l')))->I.map V.bool=some (.bool (decide (k=k'/\g=d/\l=l'))):=by
  intro I ho;cases I with
  |none=>cases ho
  |some b=>simp only[dM,aL,V.bool.injEq]at ho⊢;revert ho;cases b<;>cases decide (k=k'/\g=d/\l=l')<;>simp
 exact aj _ h
theorem zl (a b:cj):(a=b)↔(a.kind=b.kind/\a.mode=b.mode/\a.body=b.body):=by
 cases a;cases b;simp
theorem JB (a b:cj):b0 .neq (.agg [(0,.i),(1,.i),(2,.s)]) (.agg (aG.f a)) (.agg (aG.f b))=some (.bool (!decide (a=b))):=by
 have h:=sV a.kind a.mode b.kind b.mode a.body b.body;rw[show decide (a=b)=decide (a.kind=b.kind/\a.mode=b.mode/\a.body=b.body)from decide_eq_decide.2 (zl a b)];exact h
theorem zm {U:Type} {l:List U} {i:Nat} (f:U->U) (h:i<l.length):l.modify i f=l.set i (f l[i]):=by
 apply qc;intro j;rw[rO,kn];by_cases d:i=j
 ·subst d;rw[ae rfl,ae h,bj h];simp
 ·rw[ab d];simp[d]
theorem qZ {t:ao} {x:Int} (o:1<=x) (aj:x<=(t.length:Int)):∃j:Nat,x-1=(j:Int)/\∃h:j<t.length,nodeAt t x=t[j]:=by
 refine⟨(x-1).toNat,by omega,by omega,?_⟩;unfold nodeAt;rw[bj (show(x-1).toNat<t.length by omega)];(try rfl)
theorem zn {l xs:List V} {I:Nat} (h:I+xs.length<=l.length):cT I l xs=some (l.take I++xs++l.drop (I+xs.length)):=by
 have o:l=l.take I++((l.drop I).take xs.length++l.drop (I+xs.length)):=by rw[<-nY,jT,jT]
 conv=>lhs;rw[o]
 rw[vE _ _ _ _ (by rw[cE];omega),s4 _ _ _ (by rw[cE,bW];omega)];simp
theorem af.lo {U:Type} {e:bG U} {v:V} {l:List U} {s:Option Pa} (ho:af e v l s) {j:Nat} (hj:j<=l.length) (h0:0<l.length):
 ∃a I c,s=some a/\dx e.k v (some (.int .i64 (j:Int))) none none=some (.sl a I (l.length-j) c)/\(I=j*e.k\/l.length=j/\I=0):=by
 rcases ho.2.2 with⟨_,o,_⟩|⟨a,rfl,rfl⟩|⟨a,rfl,rfl⟩
 ·omega
 ·refine⟨a,0+j*e.k,.un e.k,rfl,?_,.inl (eV _)⟩;simp only[dx,oA hj (aB _),dU,aE]
 ·by_cases d:l.length=j
  ·subst d;exact⟨a,0,.ex (l.length-l.length),rfl,by simp only[dx,oA (aB l.length) (aB l.length),dU,aE],.inr ⟨rfl,rfl⟩⟩
  ·refine⟨a,0+j*e.k,.ex (l.length-j),rfl,?_,.inl (eV _)⟩;simp only[dx,oA hj (aB _),ov d,bw]
namespace S
variable{F:Nat->Option aP} {K:KX} {E:Env} {O:Fz} {R:List Ob} {Q:bz} {rs:List Op} {d:Nat} {g:Option (Pa×Bool)}
theorem ew {x i:Od} {q:IntKind} {v:V} {t:ao} {n:Int} (hs:aa aG O v t) (o:1<=n) (aj:n<=(t.length:Int)) (hn:∀p,EP O p (aG.f (nodeAt t n))->SA F K rs ((d,p)::E) O R Q) (hx:ay E x v:=by exact .t rfl) (hi:ay E i (.int q (n-1)):=by exact .t rfl) (hw:aA E g .yes:=by first|exact .none|exact .yes rfl):
 SR F K (.op ⟨some (pa d),bs none 3 x i,g⟩::Op.aK rs) E O R Q:=by
 obtain⟨j,hj,h,e⟩:=qZ o aj;rw[hj]at hi;exact aF hs h (fun p hp=>hn p (by rw[e];exact hp)) hx hi rfl hw
theorem dg {n:Nat} {x:Od} {a:Pa} {I:Nat} {u l:List V} {cs:List V} (i:Nat) (hn:SA F K rs E O R Q) (hd:lk d E=some (.agg u):=by rfl) (hx:ay E x (.ptr a I):=by exact .t rfl) (hi:R[i]? =some (some a,.cells cs false):=by rfl) (hl:(cs.drop I).take n=l:=by rfl) (j:l.length=n:=by rfl) (hs:same (.agg u) (.agg l)=true:=by simp[same,b9,V.cells,e0,fx,kL]) (hw:aA E g .yes:=by first|exact .none|exact .yes rfl):
 SR F K (.bX ⟨some (pa d),b2 (some n) x,g⟩::Op.aK rs) E O R Q:=fun W h sh=>ad.sU hw hd hx (by have:=(eZ.of (sh.fy hi) rfl).agg hl j;rwa [eV]at this) hs (S.r hn W h sh)
theorem zo {y z:Od} {a:Pa} {I m:Nat} {c:fM} {l x:Bs} (i:Nat) (hm:min x.length m+I<=l.length) (hn:SA F K rs ((d,.int .i64 ((min x.length m:Nat):Int))::E) O (R.set i (aU.ob (some a) (l.take I++x.take m++l.drop (I+min x.length m)))) Q) (A:ay E y (.sl a I m c):=by exact .t rfl) (hx:ay E z (.str x):=by exact .t rfl) (hi:R[i]? =some (aU.ob (some a) l):=by rfl) (hw:aA E g .yes:=by first|exact .none|exact .yes rfl):
 SR F K (.op ⟨some (pa d),qx 1 y z,g⟩::Op.aK rs) E O R Q:=fun W h sh=>by
 have j:iK h 1 (Nat.min x.length m) (.str x)=some ((x.take m).map cz):=by
  simp only[iK,dU,aE];rw[pD (Nat.min_le_left _ _)];show some ((x.take (min x.length m)).map cz)=_;rcases Nat.le_total x.length m with o|o
  ·rw[hD o,dT,kk o]
  ·rw[Nat.min_eq_right o]
 have hlen:(x.take m).length=min x.length m:=by rw[cE,Nat.min_comm]
 have ch:cT I (aU.fl l) ((x.take m).map cz)=some (aU.fl (l.take I++x.take m++l.drop (I+min x.length m))):=by
  rw[zn (by rw[lI,hS,hS,hlen];omega),lI,lI,hS,hlen];simp
 refine ad.copy hw A hx ?_ (S.r hn W _ (sh.pI hi _));simp only[qw,hU,j,sO (sh.fy hi) (vu _) ch];rfl
end S
namespace G
variable{F:Nat->Option aP} {K:KX} {E:Env} {O:Fz} {R:List Ob} {Q:bz} {rs:List Op} {d:Nat} {g:Option (Pa×Bool)} {b:Bool}
theorem ew {x i:Od} {q:IntKind} {v:V} {t:ao} {n:Int} (hs:aa aG O v t) (hn:∀p,(b=true->EP O p (aG.f (nodeAt t n)))->SA F K rs ((d,gv b p)::E) O R Q) (j:Gd E g b:=by first|exact .y rfl|exact .n rfl|exact .yg rfl|exact .ng rfl) (hx:da E x b v:=by first|exact .g rfl|exact .gl rfl|exact .u (.t rfl)) (hi:da E i b (.int q (n-1)):=by first|exact .g rfl|exact .gl rfl|exact .u (.t rfl)) (h:b=true->1<=n/\n<=(t.length:Int):=by assumption):
 SR F K (.op ⟨some (pa d),bs none 3 x i,g⟩::Op.aK rs) E O R Q:=by
 cases b with
 |false=>exact S.no j (hn (.no .bot) (fun h=>by cases h))
 |true=>exact S.ew hs (h rfl).1 (h rfl).2 (fun p hp=>hn p (fun _=>hp)) (hx rfl) (hi rfl) j
end G
end Go.Ev
namespace Go.Ev
variable{F:Nat->Option aP} {O:Fz}
theorem zp {d:au} {i:Int} {j:Nat} (hj:j<d.wait.length) (h:(d.wait.drop (j+1)).all (fun p=>!decide (p.at_=i))=true) (he:(d.wait[j]).at_=i):d.waits i=some (d.wait[j]).b:=by
 unfold au.waits;have e:d.wait=d.wait.take j++d.wait[j]::d.wait.drop (j+1):=by rw[rN,jT]
 have hn:(d.wait.drop (j+1)).reverse.find? (fun p=>decide (p.at_=i))=none:=by
  rw[List.find?_eq_none];intro p hp;rw[List.mem_reverse]at hp;have:=eU.1 h p hp;simpa using this
 conv=>lhs;rw[e]
 rw[List.reverse_append,List.reverse_cons,List.find?_append,List.find?_append,hn];simp[he]
theorem zq {d:au} {i:Int} (h:d.wait.all (fun p=>!decide (p.at_=i))=true):d.waits i=none:=by
 unfold au.waits;rw[Option.map_eq_none_iff,List.find?_eq_none];intro p hp;rw[List.mem_reverse]at hp;have:=eU.1 h p hp;simpa using this
theorem zr {U:Type} {p:U->Bool} {l:List U} {j:Nat} (hj:j<l.length) (h:(l.drop (j+1)).all p=true) (hp:p l[j]=true):(l.drop j).all p=true:=by
 rw[bQ hj,k4,hp,h];(try rfl)
theorem zs [Fx F] {cs:List V} {d:au} {i:Int} (hd:cu O cs d):bm F 45 [.agg cs,.j i] O (.bool (d.has i)):=by
 obtain⟨o,wv,rfl,hl,hw,sl,A⟩:=hd.open;refine ai.al (ar ?_);refine S.box fun h=>?_;refine S.ld 0 ?_;refine S.un ?_;refine G.mv ?_;refine G.bin ?_;refine G.and ?_;refine G.mv ?_;refine G.aD ?_;refine G.ld 0 ?_;refine G.len ?_;refine G.bin ?_;refine G.and ?_;refine⟨_,.t rfl .nil,.done ?_⟩;rfl
theorem JC [Fx F] {cs:List V} {d:au} {i:Int} (hd:cu O cs d) (ak:d.wait.length<=1000000):bm F 15 [.agg cs,.j i] O (.aN [.str (d.read i).1,.bool (d.read i).2]):=by
 obtain⟨Z,wv,rfl,hl,hw,sl,ay⟩:=hd.open;refine ai.al (ar ?_);refine S.box fun G=>?_;refine S.ag 0 ?_;refine S.al (zs hd) ?_;refine S.un ?_;refine C.B (fun OU=>?_) fun OU=>?_
 ·have e:d.read i=([],false):=by unfold au.read;rw[ab (by intro h;rw[h]at OU;cases OU)]
  rw[e];exact⟨_,.t rfl (.t rfl .nil),.done rfl⟩
 ·have A:d.has i=true:=by simpa using OU
  refine S.ld 0 ?_;refine S.len ?_;refine S.bin ?_;refine SW.loop (fun m E ψ R=>∃z:Int,z+1=m/\m<=d.wait.length/\(d.wait.drop m).all (fun p=>!decide (p.at_=i))=true/\O=ψ/\R=[(some G,.cells [Z,wv,.j d.arm,.bool d.down] false)]/\Sub [(1,.j i),(2,.ptr G 0),(6,.j z)] E) (m:=d.wait.length) ⟨_,by omega,by omega,by rw[b6];(try rfl),rfl,rfl,.r rfl⟩ ?_;intro I E ψ R am U;obtain⟨z,hz,hm,o,rfl,rfl,Q⟩:=U;refine C.sub Q ?_;refine S.bin ?_;refine C.D (fun O3=>?_) fun O3=>?_
  ·obtain⟨j,rfl⟩:∃j:Nat,z=(j:Int):=⟨z.toNat,by omega⟩
   obtain rfl:I=j+1:=by omega
   have hj:j<d.wait.length:=by omega
   refine S.ld 0 ?_;refine S.aF hw hj fun an L=>?_;refine S.bl L fun ao ac=>?_;refine S.a1 ?_;refine S.bin ?_;refine C.D (fun Pj=>?_) fun Pj=>?_
   ·refine S.ld 0 ?_;refine S.aF hw hj fun ap M=>?_;refine S.bl M fun av ah=>?_;refine S.a1 ?_;have e:d.read i=((d.wait[j]).b,true):=by unfold au.read;rw[ae A,zp hj o Pj];(try rfl)
    rw[e];exact⟨_,.t rfl (.t rfl .nil),.done rfl⟩
   ·refine S.bin ?_;refine⟨j,by omega,(j:Int)-1,by omega,by omega,zr hj o (by simpa using Pj),rfl,rfl,.r rfl⟩
  ·have Y:I=0:=by omega
   subst Y;rw[nb]at o;unfold au.has at A;simp only[be,aR]at A;obtain⟨k,rfl⟩:∃k:Nat,i=(k:Int):=⟨i.toNat,by omega⟩
   have hk:k<d.last.length:=by omega
   refine S.ld 0 ?_;refine S.aF hl hk fun aw aj=>?_;refine S.a1 ?_;have e:d.read k=(d.last[k],true):=by
    have W:d.has k=true:=by unfold au.has;simp only[be,aR];exact A
    unfold au.read;rw[ae W,zq o,hC,bj hk];(try rfl)
   rw[e];exact⟨_,.t rfl (.t rfl .nil),.done rfl⟩
theorem zt [Fx F] {cs:List V} {d:au} {i:Int} {b:Bs} (hd:cu O cs d) (W:d.wait.length<=1000000) (ha:d.arm<=1000000):
 ai F 121 [.agg cs,.j i,.str b] O [] (fun r ψ R=>∃cs',r=.aN [.agg cs',.bool (d.write i b).2]/\cu ψ cs' (d.write i b).1/\R=[]) never:=by
 obtain⟨Z,wv,rfl,hl,hw,sl,aj⟩:=hd.open;refine ar ?_;refine S.box fun a3=>?_;refine S.alloc fun U=>?_;refine S.ag 1 ?_;refine S.al (zs hd) ?_;refine S.un ?_;refine G.mv ?_;refine G.cb ?_;refine G.bin ?_;refine G.or ?_;refine C.B (fun hc=>?_) fun hc=>?_
 ·refine S.ag 1 ?_;refine S.store 0 ?_;have e:d.write i b=(d,false):=by unfold au.write;rw[ae hc]
  rw[e];exact⟨_,.cN 0 rfl rfl rfl rfl (.t rfl .nil),.none ⟨_,rfl,hd,rfl⟩⟩
 ·refine S.a8 fun A=>?_;refine S.ld 2 ?_;have L:af j5 (.sl A 0 0 (.ex 0)) [] (some A):=af.new rfl;refine S.br 0 L (.f hw) (by simp;omega) fun ak ac M=>?_;refine S.build ?_;refine S.a8 fun a25=>?_;refine S.br (m:=[⟨i,b⟩]) 1 M (.lit 0) (by simp;omega) fun am ah Q=>?_;refine S.cd 1 Q fun an I h=>?_;refine S.drop 0 ?_;have Y:=h.ax;rw[fo]at h;refine S.aD ?_;refine S.fB 1 ?_;refine S.ld 1 ?_;refine S.bin ?_;refine C.D (fun o=>?_) fun o=>?_
  ·refine S.ld 1 ?_;refine S.bin ?_;refine S.store 1 ?_;refine S.ld 1 ?_;refine S.bin ?_;refine S.store 1 ?_;refine S.ag 1 ?_;refine S.ld 1 ?_;refine S.un ?_;refine S.store 0 ?_;refine S.bE 1 ?_;have e:d.write i b=({d with wait:=d.wait++[⟨i,b⟩],arm:=d.arm-1,down:=decide (d.arm-1=0)},!decide (d.arm-1=0)):=by unfold au.write;rw[ab (by rw[hc];simp),ae o]
   rw[e];exact⟨_,.cN 0 rfl rfl rfl rfl (.t rfl .nil),.none ⟨_,rfl,⟨_,_,rfl,hl.mono I,h⟩,rfl⟩⟩
  ·refine S.ag 1 ?_;refine S.ld 1 ?_;refine S.un ?_;refine S.store 0 ?_;refine S.bE 1 ?_;have e:d.write i b=({d with wait:=d.wait++[⟨i,b⟩]},!d.down):=by unfold au.write;rw[ab (by rw[hc];simp),ab o]
   rw[e];exact⟨_,.cN 0 rfl rfl rfl rfl (.t rfl .nil),.none ⟨_,rfl,⟨_,_,rfl,hl.mono I,h⟩,rfl⟩⟩
theorem zu {U d:Type} (f:d->U->d) (z:d) (l:List U) (j:Nat) (hj:j<l.length):(l.take (j+1)).foldl f z=f ((l.take j).foldl f z) l[j]:=by
 rw[fm hj,rR];(try rfl)
theorem JD {out:List Bs} {p:lK} (h:¬0<=p.at_\/(out.length:Int)<=p.at_):gA out p=out:=by
 unfold gA;split
 ·exact List.set_eq_of_length_le (by omega)
 ·rfl
theorem JE (d:au) (j:Nat):((d.wait.take j).foldl gA d.last).length=d.last.length:=by
 generalize d.wait.take j=l;generalize d.last=z
 induction l generalizing z with
 |nil=>rfl
 |cons a l h=>rw[gK,h,zf]
theorem JF [Fx F] {cs:List V} {d:au} (hd:cu O cs d) (ap:d.wait.length<=1000000) (av:d.last.length<=1000000):
 ai F 179 [.agg cs,.no .sl,.bool true] O [] (fun r ψ R=>ψ=O/\∃s,R=[dA.ob s d.lL]/\af dA r d.lL s) never:=by
 obtain⟨ag,wv,rfl,hl,hw,sl,aD⟩:=hd.open;refine ai.same (ar ?_);refine S.box fun a3=>?_;refine S.a8 fun I=>?_;refine S.ld 1 ?_;have ah:af dA (.sl I 0 0 (.ex 0)) [] (some I):=af.new rfl;refine S.br 0 ah (.f hl) (by simp;omega) fun al ak aj=>?_;refine SW.loop (fun m E ψ R=>∃(j:Nat) (v:V) (s:Option Pa),j+m=d.wait.length/\O=ψ/\R=[dA.ob s ((d.wait.take j).foldl gA d.last),(some a3,.cells [ag,wv,.j d.arm,.bool d.down] false)]/\af dA v ((d.wait.take j).foldl gA d.last) s/\Sub [(1,.no .sl),(2,.bool true),(3,.ptr a3 0),(7,v),(8,.j (j:Int))] E) (m:=d.wait.length) ⟨0,al,ak,by omega,rfl,rfl,aj,.r rfl⟩ ?_;intro L E ψ R aw Z;obtain⟨j,v,s,hj,rfl,rfl,ho,Y⟩:=Z;refine C.sub Y ?_;refine S.ld 1 ?_;refine S.len ?_;refine S.bin ?_;refine C.D (fun OY=>?_) fun OY=>?_
 ·have A:j<d.wait.length:=by omega
  have hlen:=JE d j;have ab:=aa.nil (e:=lJ) O;refine S.ld 1 ?_;refine S.aF hw A fun ay Q=>?_;refine S.bl Q fun az am=>?_;refine S.a1 ?_;refine S.bin ?_;refine G.mv ?_;refine G.mv ?_;refine G.len ?_;refine G.bin ?_;refine G.and ?_;refine G.mv ?_;refine G.mv ?_;refine G.mv ?_;refine G.mv ?_;refine G.len ?_;refine G.bin ?_;refine G.mv ?_;refine G.mv ?_;refine G.mv ?_;refine G.aF (z:=false) ab (fun aA an=>?_) (hj:=fun h=>by simp at h);refine G.a1 ?_;refine G.fV ?_;refine G.nF ?_;refine G.and ?_;refine C.B (fun hc=>?_) fun hc=>?_
  ·simp only[be,Bool.true_or,and_true,aR]at hc;obtain⟨q,hq⟩:∃q:Nat,(d.wait[j]).at_=(q:Int):=⟨(d.wait[j]).at_.toNat,by omega⟩
   have o:(d.wait.take (j+1)).foldl gA d.last=((d.wait.take j).foldl gA d.last).set q (d.wait[j]).b:=by
    rw[zu _ _ _ _ A];unfold gA;rw[ae hc.1,hq];(try rfl)
   rw[hq]at hc⊢;refine S.ld 1 ?_;refine S.aF hw A fun aB U=>?_;refine S.bl U fun aC ao=>?_;refine S.a1 ?_;have ac:q<((d.wait.take j).foldl gA d.last).length:=by omega
   refine S.ct ho ac fun M W=>?_;subst W;refine S.kK (d.wait[j]).b 0 ?_;refine S.bin ?_;refine⟨L-1,by omega,j+1,v,some M,by omega,rfl,by rw[o];(try rfl),by rw[o];exact ho.set q _,.r rfl⟩
  ·refine S.bin ?_;have o:(d.wait.take (j+1)).foldl gA d.last=(d.wait.take j).foldl gA d.last:=by
    simp only[Bool.true_or,k5,iF,bD]at hc;rw[zu _ _ _ _ A,JD (by omega)]
   refine⟨L-1,by omega,j+1,v,s,by omega,rfl,by rw[o],by rw[o];exact ho,.r rfl⟩
 ·obtain rfl:j=d.wait.length:=by omega
  rw[dT]at ho⊢;exact⟨_,.t rfl .nil,.only 0 ⟨s,rfl,ho⟩⟩
theorem zv [Fx F] {cs:List V} {d:au} (hd:cu O cs d) (A:d.wait.length<=1000000) (G:d.last.length<=1000000):
 ai F 123 [.agg cs] O [] (fun r ψ R=>∃cs',r=.aN [.agg cs',.bool d.flush.2]/\cu ψ cs' d.flush.1/\R=[]) never:=by
 obtain⟨Z,wv,rfl,hl,hw,sl,ah⟩:=hd.open;refine ar ?_;refine S.box fun M=>?_;refine S.alloc fun Q=>?_;refine S.ld 1 ?_;refine C.B (fun hc=>?_) fun hc=>?_
 ·refine S.ag 1 ?_;refine S.store 0 ?_;have e:d.flush=(d,false):=by unfold au.flush;rw[ae hc]
  rw[e];exact⟨_,.cN 0 rfl rfl rfl rfl (.t rfl .nil),.none ⟨_,rfl,hd,rfl⟩⟩
 ·refine S.ld 1 ?_;refine S.len ?_;refine S.bin ?_;refine C.D (fun OU=>?_) fun OU=>?_
  ·refine S.ag 1 ?_;refine S.call (JF hd A G) fun aj ak L W o=>?_;obtain⟨rfl,ac,rfl,I⟩:=o;refine S.cd 0 I fun al Y h=>?_;have U:=h.ax;refine S.aD ?_;refine S.fB 1 ?_;refine S.store 1 ?_;refine S.ag 1 ?_;refine S.store 0 ?_;have e:d.flush=({d with last:=d.lL,wait:=[]},true):=by unfold au.flush;rw[ab (by rw[hc];simp)]
   rw[e];exact⟨_,.cN 0 rfl rfl rfl rfl (.t rfl .nil),.none ⟨_,rfl,⟨_,_,rfl,h,aa.nil _⟩,rfl⟩⟩
  ·refine S.store 1 ?_;refine S.ag 1 ?_;refine S.store 0 ?_;have e:d.flush=({d with last:=d.lL,wait:=[]},true):=by unfold au.flush;rw[ab (by rw[hc];simp)]
   have j:d.lL=d.last:=Js d (e8 (by omega));rw[e,j];exact⟨_,.cN 0 rfl rfl rfl rfl (.t rfl .nil),.none ⟨_,rfl,⟨_,_,rfl,hl,aa.nil _⟩,rfl⟩⟩
theorem tj {U:Type} {l:List U} {j:Nat} (hj:j<l.length):l.take (j+1)=l.take j++[l[j]]:=fm hj
theorem tk [Fx F] {B d:V} {b:Bs} {n:Nat} {l:List Int} (M:aa aU O B b) (hl:aa bt O d l) (hn:1<=n) (an:n<=4) (al:b.length+l.length*n<=1000000) (am:l.length<=1000000):
 ai F 115 [B,.j (n:Int),d] O [] (fun r ψ R=>ψ=O/\∃s,R=[aU.ob s (b++bo n l)]/\af aU r (b++bo n l) s) never:=by
 refine ai.same (ar ?_);refine S.a8 fun A=>?_;have Y:af aU (.sl A 0 0 (.ex 0)) [] (some A):=af.new rfl;refine S.br 0 Y (.f M) (by simp;omega) fun ag ac Z=>?_;refine SW.loop (fun m E ψ R=>∃(j:Nat) (v:V) (s:Option Pa),j+m=l.length/\O=ψ/\R=[aU.ob s (b++bo n (l.take j))]/\af aU v (b++bo n (l.take j)) s/\Sub [(1,.j (n:Int)),(2,d),(7,v),(8,.j (j:Int))] E) (m:=l.length) ⟨0,ag,ac,by omega,rfl,by simp[bo],by simpa[bo]using Z,.r rfl⟩ ?_;intro U E ψ R Q o;obtain⟨j,v,s,hj,rfl,rfl,ho,h⟩:=o;refine C.sub h ?_;refine S.len ?_;refine S.bin ?_;refine G.mv ?_;refine G.bin ?_;refine G.and ?_;refine G.mv ?_;refine G.bin ?_;refine G.and ?_;have I:((decide ((j:Int)<(l.length:Int))&&decide ((1:Int)<=(n:Int)))&&decide ((n:Int)<=4))=decide (j<l.length):=by
  rw[decide_eq_true (show(1:Int)<=(n:Int) by omega),decide_eq_true (show(n:Int)<=4 by omega),k5,k5];exact decide_eq_decide.2 (by omega)
 rw[I];refine C.D (fun hc=>?_) fun hc=>?_
 ·have L:b.length+(j+1)*n<=1000000:=by have:=o6 n (show j+1<=l.length from hc);omega
  have hlen:(b++bo n (l.take j)).length=b.length+j*n:=by rw[c2,fW,cE,hD (by omega)]
  rw[iH,pd]at L;refine SW.loop (fun m E ψ R=>∃(i:Nat) (v:V) (s:Option Pa),i+m=n/\O=ψ/\R=[aU.ob s (b++bo n (l.take j)++le i l[j])]/\af aU v (b++bo n (l.take j)++le i l[j]) s/\Sub [(1,.j (n:Int)),(2,d),(7,v),(8,.j (j:Int)),(9,.j (i:Int))] E) (m:=n) ⟨0,v,s,by omega,rfl,by simp[le],by simpa[le]using ho,.r rfl⟩ ?_;intro W E ψ R Q o;obtain⟨i,v,s,hi,rfl,rfl,ho,h⟩:=o;refine C.sub h ?_;refine S.bin ?_;refine C.D (fun Pr=>?_) fun Pr=>?_
  ·refine S.aF hl hc fun ao ak=>?_;refine S.a1 ?_;refine S.bin ?_;refine S.bin ?_ (hv:=zi (by omega));refine S.mw ?_;rw[te];refine S.a8 fun aj=>?_;refine S.br (m:=[bM (l[j]/256^i)]) 1 ho (.lit 0) (by rw[c2,hlen,fz];simp;omega) fun ah ae ab=>?_;refine S.drop 0 ?_;refine S.mv ?_;refine S.bin ?_;refine⟨W-1,by omega,i+1,ah,ae,by omega,rfl,by rw[s9,<-bp]<;>rfl,by rw[s9,<-bp];exact ab,.r rfl⟩
  ·refine S.bin ?_;obtain rfl:i=n:=by omega
   refine⟨U-1,by omega,j+1,v,s,by omega,rfl,?_,?_,.r rfl⟩
   ·rw[tj hc,ta,<-bp]
   ·rw[tj hc,ta,<-bp];exact ho
 ·obtain rfl:j=l.length:=by omega
  rw[dT]at ho⊢;exact⟨_,.t rfl .nil,.only 0 ⟨s,rfl,ho⟩⟩
theorem lN [Fx F] {h:V} {b:Bs} {n:Nat} {x:Int} (G:aa aU O h b) (hn:1<=n) (I:n<=4) (W:b.length<=999990):
 ai F 84 [h,.j (n:Int),.j x] O [] (fun r ψ R=>ψ=O/\∃s,R=[aU.ob s (b++le n x)]/\af aU r (b++le n x) s) never:=by
 refine ai.same (ar ?_);refine S.a8 fun d=>?_;have M:af bt (.sl d 0 1 (.ex 1)) [x] (some d):=af.new rfl;refine S.cd 0 M fun ab L B=>?_;refine S.call (tk (G.mono L) B hn I (by simp;omega) (by simp)) fun Z ac U Y D=>?_;obtain⟨rfl,Q,rfl,o⟩:=D;have A:bo n [x]=le n x:=by simp[bo]
 rw[A]at o⊢;exact⟨_,.t rfl .nil,.only 0 ⟨Q,rfl,o⟩⟩
theorem zw [Fx F] {d:V} {b:Bs} {n:Nat} (I:aa aU O d b) (hn:n<=1000) (U:b.length<=1000000):bm F 46 [d,.j (n:Int)] O (.aN [.j (cf b n).1,.bool (cf b n).2]):=by
 refine ai.al (ar ?_);refine S.bin ?_;refine G.mv ?_;refine G.bin ?_;refine G.or ?_;refine G.mv ?_;refine G.len ?_;refine G.mv ?_;refine G.bin ?_;refine G.or ?_;refine C.B (fun OZ=>?_) fun OZ=>?_
 ·have e:cf b n=(0,false):=by unfold cf;simp only[cx,aR]at OZ;exact ae (by omega)
  rw[e];exact⟨_,.t rfl (.t rfl .nil),.done rfl⟩
 ·simp only[cg,bD]at OZ;have e:cf b n=(dB (b.take n),true):=by unfold cf;exact ab (by omega)
  rw[e];have L:(b.take n).length=n:=by rw[cE];omega
  refine S.bin ?_;refine SW.loop (fun m E ψ R=>∃z:Int,z+1=m/\m<=n/\O=ψ/\R=[]/\Sub [(0,d),(6,.j (dB ((b.take n).drop m))),(7,.j z)] E) (m:=n) ⟨_,by omega,aB n,rfl,rfl,.cons rfl (.cons (by rw[jS (by omega)];(try rfl)) (.r rfl))⟩ ?_;intro h E ψ R Y A;obtain⟨z,hz,hm,rfl,rfl,o⟩:=A;refine C.sub o ?_;refine S.bin ?_;refine C.D (fun O5=>?_) fun O5=>?_
  ·obtain⟨j,rfl⟩:∃j:Nat,z=(j:Int):=⟨z.toNat,by omega⟩
   obtain rfl:h=j+1:=by omega
   have hj:j<b.length:=by omega
   have Z:=vG ((b.take n).drop (j+1));have ac:=zg ((b.take n).drop (j+1)) (by rw[bW,L];omega);have W:=(b[j]).toNat_lt;have M:dB ((b.take n).drop j)=dB ((b.take n).drop (j+1))*256+(b[j]).toNat:=by
    rw[bQ (by omega),List.getElem_take];simp only[dB];omega
   refine S.bin ?_;refine S.aF I hj fun ag Q=>?_;refine S.a1 ?_;refine S.iY ?_;refine S.bin ?_;refine S.bin ?_;refine⟨j,by omega,(j:Int)-1,by omega,by omega,rfl,rfl,.cons rfl (.cons (by rw[M];(try rfl)) (.r rfl))⟩
  ·obtain rfl:h=0:=by omega
   refine⟨_,.t rfl (.t rfl .nil),.done ?_⟩;rfl
theorem JG [Fx F] {d:V} {b s:Bs} (h:aa aU O d b) (Q:b.length<=500000) (hs:s.length<=500000):
 ai F 83 [d,.str s] O [] (fun r ψ R=>ψ=O/\∃a,R=[aU.ob a (gp b s)]/\af aU r (gp b s) a) never:=by
 refine ai.same (ar ?_);refine S.cb ?_;refine S.bin ?_;refine C.D (fun Pk=>?_) fun Pk=>?_
 ·refine S.a8 fun dL=>?_;have G:af aU (.sl dL 0 0 (.ex 0)) [] (some dL):=af.new rfl;refine S.br 0 G (.f h) (by simp;omega) fun Y I o=>?_;have e:gp b s=b:=by unfold gp;exact ae (by omega)
  rw[e];exact⟨_,.t rfl .nil,.only 0 ⟨I,rfl,o⟩⟩
 ·refine S.cb ?_;refine S.call (lN (n:=1) h (by omega) (by omega) (by omega)) fun Z ag M U j=>?_;obtain⟨rfl,W,rfl,A⟩:=j;refine S.br 0 A (.s s) (by rw[c2,fz];omega) fun ac L B=>?_;have e:gp b s=b++le 1 s.length++s:=by unfold gp;rw[ab (by omega)]
  rw[e];exact⟨_,.t rfl .nil,.only 0 ⟨L,rfl,B⟩⟩
theorem jf [Fx F] {a:Pa} {d:V} {s:cL} {n:Nat} (o:aa aU O d s.1) (hn:n<=4) (L:s.1.length<=1000000):
 ai F 148 [.ptr a 0,.j (n:Int)] O [(some a,.cells [d,.bool s.2] false)] (fun r ψ R=>ψ=O/\r=.j (rdNum n s).1/\∃A,R=[(some a,.cells [A,.bool (rdNum n s).2.2] false)]/\aa aU O A (rdNum n s).2.1) never:=by
 refine ai.same (ar ?_);refine S.ld 0 ?_;refine S.al (zw (n:=n) o (by omega) L) ?_;refine S.un ?_;refine SW.then (fun E ψ R=>∃z,R=[(some a,.cells [d,.bool z] false)]/\z=(s.2||!(cf s.1 n).2)/\O=ψ/\Sub [(0,.ptr a 0),(1,.j (n:Int)),(5,.j (cf s.1 n).1)] E) ?_ ?_
 ·refine C.B (fun O1=>?_) fun O1=>?_
  ·refine S.store 0 ?_;exact⟨true,rfl,by rw[O1];simp,rfl,.r rfl⟩
  ·exact⟨s.2,rfl,by rw[O1];simp,rfl,.r rfl⟩
 intro E ψ R Q I;obtain⟨z,rfl,hz,rfl,G⟩:=I;refine C.sub G ?_;refine S.ld 0 ?_;refine C.B (fun O8=>?_) fun O8=>?_
 ·have e:rdNum n s=(0,(s.1,true)):=by unfold rdNum;rw[ae (by rw[<-hz,O8])]
  rw[e,O8];exact⟨_,.t rfl .nil,.done ⟨rfl,d,rfl,o⟩⟩
 ·refine S.ld 0 ?_;have hk:n<=s.1.length:=by
   rw[O8]at hz;have aj:(cf s.1 n).2=true:=by cases h:(cf s.1 n).2<;>simp[h]at hz⊢
   unfold cf at aj;split at aj
   ·cases aj
   ·omega
  obtain⟨w,M,D⟩:=aa.lo o hk;have U:=D.ax;refine S.slice M ?_;refine S.fB 0 ?_;have e:rdNum n s=((cf s.1 n).1,(s.1.drop n,false)):=by unfold rdNum;rw[ab (by rw[<-hz,O8];simp)]
  rw[e,O8];exact⟨_,.t rfl .nil,.done ⟨rfl,w,rfl,D⟩⟩
theorem JH [Fx F] {x:aT}:bm F 82 [.agg [.j x.kind,.j x.gen,.str x.load]] O (.bool (jG x)):=by
 refine ai.al (ar ?_);refine S.box fun d=>?_;refine S.ld 0 ?_;refine S.bin ?_;refine G.aD ?_;refine G.ld 0 ?_;refine G.bin ?_;refine G.and ?_;refine G.aD ?_;refine G.ld 0 ?_;refine G.bin ?_;refine G.and ?_;refine G.aD ?_;refine G.ld 0 ?_;refine G.bin ?_;refine G.and ?_;refine G.aD ?_;refine G.ld 0 ?_;refine G.cb ?_;refine G.bin ?_;refine G.and ?_;refine⟨_,.t rfl .nil,.done ?_⟩;rfl
theorem vP [Fx F] {x:aT}:bm F 47 [.agg [.j x.kind,.j x.gen,.str x.load]] O (.str (dn x)):=by
 refine ai.al (ar ?_);refine S.box fun aj=>?_;refine S.ag 0 ?_;refine S.al (JH) ?_;refine S.un ?_;refine C.B (fun Pe=>?_) fun Pe=>?_
 ·have e:dn x=[]:=by unfold dn;rw[ab (by intro h;rw[h]at Pe;cases Pe)]
  rw[e];exact⟨_,.t rfl .nil,.done rfl⟩
 ·have hm:jG x=true:=by simpa using Pe
  have e:dn x=gq x++List.replicate (64-(gq x).length) 0:=by unfold dn;rw[ae hm]
  rw[e];have am:x.load.length<=55:=by unfold jG at hm;simp only[be,aR]at hm;omega
  have ak:(gq x).length=6+x.load.length:=by unfold gq gp;rw[ab (by omega)];simp[fz];omega
  refine S.ld 0 ?_;refine S.ld 0 ?_;refine S.ld 0 ?_;refine S.call (lN (n:=1) (aa.nil _) (by omega) (by omega) (by simp)) fun v9 Y ah I o=>?_;obtain⟨rfl,au,rfl,Q⟩:=o;refine S.cd 0 Q fun Y I o=>?_;refine S.bE 0 ?_;refine S.bE 0 ?_;refine S.call (lN (n:=4) o (by omega) (by omega) (by simp[fz])) fun av W Z G d=>?_;obtain⟨rfl,ao,rfl,L⟩:=d;refine S.cd 0 L fun W G d=>?_;refine S.bE 0 ?_;refine S.call (JG (s:=x.load) d (by simp[fz]) (by omega)) fun U aw ac an D=>?_;obtain⟨rfl,R,rfl,A⟩:=D;change af aU U (gq x) R at A;refine S.len ?_;refine S.bin ?_;rw[show(64:Int)-((gq x).length:Int)=((64-(gq x).length:Nat):Int) by omega];refine S.pk (z0:=(0:UInt8)) (n:=64-(gq x).length) 0 A rfl (by omega) fun v20 ap M=>?_;refine S.hM 0 M ?_;refine⟨_,.t rfl .nil,.done ?_⟩;rfl
def vQ:Option aT->aT×Bool
 |some x=>(x,true)
 |none=>(fA,false)
theorem zx {U:Type} {l:List U} {i:Nat} (h:i<l.length):l[i]? =some l[i]:=bj h
theorem JI [Fx F] {s:Bs}:bm F 16 [.str s] O (.aN [.agg (bu.f (vQ (er s)).1),.bool (vQ (er s)).2]):=by
 refine ai.al (ar ?_);refine S.alloc fun I=>?_;refine S.cb ?_;refine S.bin ?_;refine C.B (fun OU=>?_) fun OU=>?_
 ·refine S.build ?_;refine S.store 0 ?_;have e:er s=none:=by
   unfold er;simp at OU;exact ab (by omega)
  rw[e];exact⟨_,.cN 0 rfl rfl rfl rfl (.t rfl .nil),.none rfl⟩
 ·have hl:s.length=64:=by simp at OU;omega
  refine S.jH fun Z ac U h=>?_;obtain⟨w,D,G⟩:=aa.lo h (show 1<=s.length by omega);refine S.slice D ?_;refine S.al (zw (n:=4) G (by omega) (by rw[bW];omega)) ?_;have A:cf (s.drop 1) 4=(dB ((s.drop 1).take 4),true):=by unfold cf;exact ab (by rw[bW];omega)
  rw[A];refine S.aF (j:=0) h (by omega) fun W M=>?_;refine S.a1 ?_;refine S.iY ?_;refine S.aF (j:=5) h (by omega) fun Y Q=>?_;refine S.a1 ?_;refine S.iY ?_;have R:=(s[5]).toNat_lt;refine S.kH (qU _ 55) ?_;refine S.bin ?_;rw[show(6:Int)+((min (s[5]).toNat 55:Nat):Int)=((6+min (s[5]).toNat 55:Nat):Int) by omega];refine S.gO (tf (s:=s) (i:=6) (j:=6+min (s[5]).toNat 55) (by omega) (by omega)) ?_;rw[show 6+min (s[5]).toNat 55-6=min (s[5]).toNat 55 by omega];refine S.build ?_;refine S.alloc fun L=>?_;refine S.store 0 ?_;have o:lM s=⟨(s[0]).toNat,dB ((s.drop 1).take 4),(s.drop 6).take (min (s[5]).toNat 55)⟩:=by
   unfold lM;rw[zx (show 0<s.length by omega),zx (show 5<s.length by omega)];(try rfl)
  refine S.ag 0 ?_;refine S.al (vP (x:=lM s)) ?_ (hx:=by rw[o];(try rfl));refine S.bin ?_;refine C.B (fun d=>?_) fun d=>?_
  ·refine S.build ?_;refine S.store 1 ?_;have e:er s=none:=by
    unfold er;rw[ae hl,ab (by simpa using d)]
   rw[e];exact⟨_,.cN 1 rfl rfl rfl rfl (.t rfl .nil),.none rfl⟩
  ·refine S.ag 0 ?_;refine S.store 1 ?_;have e:er s=some (lM s):=by
    unfold er;rw[ae hl,ae (by simpa using d)]
   rw[e,o];exact⟨_,.cN 1 rfl rfl rfl rfl (.t rfl .nil),.none rfl⟩
theorem q0 [Fx F] {n:Int}:bm F 221 [.j n] O (.bool (e1 n)):=by
 refine ai.al (ar ?_);refine S.bin ?_;refine G.mv ?_;refine G.bin ?_;refine G.and ?_;refine⟨_,.t rfl .nil,.done ?_⟩;rfl
theorem JJ [Fx F] {x:mC}:bm F 178 [.agg [.j x.n,.j x.seq,.j x.sum,.j x.aJ,.j x.pos]] O (.bool (zh x)):=by
 refine ai.al (ar ?_);refine S.box fun d=>?_;refine S.ld 0 ?_;refine S.al (q0) ?_;refine G.aD ?_;refine G.ld 0 ?_;refine G.bin ?_;refine G.and ?_;refine G.aD ?_;refine G.ld 0 ?_;refine G.al (fun _=>q0) ?_;refine G.and ?_;refine G.aD ?_;refine G.ld 0 ?_;refine G.al (fun _=>q0) ?_;refine G.and ?_;refine G.aD ?_;refine G.ld 0 ?_;refine G.al (fun _=>q0) ?_;refine G.and ?_;refine G.aD ?_;refine G.ld 0 ?_;refine G.al (fun _=>q0) ?_;refine G.and ?_;refine G.aD ?_;refine G.ld 0 ?_;refine G.bin ?_;refine G.and ?_;refine⟨_,.t rfl .nil,.done ?_⟩;rfl
theorem JK [Fx F] {x:mC}:bm F 122 [.agg [.j x.n,.j x.seq,.j x.sum,.j x.aJ,.j x.pos]] O (.str (ir x)):=by
 refine ai.al (ar ?_);refine S.box fun G=>?_;refine S.ag 0 ?_;refine S.al (JJ) ?_;refine S.un ?_;refine C.B (fun Po=>?_) fun Po=>?_
 ·have e:ir x=[]:=by unfold ir;rw[ab (by intro h;rw[h]at Po;cases Po)]
  rw[e];exact⟨_,.t rfl .nil,.none rfl⟩
 ·refine S.ld 0 ?_;refine S.ld 0 ?_;refine S.ld 0 ?_;refine S.ld 0 ?_;refine S.ld 0 ?_;refine S.pO (e:=bt) [x.seq,x.sum,x.aJ,x.pos] fun Q U I d=>?_;refine S.call (tk (n:=4) (aa.nil _) d (by omega) (by omega) (by simp) (by simp)) fun R W D L o=>?_;obtain⟨rfl,M,rfl,A⟩:=o;refine S.bE 1 ?_;refine S.hM 0 A ?_;refine S.build ?_;refine S.al (vP (x:=⟨5,x.n,bo 4 [x.seq,x.sum,x.aJ,x.pos]⟩)) ?_;have e:ir x=dn ⟨5,x.n,bo 4 [x.seq,x.sum,x.aJ,x.pos]⟩:=by unfold ir;rw[ae (by simpa using Po)]
  rw[e];exact⟨_,.t rfl .nil,.none rfl⟩
end Go.Ev
