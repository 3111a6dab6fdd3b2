/- A part of the proof of glacislaw13.LiveAll (made short by a program). -/
import Derived.Test.YtmglhbclhfgmaaaGreatDoorVF
namespace Go.Ev
structure bI (U:Type)where
 k:Nat
 f:U→List V
 len:∀x,(f x).length=k
 sc:∀x,aY (f x)=true
section
variable{U:Type} (e:bI U)
def bI.fl (l:List U):List V:=l.flatMap e.f
def bI.ob (s:Option Pa) (l:List U):Ob:=(s,.cells (e.fl l) false)
def aa (O:Fz) (v:V) (l:List U):Prop:=FS O v e.k l.length (e.fl l)
def ae (v:V) (l:List U) (s:Option Pa):Prop:=OV v e.k l.length (e.fl l) s
end
section
variable{U:Type} {e:bI U} {O ψ:Fz} {v:V} {l m:List U} {s:Option Pa} {R ad:List Ob}
theorem iT (l:List U):(e.fl l).length=l.length*e.k:=by
 induction l with
 |nil=>simp[bI.fl]
 |cons a l ih=>simp only[bI.fl,arN,amv,e.len,WW]at*;rw[ih,aqr,arh,arA]
theorem lI (l:List U):aY (e.fl l)=true:=by
 induction l with
 |nil=>rfl
 |cons a l ih=>exact Tc (e.sc a) ih
theorem uX (l m:List U):e.fl (l++m)=e.fl l++e.fl m:=by simp[bI.fl]
theorem ah9 (x:U):e.fl [x]=e.f x:=by simp[bI.fl]
theorem Ge (l:List U) (j:Nat):(e.fl l).drop (j*e.k)=e.fl (l.drop j):=by
 induction l generalizing j with
 |nil=>simp[bI.fl]
 |cons a l ih=>
  cases j with
  |zero=>simp
  |succ j=>
   show(e.f a++e.fl l).drop ((j+1)*e.k)=e.fl (l.drop j);rw[aqr,arh,List.drop_append,e.len,arl (by rw[e.len];omega),aqa,arn,ih]
theorem Gf (l:List U) (j:Nat):(e.fl l).take (j*e.k)=e.fl (l.take j):=by
 induction l generalizing j with
 |nil=>simp[bI.fl]
 |cons a l ih=>
  cases j with
  |zero=>simp[bI.fl]
  |succ j=>
   show(e.f a++e.fl l).take ((j+1)*e.k)=e.f a++e.fl (l.take j);rw[aqr,arh,List.take_append,e.len,aqz (by rw[e.len];omega),arn,ih]
theorem Gg (l:List U) (j:Nat) (hj:j<l.length):((e.fl l).drop (j*e.k)).take e.k=e.f l[j]:=by
 rw[Ge,Rm hj];show(e.f l[j]++e.fl (l.drop (j+1))).take e.k=_;rw[List.take_append,e.len,aqq,aq5,ap9,aqz (by rw[e.len];exact B5 _)]
theorem zq (l:List U) (j q:Nat) (hj:j<l.length) {u:V} (hu:(e.f l[j])[q]? =some u):(e.fl l)[j*e.k+q]? =some u:=by
 rw[←Gg l j hj,aqt]at hu;split at hu
 ·rw[aqi]at hu;exact hu
 ·cases hu
theorem Gh (a b xs:List V) (h:xs.length=a.length):over (a++b) xs=some (xs++b):=by
 induction xs generalizing a with
 |nil=>
  have:a=[]:=ap8 (by simpa using h.symm);subst this;cases b<;>rfl
 |cons x xs ih=>
  cases a with
  |nil=>simp at h
  |cons y a=>
   show(match over (a++b) xs with|some r=>some (x::r)|none=>none)=_;rw[ih a (by simpa using h)];(try rfl)
theorem Mb (a b:List V) (xs:List V) (n:Nat) (h:a.length=n):dk n (a++b) xs=(over b xs).map (a++·):=by
 induction a generalizing n with
 |nil=>
  simp only[aqW]at h;subst h;show over b xs=_;cases over b xs<;>rfl
 |cons x a ih=>
  subst h;show(match dk a.length (a++b) xs with|some r=>some (x::r)|none=>none)=_;rw[ih _ rfl];cases over b xs<;>rfl
theorem aia (l:List U) (j:Nat) (hj:j<l.length) (x:U):dk (j*e.k) (e.fl l) (e.f x)=some (e.fl (l.set j x)):=by
 have I:e.fl l=e.fl (l.take j)++(e.f l[j]++e.fl (l.drop (j+1))):=by
  have:l=l.take j++(l[j]::l.drop (j+1)):=by rw[arI,aqA]
  conv=>lhs;rw[this,uX]
  (try rfl)
 have J:(e.fl (l.take j)).length=j*e.k:=by rw[iT,ab7,aqn (by omega)]
 rw[I,Mb _ _ _ _ J,Gh _ _ _ (by rw[e.len,e.len])];rw[List.set_eq_take_append_cons_drop,B4 hj,uX];(try rfl)
theorem aib (l:List U) (j q:Nat) (hj:j<l.length) {xs:List V} {x:U} (hx:dk q (e.f l[j]) xs=some (e.f x)):dk (j*e.k+q) (e.fl l) xs=some (e.fl (l.set j x)):=by
 have I:e.fl l=e.fl (l.take j)++(e.f l[j]++e.fl (l.drop (j+1))):=by
  have:l=l.take j++(l[j]::l.drop (j+1)):=by rw[arI,aqA]
  conv=>lhs;rw[this,uX]
  (try rfl)
 have J:(e.fl (l.take j)).length=j*e.k:=by rw[iT,ab7,aqn (by omega)]
 have key:∀(a b:List V) (q:Nat) (xs r:List V),dk q a xs=some r→dk q (a++b) xs=some (r++b):=by
  intro a b q xs r h;obtain⟨h3,h4⟩:=Ci h;have h5:a++b=a.take q++(((a.drop q).take xs.length)++(a.drop (q+xs.length)++b)):=by
   rw[←KK ((a.drop q).take xs.length),←aq6,aqA,←KK,aqA]
  rw[h5,Mb _ _ _ _ (by rw[ab7];omega),Gh _ _ _ (by rw[ab7,Rn];omega),h4];simp
 have X4:∀(a b:List V) (q:Nat) (xs r:List V),dk q b xs=some r→dk (a.length+q) (a++b) xs=some (a++r):=by
  intro a b q xs r h
  induction a with
  |nil=>simpa using h
  |cons y a ih=>
   rw[WW,Nat.add_right_comm];show(match dk (a.length+q) (a++b) xs with|some r=>some (y::r)|none=>none)=_;rw[ih];(try rfl)
 rw[I,←J,X4 _ _ _ _ _ (key _ _ _ _ _ hx),List.set_eq_take_append_cons_drop,B4 hj,uX];(try rfl)
theorem aa.mono (h:aa e O v l) (ac:O.Le ψ):aa e ψ v l:=FS.mono h ac
theorem aa.nil (O:Fz):aa e O (.no .sl) ([]:List U):=FS.nil O e.k
theorem ae.nil:ae e (.no .sl) ([]:List U) none:=OV.nil e.k
theorem aa.len (h:aa e O v l):sE v=some (.int .i64 (l.length:Int)):=FS.len h
theorem ae.len (h:ae e v l s):sE v=some (.int .i64 (l.length:Int)):=OV.len h
theorem aa.hi (h:aa e O v l) {j:Nat} (hj:j≤l.length):∃v',ef e.k v none (some (.int .i64 (j:Int))) none=some v'∧aa e O v' (l.take j):=by
 obtain⟨v',I,J⟩:=FS.hi h hj;refine⟨v',I,?_⟩;rw[Gf]at J;unfold aa
 rwa [ab7,aqn hj]
theorem aa.lo (h:aa e O v l) {j:Nat} (hj:j≤l.length):∃v',ef e.k v (some (.int .i64 (j:Int))) none none=some v'∧aa e O v' (l.drop j):=by
 obtain⟨v',I,J⟩:=FS.lo h hj;refine⟨v',I,?_⟩;rw[Ge]at J;unfold aa
 rwa [Rn]
theorem aa.both (h:aa e O v l) {i j:Nat} (dr:i≤j) (hj:j≤l.length):∃v',ef e.k v (some (.int .i64 (i:Int))) (some (.int .i64 (j:Int))) none=some v'∧aa e O v' ((l.drop i).take (j-i)):=by
 obtain⟨v',I,J⟩:=FS.both h dr hj;refine⟨v',I,?_⟩;rw[Ge,Gf]at J;unfold aa
 rwa [ab7,Rn,aqn (by omega)]
theorem ae.new {a:Pa} {n:Nat} (hn:l.length=n):ae e (.sl a 0 n (.ex n)) l (some a):=by
 subst hn;exact⟨iT l,lI l,.inr (.inr ⟨a,rfl,rfl⟩)⟩
theorem ae.set (h:ae e v l s) (j:Nat) (x:U):ae e v (l.set j x) s:=by
 obtain⟨_,_,k3⟩:=h;exact⟨iT _,lI _,by rw[arw];exact k3⟩
def sV (e:bI U) (O:Fz) (R:List Ob) (u:V) (m:List U):Prop:=Src O R e.k u m.length (e.fl m)
theorem sV.f (h:aa e O v l):sV e O R v l:=Src.f h
theorem sV.lit (i:Nat) {a:Pa} {x:U} {c:hW} (hi:R[i]? =some (some a,.cells (e.f x) false):=by rfl):sV e O R (.sl a 0 1 c) [x]:=by
 have:=Src.new (O:=O) (R:=R) (k:=e.k) (m:=1) (a:=a) (c:=c) i (by rw[e.len,arh]) hi;unfold sV;rw[ah9];exact this
def aQ:bI UInt8:=⟨1,fun b=>[c5 b],fun _=>rfl,fun _=>rfl⟩
theorem qX (s:List UInt8):aQ.fl s=s.map c5:=by
 induction s with
 |nil=>rfl
 |cons b s ih=>show[c5 b]++aQ.fl s=_;rw[ih];(try rfl)
def ec:bI (List UInt8):=⟨1,fun s=>[.str s],fun _=>rfl,fun _=>rfl⟩
def bp:bI Int:=⟨1,fun n=>[.int .i64 n],fun _=>rfl,fun _=>rfl⟩
def qY:bI Bool:=⟨1,fun b=>[.bool b],fun _=>rfl,fun _=>rfl⟩
end
theorem SH.nil {O:Fz} {h:Hp} {R:List Ob} (s:SH O h R) (b:al):SH O h ((none,b)::R):=by
 have key:∀(i:Nat) (a:Pa) (c:al),((none,b)::R:List Ob)[i]? =some (some a,c)→∃j,i=j+1∧R[j]? =some (some a,c):=fun i a c hi=>by
  cases i with
  |zero=>simp at hi
  |succ j=>exact⟨j,rfl,by simpa using hi⟩
 refine⟨s.wf,s.mQ,fun i a c hi=>?_,fun i j a c d hi hj=>?_⟩
 ·obtain⟨k,rfl,hk⟩:=key i a c hi;exact s.own k a c hk
 ·obtain⟨k,rfl,hk⟩:=key i a c hi;obtain⟨l,rfl,hl⟩:=key j a d hj;rw[s.apart k l a c d hk hl]
theorem Fin.new {O:Fz} {R:List Ob} {P:Fz→List Ob→Prop} {U:Type} (e:bI U) (hn:Fin O (e.ob Option.none []::R) P):Fin O R P:=fun ad h sh=>hn ad h (sh.nil _)
theorem SW.new {F:Nat→Option aN} {K:KX} {E:Env} {O:Fz} {R:List Ob} {Q:bB} {c:IC al} {U:Type} (e:bI U) (hn:SW F K c E O (e.ob none []::R) Q):SW F K c E O R Q:=fun ad h sh=>hn ad h (sh.nil _)
theorem S.new {F:Nat→Option aN} {K:KX} {E:Env} {O:Fz} {R:List Ob} {Q:bB} {rs:List Op} {U:Type} (e:bI U) (hn:SA F K rs E O (e.ob none []::R) Q):SR F K (Op.aI rs) E O R Q:=fun ad h sh=>S.r hn ad h (sh.nil _)
namespace S
variable{F:Nat→Option aN} {K:KX} {E:Env} {O:Fz} {R:List Ob} {Q:bB} {rs:List Op} {d:Nat} {g:Option (Pa×Bool)} {U:Type} {e:bI U} {v:V} {l m:List U} {s:Option Pa}
theorem aF {k j:Nat} {x i:Od} {q:IntKind} (hs:aa e O v l) (hj:j<l.length) (hn:∀p,EP O p (e.f l[j])→SA F K rs ((d,p)::E) O R Q) (hx:ax E x v:=by first|exact .t rfl|exact .c) (hi:ax E i (.int q (j:Int)):=by first|exact .t rfl|exact .c) (hk:k=e.k:=by rfl) (hw:az E g .yes:=by first|exact .none|exact .yes rfl):
 SR F K (.op ⟨some (pa d),bA none k x i,g⟩::Op.aI rs) E O R Q:=by
 subst hk;exact afb hs hj (fun p hp=>hn p (by rw[Gg l j hj]at hp;exact hp)) hx hi hw
theorem cX {k j:Nat} {x i:Od} {q:IntKind} (ho:ae e v l s) (hj:j<l.length) (hn:∀a,s=some a→SA F K rs ((d,.ptr a (j*e.k))::E) O R Q) (hx:ax E x v:=by exact .t rfl) (hi:ax E i (.int q (j:Int)):=by first|exact .t rfl|exact .c) (hk:k=e.k:=by rfl) (hw:az E g .yes:=by first|exact .none|exact .yes rfl):
 SR F K (.op ⟨some (pa d),bA none k x i,g⟩::Op.aI rs) E O R Q:=by
 subst hk;exact zk ho hj hn hx hi hw
theorem fM {j o:Nat} {x:Od} {a:Pa} {u:V} (q i:Nat) (hn:SA F K rs ((d,u)::E) O R Q) (hi:R[i]? =some (e.ob (some a) l):=by rfl) (ho:o=j*e.k+q:=by rfl) (hx:ax E x (.ptr a o):=by exact .t rfl) (hj:j<l.length:=by first|assumption|omega) (hu:(e.f l[j])[q]? =some u:=by rfl) (hw:az E g .yes:=by first|exact .none|exact .yes rfl):
 SR F K (.op ⟨some (pa d),bY none x,g⟩::Op.aI rs) E O R Q:=ld i hn hx hi (by subst ho;exact zq l j q hj hu) hw
theorem CJ {j n:Nat} {x:Od} {a:Pa} (i:Nat) (hj:j<l.length) (hn:SA F K rs ((d,.agg (e.f l[j]))::E) O R Q) (hi:R[i]? =some (e.ob (some a) l):=by rfl) (hk:n=e.k:=by rfl) (hx:ax E x (.ptr a (j*e.k)):=by exact .t rfl) (hw:az E g .yes:=by first|exact .none|exact .yes rfl):
 SR F K (.op ⟨some (pa d),bY (some n) x,g⟩::Op.aI rs) E O R Q:=by
 subst hk;exact af i hn hx hi (Gg l j hj) (e.len _) hw
theorem pE {j n:Nat} {y x:Od} {a:Pa} {u:V} (z:U) (i:Nat) (hn:SA F K rs E O (R.set i (e.ob (some a) (l.set j z))) Q) (hi:R[i]? =some (e.ob (some a) l):=by rfl) (hk:n=e.k:=by rfl) (ha:ax E y (.ptr a (j*e.k)):=by exact .t rfl) (hx:ax E x u:=by first|exact .t rfl|exact .c) (hu:u.cells=e.f z:=by rfl) (hj:j<l.length:=by first|assumption|omega) (hw:az E g .yes:=by first|exact .none|exact .yes rfl):
 SR F K (.op ⟨none,gy n y x,g⟩::Op.aI rs) E O R Q:=by
 subst hk;exact store i hn ha hx hi (by rw[hu];exact aia l j hj z) (by rw[hu,e.len];exact eQ _) (by rw[hu];exact e.sc z) hw
theorem zr {j o n:Nat} {y x:Od} {a:Pa} {u:V} (z:U) (q i:Nat) (hn:SA F K rs E O (R.set i (e.ob (some a) (l.set j z))) Q) (hi:R[i]? =some (e.ob (some a) l):=by rfl) (ho:o=j*e.k+q:=by rfl) (ha:ax E y (.ptr a o):=by exact .t rfl) (hx:ax E x u:=by first|exact .t rfl|exact .c) (hj:j<l.length:=by first|assumption|omega) (hu:dk q (e.f l[j]) u.cells=some (e.f z):=by rfl) (hl:Nat.beq u.cells.length n=true:=by rfl) (hs:aY u.cells=true:=by rfl) (hw:az E g .yes:=by first|exact .none|exact .yes rfl):
 SR F K (.op ⟨none,gy n y x,g⟩::Op.aI rs) E O R Q:=by
 subst ho;exact store i hn ha hx hi (aib l j q hj hu) hl hs hw
theorem bu {k:Nat} {y x:Od} {u:V} (i:Nat) (ho:ae e v l s) (hs:sV e O R u m) (hb:l.length+m.length≤1073741824) (hn:∀v' s',ae e v' (l++m) s'→SA F K rs ((d,v')::E) O (R.set i (e.ob s' (l++m))) Q) (tN:0<e.k:=by decide) (hi:R[i]? =some (e.ob s l):=by rfl) (hk:k=e.k:=by rfl) (hy:ax E y v:=by first|exact .t rfl|exact .c) (hx:ax E x u:=by first|exact .t rfl|exact .c) (hw:az E g .yes:=by first|exact .none|exact .yes rfl):
 SR F K (.op ⟨some (pa d),Cc k y x,g⟩::Op.aI rs) E O R Q:=by
 subst hk;refine app i hi ho hs (lI m) hb tN (fun v' s' h=>?_) hy hx hw;have I:ae e v' (l++m) s':=by unfold ae;rw[uX,amv];exact h
 have:=hn v' s' I;unfold bI.ob at this
 rwa [uX]at this
theorem ct (i:Nat) (ho:ae e v l s) (hn:∀ψ,O.Le ψ→aa e ψ v l→SA F K rs E ψ (R.eraseIdx i) Q) (hi:R[i]? =some (e.ob s l):=by rfl):SR F K (Op.aI rs) E O R Q:=bR i ho hi hn
end S
end Go.Ev
namespace Go.Ev
def gv (b:Bool) (v:V):V:=bif b then v else dm
theorem aic {b:Bool} {v:V} (h:b=true):gv b v=v:=by subst h;rfl
def Gd (E:Env) (g:Option (Pa×Bool)) (b:Bool):Prop:=∀e,ch e E→fa e g=bif b then .yes else .no
theorem Gd.y {E:Env} {n:Nat} {c:Bool} (h:lk n E=some (.bool c)):Gd E (some (pa n,true)) c:=fun e he=>by
 cases c
 ·exact az.no (n:=n) h rfl e he
 ·exact az.yes (n:=n) h e he
theorem Gd.n {E:Env} {n:Nat} {c:Bool} (h:lk n E=some (.bool c)):Gd E (some (pa n,false)) (!c):=fun e he=>by
 cases c
 ·exact az.yes (n:=n) h e he
 ·exact az.no (n:=n) h rfl e he
theorem Gd.yg {E:Env} {n:Nat} {b c:Bool} (h:lk n E=some (gv b (.bool c))):Gd E (some (pa n,true)) (b&&c):=fun e he=>by
 cases b
 ·exact az.S6 (n:=n) (l:=[]) h e he
 ·exact Gd.y h e he
theorem Gd.ng {E:Env} {n:Nat} {b c:Bool} (h:lk n E=some (gv b (.bool c))):Gd E (some (pa n,false)) (b&&!c):=fun e he=>by
 cases b
 ·exact az.S6 (n:=n) (l:=[]) h e he
 ·exact Gd.n h e he
def dM (E:Env) (x:Od) (b:Bool) (v:V):Prop:=b=true→ax E x v
theorem dM.u {E:Env} {x:Od} {b:Bool} {v:V} (h:ax E x v):dM E x b v:=fun _=>h
theorem dM.g {E:Env} {n:Nat} {b:Bool} {v:V} (h:lk n E=some (gv b v)):dM E (.t (pa n)) b v:=fun hb=>.t (by rw[h,aic hb])
inductive uY (E:Env) (b:Bool):List Od→List V→Prop
 |nil:uY E b [] []
 |cons {x:Od} {a:V} {xs:List Od} {vs:List V} (h:dM E x b a) (hs:uY E b xs vs):uY E b (x::xs) (a::vs)
theorem uY.is {E:Env} {b:Bool} {xs:List Od} {vs:List V} (h:uY E b xs vs) (hb:b=true):py E xs vs:=by
 induction h with
 |nil=>exact .nil
 |cons h _ ih=>exact .cons (h hb) ih
theorem S.sW {F:Nat→Option aN} {K:KX} {E:Env} {O:Fz} {R:List Ob} {Q:bB} {rs:List Op} {d:Nat} {c:Bool} (hn:∀b,b=c→SA F K rs ((d,.bool b)::E) O R Q):SA F K rs ((d,.bool c)::E) O R Q:=hn c rfl
theorem G.sW {F:Nat→Option aN} {K:KX} {E:Env} {O:Fz} {R:List Ob} {Q:bB} {rs:List Op} {d:Nat} {c g:Bool} (hn:∀b,b=c→SA F K rs ((d,gv g (.bool b))::E) O R Q):SA F K rs ((d,gv g (.bool c))::E) O R Q:=hn c rfl
namespace G
variable{F:Nat→Option aN} {K:KX} {E:Env} {O:Fz} {R:List Ob} {Q:bB} {rs:List Op} {d:Nat} {g:Option (Pa×Bool)} {b:Bool}
theorem pu {f:T V→Hp→Option V} {v:V} (hg:Gd E g b) (hf:b=true→∀W h,SH O h (R++W)→∀e,ch e E→f e h=some v) (hn:SA F K rs ((d,gv b v)::E) O R Q):SR F K (.op ⟨some (pa d),.pu f,g⟩::Op.aI rs) E O R Q:=fun W h sh=>by
 cases b with
 |false=>exact ad.no hg (S.r hn W h sh)
 |true=>exact ad.pu hg (hf rfl W h sh) (S.r hn W h sh)
theorem mv {x:Od} {a:V} (hn:SA F K rs ((d,gv b a)::E) O R Q) (hg:Gd E g b:=by first|exact .y rfl|exact .n rfl|exact .yg rfl|exact .ng rfl) (hx:dM E x b a:=by first|exact .g rfl|exact .gl rfl|exact .u (.t rfl)|exact .u .c):SR F K (.op ⟨some (pa d),qA x,g⟩::Op.aI rs) E O R Q:=
 pu hg (fun hb _ _ _ e he=>by simp only[hx hb e he]) hn
theorem aE {off:Nat} {x:Od} {a:Pa} {o:Nat} (hn:SA F K rs ((d,gv b (.ptr a (o+off)))::E) O R Q) (hg:Gd E g b:=by first|exact .y rfl|exact .n rfl|exact .yg rfl|exact .ng rfl) (hx:dM E x b (.ptr a o):=by first|exact .g rfl|exact .gl rfl|exact .u (.t rfl)):SR F K (.op ⟨some (pa d),qC off x,g⟩::Op.aI rs) E O R Q:=
 pu hg (fun hb _ _ _ e he=>by simp only[hx hb e he]) hn
theorem nil? {x:Od} {a:Pa} {o:Nat} (hn:SA F K rs ((d,gv b (.ptr a o))::E) O R Q) (hg:Gd E g b:=by first|exact .y rfl|exact .n rfl|exact .yg rfl|exact .ng rfl) (hx:dM E x b (.ptr a o):=by first|exact .g rfl|exact .gl rfl|exact .u (.t rfl)):SR F K (.op ⟨some (pa d),jf x,g⟩::Op.aI rs) E O R Q:=
 pu hg (fun hb _ _ _ e he=>by simp only[hx hb e he]) hn
theorem bin {op:BinOp} {q:cV} {x y:Od} {u w v:V} (hn:SA F K rs ((d,gv b v)::E) O R Q) (hg:Gd E g b:=by first|exact .y rfl|exact .n rfl|exact .yg rfl|exact .ng rfl) (hx:dM E x b u:=by first|exact .g rfl|exact .gl rfl|exact .u (.t rfl)|exact .u .c) (hy:dM E y b w:=by first|exact .g rfl|exact .gl rfl|exact .u (.t rfl)|exact .u .c)
 (hv:b=true→cg op q u w=some v:=by(intro hb;first|exact L2|exact Te|exact Tf|exact Tg|exact Th|exact Ti|exact Tj|exact Tk|exact ei (by omega) (by omega)|exact ig (by omega) (by omega)|exact F5 (by omega) (by omega)|exact sS (by omega)|rfl)):SR F K (.op ⟨some (pa d),a1 op q x y,g⟩::Op.aI rs) E O R Q:=
 pu hg (fun hb _ _ _ e he=>by simp only[hx hb e he,hy hb e he,hv hb]) hn
theorem un {op:UnOp} {x:Od} {u v:V} (hn:SA F K rs ((d,gv b v)::E) O R Q) (hg:Gd E g b:=by first|exact .y rfl|exact .n rfl|exact .yg rfl|exact .ng rfl) (hx:dM E x b u:=by first|exact .g rfl|exact .gl rfl|exact .u (.t rfl)|exact .u .c) (hv:yX op u=some v:=by rfl):SR F K (.op ⟨some (pa d),dS op x,g⟩::Op.aI rs) E O R Q:=
 pu hg (fun hb _ _ _ e he=>by simp only[hx hb e he,hv]) hn
theorem len {x:Od} {a:V} {n:Nat} (hn:SA F K rs ((d,gv b (.int .i64 (n:Int)))::E) O R Q) (hg:Gd E g b:=by first|exact .y rfl|exact .n rfl|exact .yg rfl|exact .ng rfl) (hx:dM E x b a:=by first|exact .g rfl|exact .gl rfl|exact .u (.t rfl)|exact .u .c) (hl:sE a=some (.int .i64 (n:Int)):=by first|exact FS.len (by assumption)|exact OV.len (by assumption)|exact aa.len (by assumption)|exact ae.len (by assumption)|rfl):SR F K (.op ⟨some (pa d),c6 x,g⟩::Op.aI rs) E O R Q:=
 pu hg (fun hb _ _ _ e he=>by rw[hx hb e he];exact hl) hn
theorem cD {x:Od} {s:List UInt8} (hn:SA F K rs ((d,gv b (.int .i64 (s.length:Int)))::E) O R Q) (hg:Gd E g b:=by first|exact .y rfl|exact .n rfl|exact .yg rfl|exact .ng rfl) (hx:dM E x b (.str s):=by first|exact .g rfl|exact .gl rfl|exact .u (.t rfl)|exact .u .c):SR F K (.op ⟨some (pa d),cq x,g⟩::Op.aI rs) E O R Q:=
 pu hg (fun hb _ _ _ e he=>by rw[hx hb e he];(try rfl)) hn
theorem qV {k j:IntKind} {x:Od} {n:Int} (hn:SA F K rs ((d,gv b (.int k (e6 k n)))::E) O R Q) (hg:Gd E g b:=by first|exact .y rfl|exact .n rfl|exact .yg rfl|exact .ng rfl) (hx:dM E x b (.int j n):=by first|exact .g rfl|exact .gl rfl|exact .u (.t rfl)|exact .u .c):SR F K (.op ⟨some (pa d),cH k x,g⟩::Op.aI rs) E O R Q:=
 pu hg (fun hb _ _ _ e he=>by simp only[hx hb e he]) hn
theorem iS {x i:Od} {s:List UInt8} {j:Nat} {k:IntKind} {c:UInt8} (hn:SA F K rs ((d,gv b (.int .u8 (c.toNat:Int)))::E) O R Q) (hg:Gd E g b:=by first|exact .y rfl|exact .n rfl|exact .yg rfl|exact .ng rfl) (hx:dM E x b (.str s):=by first|exact .g rfl|exact .gl rfl|exact .u (.t rfl)|exact .u .c) (hi:dM E i b (.int k (j:Int)):=by first|exact .g rfl|exact .gl rfl|exact .u (.t rfl)|exact .u .c) (hj:b=true→s[j]? =some c:=by first|assumption|(intro _;assumption)):
 SR F K (.op ⟨some (pa d),iy x i,g⟩::Op.aI rs) E O R Q:=
 pu hg (fun hb _ _ _ e he=>by
  have I:i.ev e=.int k (.ofNat j):=hi hb e he;simp only[hx hb e he,I,qH,hj hb];rfl) hn
theorem ld {x:Od} {a:Pa} {o:Nat} {u:V} {cs:List V} (i:Nat) (hn:SA F K rs ((d,gv b u)::E) O R Q) (hg:Gd E g b:=by first|exact .y rfl|exact .n rfl|exact .yg rfl|exact .ng rfl) (hx:dM E x b (.ptr a o):=by first|exact .g rfl|exact .gl rfl|exact .u (.t rfl)) (hi:R[i]? =some (some a,.cells cs false):=by rfl) (hu:cs[o]? =some u:=by rfl):SR F K (.op ⟨some (pa d),bY none x,g⟩::Op.aI rs) E O R Q:=
 pu hg (fun hb W h sh e he=>by
  have I:=(gf.of (SH.hC sh hi) rfl).one hu;rw[ap7]at I;simp only[hx hb e he,I]) hn
theorem af {x:Od} {a:Pa} {o n:Nat} {cs l:List V} (i:Nat) (hn:SA F K rs ((d,gv b (.agg l))::E) O R Q) (hg:Gd E g b:=by first|exact .y rfl|exact .n rfl|exact .yg rfl|exact .ng rfl) (hx:dM E x b (.ptr a o):=by first|exact .g rfl|exact .gl rfl|exact .u (.t rfl)) (hi:R[i]? =some (some a,.cells cs false):=by rfl) (hl:(cs.drop o).take n=l:=by rfl) (h1:l.length=n:=by rfl):SR F K (.op ⟨some (pa d),bY (some n) x,g⟩::Op.aI rs) E O R Q:=
 pu hg (fun hb W h sh e he=>by
  have I:=(gf.of (SH.hC sh hi) rfl).agg hl h1;rw[ap7]at I;simp only[hx hb e he,I]) hn
theorem aX {x:Od} {p u:V} {xs:List V} (hn:SA F K rs ((d,gv b u)::E) O R Q) (hg:Gd E g b:=by first|exact .y rfl|exact .n rfl|exact .yg rfl|exact .ng rfl) (hx:dM E x b p:=by first|exact .g rfl|exact .gl rfl|exact .u (.t rfl)) (hp:b=true→EP O p xs:=by assumption) (hu:xs[0]? =some u:=by rfl):SR F K (.op ⟨some (pa d),bY none x,g⟩::Op.aI rs) E O R Q:=
 pu hg (fun hb W h sh e he=>by rw[hx hb e he];exact(hp hb).L6 hu sh) hn
theorem bP {x:Od} {p:V} {xs l:List V} {n:Nat} (hn:SA F K rs ((d,gv b (.agg l))::E) O R Q) (hg:Gd E g b:=by first|exact .y rfl|exact .n rfl|exact .yg rfl|exact .ng rfl) (hx:dM E x b p:=by first|exact .g rfl|exact .gl rfl|exact .u (.t rfl)) (hp:b=true→EP O p xs:=by assumption) (hl:xs.take n=l:=by rfl) (h1:l.length=n:=by rfl):SR F K (.op ⟨some (pa d),bY (some n) x,g⟩::Op.aI rs) E O R Q:=
 pu hg (fun hb W h sh e he=>by rw[hx hb e he];exact(hp hb).cl hl h1 sh) hn
theorem bl {off:Nat} {x:Od} {p:V} {xs:List V} (hp:b=true→EP O p xs) (hn:∀q,(b=true→EP O q (xs.drop off))→SA F K rs ((d,gv b q)::E) O R Q) (hg:Gd E g b:=by first|exact .y rfl|exact .n rfl|exact .yg rfl|exact .ng rfl) (hx:dM E x b p:=by first|exact .g rfl|exact .gl rfl|exact .u (.t rfl)):SR F K (.op ⟨some (pa d),qC off x,g⟩::Op.aI rs) E O R Q:=by
 cases b with
 |false=>exact pu (v:=.no .bot) hg (fun h=>by cases h) (hn _ (fun h=>by cases h))
 |true=>
  obtain⟨a,o,I,J⟩:=(hp rfl).field off;exact pu hg (fun hb _ _ _ e he=>by rw[hx rfl e he,I]) (hn _ (fun _=>J))
theorem aF {U:Type} {j2:bI U} {v:V} {l:List U} {k j:Nat} {x i:Od} {q:IntKind} {z:U} (hs:aa j2 O v l) (hn:∀p,(b=true→EP O p (j2.f z))→SA F K rs ((d,gv b p)::E) O R Q) (hg:Gd E g b:=by first|exact .y rfl|exact .n rfl|exact .yg rfl|exact .ng rfl) (hx:dM E x b v:=by first|exact .g rfl|exact .gl rfl|exact .u (.t rfl)|exact .u .c) (hi:dM E i b (.int q (j:Int)):=by first|exact .g rfl|exact .gl rfl|exact .u (.t rfl)|exact .u .c) (hk:k=j2.k:=by rfl) (hj:b=true→l[j]? =some z:=by first|assumption|(intro _;assumption)):
 SR F K (.op ⟨some (pa d),bA none k x i,g⟩::Op.aI rs) E O R Q:=by
 subst hk;cases b with
 |false=>exact pu (v:=.no .bot) hg (fun h=>by cases h) (hn _ (fun h=>by cases h))
 |true=>
  obtain⟨ap,hz⟩:=ap1.1 (hj rfl);obtain⟨a,o,c,I,J⟩:=FS.at hs ap;rw[Gg l j ap,hz]at J;refine pu hg (fun hb _ _ _ e he=>?_) (hn _ (fun _=>J));have hb:Nat.blt j l.length=true:=by simpa[ari]using ap
  have b8:i.ev e=.int q (.ofNat j):=hi rfl e he;simp only[hx rfl e he,I,b8,hb,E7]
theorem cX {U:Type} {j2:bI U} {v:V} {l:List U} {s:Option Pa} {k j:Nat} {x i:Od} {q:IntKind} (ho:ae j2 v l s) (hj:j<l.length) (hn:∀a,s=some a→SA F K rs ((d,gv b (.ptr a (j*j2.k)))::E) O R Q) (hg:Gd E g b:=by first|exact .y rfl|exact .n rfl|exact .yg rfl|exact .ng rfl) (hx:dM E x b v:=by first|exact .g rfl|exact .gl rfl|exact .u (.t rfl)) (hi:dM E i b (.int q (j:Int)):=by first|exact .g rfl|exact .gl rfl|exact .u (.t rfl)|exact .u .c) (hk:k=j2.k:=by rfl):
 SR F K (.op ⟨some (pa d),bA none k x i,g⟩::Op.aI rs) E O R Q:=by
 cases b with
 |true=>exact S.cX ho hj hn (hx rfl) (hi rfl) hk hg
 |false=>
  rcases ho.2.2 with⟨_,I,_⟩|⟨a,_,rfl⟩|⟨a,_,rfl⟩
  ·omega
  ·exact S.no hg (hn a rfl)
  ·exact S.no hg (hn a rfl)
theorem fM {U:Type} {j2:bI U} {l:List U} {j o:Nat} {x:Od} {a:Pa} {u:V} (q i:Nat) (hn:SA F K rs ((d,gv b u)::E) O R Q) (hg:Gd E g b:=by first|exact .y rfl|exact .n rfl|exact .yg rfl|exact .ng rfl) (hi:R[i]? =some (j2.ob (some a) l):=by rfl) (ho:o=j*j2.k+q:=by rfl) (hx:dM E x b (.ptr a o):=by first|exact .g rfl|exact .gl rfl|exact .u (.t rfl)) (hj:j<l.length:=by first|assumption|omega) (hu:(j2.f l[j])[q]? =some u:=by rfl):
 SR F K (.op ⟨some (pa d),bY none x,g⟩::Op.aI rs) E O R Q:=by
 cases b with
 |true=>exact S.fM q i hn hi ho (hx rfl) hj hu hg
 |false=>exact S.no hg hn
theorem or {n:Nat} {c:Od} {a r:Bool} (hn:SA F K rs ((d,.bool (a||r))::E) O R Q) (hc:ax E c (.bool a):=by exact .t rfl) (hy:lk n E=some (gv (!a) (.bool r)):=by rfl):SR F K (.op ⟨some (pa d),eg c (.c (.bool true)) (.t (pa n)),none⟩::Op.aI rs) E O R Q:=fun W h sh=>
 ad.pu .none (fun e he=>by
  simp only[hc e he];cases a with
  |true=>rfl
  |false=>exact congrArg some (ax.t hy e he)) (S.r hn W h sh)
theorem and {n:Nat} {c:Od} {a r:Bool} (hn:SA F K rs ((d,.bool (a&&r))::E) O R Q) (hc:ax E c (.bool a):=by exact .t rfl) (hy:lk n E=some (gv a (.bool r)):=by rfl):SR F K (.op ⟨some (pa d),eg c (.t (pa n)) (.c (.bool false)),none⟩::Op.aI rs) E O R Q:=fun W h sh=>
 ad.pu .none (fun e he=>by
  simp only[hc e he];cases a with
  |false=>rfl
  |true=>exact congrArg some (ax.t hy e he)) (S.r hn W h sh)
theorem xl {n:Nat} {c:Od} {a r:Bool} (hn:SA F K rs ((d,gv b (.bool (a||r)))::E) O R Q) (hg:Gd E g b:=by first|exact .y rfl|exact .n rfl|exact .yg rfl|exact .ng rfl) (hc:dM E c b (.bool a):=by first|exact .g rfl|exact .gl rfl|exact .u (.t rfl)) (hy:lk n E=some (gv (b&&!a) (.bool r)):=by rfl):SR F K (.op ⟨some (pa d),eg c (.c (.bool true)) (.t (pa n)),g⟩::Op.aI rs) E O R Q:=
 pu hg (fun hb _ _ _ e he=>by
  simp only[hc hb e he];subst hb;cases a with
  |true=>rfl
  |false=>exact congrArg some (ax.t hy e he)) hn
theorem jR {n:Nat} {c:Od} {a r:Bool} (hn:SA F K rs ((d,gv b (.bool (a&&r)))::E) O R Q) (hg:Gd E g b:=by first|exact .y rfl|exact .n rfl|exact .yg rfl|exact .ng rfl) (hc:dM E c b (.bool a):=by first|exact .g rfl|exact .gl rfl|exact .u (.t rfl)) (hy:lk n E=some (gv (b&&a) (.bool r)):=by rfl):SR F K (.op ⟨some (pa d),eg c (.t (pa n)) (.c (.bool false)),g⟩::Op.aI rs) E O R Q:=
 pu hg (fun hb _ _ _ e he=>by
  simp only[hc hb e he];subst hb;cases a with
  |false=>rfl
  |true=>exact congrArg some (ax.t hy e he)) hn
theorem ak [gd K] {n:Nat} {xs:List Od} {vs:List V} {v:V} (hc:b=true→bk F n vs O v) (hn:SA F K rs ((d,gv b v)::E) O R Q) (hg:Gd E g b:=by first|exact .y rfl|exact .n rfl|exact .yg rfl|exact .ng rfl) (hx:uY E b xs vs:=by repeat(first|exact .nil|refine .cons (.g rfl) ?_|refine .cons (.gl rfl) ?_|refine .cons (.u (.t rfl)) ?_|refine .cons (.u .c) ?_)):SR F K (.op ⟨some (pa d),aC n xs,g⟩::Op.aI rs) E O R Q:=by
 cases b with
 |false=>exact S.no hg hn
 |true=>exact S.afc (hc rfl) hn (hx.is rfl) hg
end G
end Go.Ev
namespace Go.Ev
namespace S
variable{F:Nat→Option aN} {K:KX} {E:Env} {O:Fz} {R:List Ob} {Q:bB} {rs:List Op} {d:Nat} {g:Option (Pa×Bool)}
theorem lJ [gd K] {n:Nat} {xs:List Od} {vs:List V} {Rt Up:V→Fz→List Ob→Prop} (k:Nat) (hc:ai F n vs O (R.take k) Rt Up) (hn:∀v ψ O',O.Le ψ→Rt v ψ O'→SA F K rs ((d,v)::E) ψ (O'++R.drop k) Q) (hu:∀v ψ O',O.Le ψ→Up v ψ O'→Q.p E v ψ (O'++R.drop k)) (hx:kD E xs=some vs:=by rfl) (hw:az E g .yes:=by first|exact .none|exact .yes rfl):
 SR F K (.op ⟨some (pa d),aC n xs,g⟩::Op.aI rs) E O R Q:=fun W h sh=>by
 rcases hc (R.drop k++W) h (by rw[←KK,aqA];exact sh)with⟨v,h',I,ψ,O',J,h3,h4⟩|⟨v,h',I,ψ,O',J,h3,h4⟩
 ·exact WR.up J (ad.call hw (nV hx) I (S.r (hn v ψ O' J h4) W h' (by rw[KK];exact h3)))
 ·exact WR.aeT (d:=some d) hw (fun e he=>by show lj.call n (ea e xs)=_;rw[(nV hx).ev he]) I ⟨ψ,O'++R.drop k,J,by rw[KK];exact h3,hu v ψ O' J h4⟩
theorem panic {x:Od} {t:Nat} {v:V} (hq:Q.p E (.iface t v) O R) (hx:ax E x (.iface t v):=by first|exact .t rfl|exact .c) (hw:az E g .yes:=by first|exact .none|exact .yes rfl):
 SR F K (.op ⟨none,y4 x,g⟩::Op.aI rs) E O R Q:=fun W h sh=>
 WR.panic (d:=none) (v:=.iface t v) hw (fun e he=>by simp only[hx e he]) ⟨O,R,.refl O,sh,hq⟩
end S
section
variable{F:Nat→Option aN} {O:Fz} {R:List Ob} {Rt:V→Fz→List Ob→Prop}
def Gi (fn:hZ) (Rt:V→Fz→List Ob→Prop) (E:Env):bB where
 n:=fun _ ξ O3=>∃l,kE E ξ O3 fn.res l∧Fin ξ O3 (Rt (oneOf l))
 x:=fun _ _ _ _=>False
 r:=fun _ ξ O3=>∃l,kE E ξ O3 fn.res l∧Fin ξ O3 (Rt (oneOf l))
 p:=fun _ _ _ _=>False
def aid (F:Nat→Option aN) (fn gn:hZ) (g iJ:Nat) (G:IC al) (Rt:V→Fz→List Ob→Prop) (vs:List V):bB where
 n:=fun E χ O2=>SW F ⟨⟨g,gn.nt,true,none⟩,fun _=>True⟩ G ((iJ,.no .iface)::ie 0 vs) χ O2 (Gi fn Rt E)
 x:=fun _ _ _ _=>False
 r:=fun E χ O2=>SW F ⟨⟨g,gn.nt,true,none⟩,fun _=>True⟩ G ((iJ,.no .iface)::ie 0 vs) χ O2 (Gi fn Rt E)
 p:=fun E v χ O2=>SW F ⟨⟨g,gn.nt,true,none⟩,fun _=>True⟩ G ((iJ,v)::ie 0 vs) χ O2 (Gi fn Rt E)
def aie (F:Nat→Option aN) (fn gn:hZ) (f g gP iJ:Nat) (B G:IC al) (xs:List Od) (Rt:V→Fz→List Ob→Prop):bB where
 n:=fun E ψ O1=>∃vs,kD E xs=some vs∧SW F ⟨⟨f,fn.nt,false,none⟩,fun _=>True⟩ B ((gP,.fn g vs)::E) ψ O1 (aid F fn gn g iJ G Rt vs)
 x:=fun _ _ _ _=>False
 r:=fun _ _ _=>False
 p:=fun _ _ _ _=>False
inductive Gj:Mode→V→Mode→Prop
 |ret:Gj .returning (.no .iface) .returning
 |up (v:V):Gj (.panicking v false) v (.panicking v true)
theorem aif {f g:Nat} {fn gn:hZ} {G:IC al} {iJ:Nat} {vs:List V} {M M':Mode} {v0:V} (hM:Gj M v0 M') (hf:F f=some (.code fn)) (hg:F g=some (.code gn)) (vF:gn.body=.seq (.region [.op ⟨some (pa iJ),Cf,none⟩]) G) (vA:gn.res=[])
 {e2:T V} {E2:Env} (he:ch e2 E2) {J:Hp} {χ:Fz} {O2 ad:List Ob} {du ii:List Pa} (sh:SH χ J (O2++(dL ii++(dL du++ad)))) (hw:SW F ⟨⟨g,gn.nt,true,none⟩,fun _=>True⟩ G ((iJ,v0)::ie 0 vs) χ O2 (Gi fn Rt E2)):
 ∃v h',(∀td fr cs ls,∃xs,Reach F (.go ⟨⟨f,fn.nt,false,none⟩,e2,td,marks ii (.call g vs::marks du []),M⟩ (fr::cs) J ls) (finish fr v cs h' (xs++ls)))∧∃ψ O',χ.Le ψ∧SH ψ h' (O'++ad)∧Rt v ψ O':=by
 obtain⟨ka,ks⟩:=lG ii sh;have X5:ch ((h2 vs .z .E).set v0 (pa iJ)) ((iJ,v0)::ie 0 vs):=(zj vs).set iJ v0;obtain⟨r3,X6,Om⟩:=hw (dL du++ad) _ ks _ X5;have h0:∀td fr cs ls,Reach F (.go ⟨⟨f,fn.nt,false,none⟩,e2,td,marks ii (.call g vs::marks du []),M⟩ (fr::cs) J ls) (.go ⟨⟨g,gn.nt,true,none⟩,(h2 vs .z .E).set v0 (pa iJ),fI G [],[],.run⟩ (⟨⟨f,fn.nt,false,none⟩,e2,td,marks du [],M'⟩::fr::cs) (kill ii J) ls):=by
  intro td fr cs ls;refine(sR (fr:=⟨⟨f,fn.nt,false,none⟩,e2,td,[],M⟩) ii ka (by cases hM<;>intro e<;>cases e)).trans ?_;refine .trans (b:=.go (enter gn g vs true) (⟨⟨f,fn.nt,false,none⟩,e2,td,marks du [],M⟩::fr::cs) (kill ii J) ls) (.one ?_) ?_
  ·cases hM with
   |ret=>
    show unwind F ⟨⟨f,fn.nt,false,none⟩,e2,td,.call g vs::marks du [],.returning⟩ (fr::cs) (kill ii J) ls=_;simp only[unwind,hg]
   |up _=>
    show unwind F ⟨⟨f,fn.nt,false,none⟩,e2,td,.call g vs::marks du [],.panicking v0 false⟩ (fr::cs) (kill ii J) ls=_;simp only[unwind,hg]
  ·have e1:enter gn g vs true=⟨⟨g,gn.nt,true,none⟩,h2 vs .z .E,[.code (.seq (.region [.op ⟨some (pa iJ),Cf,none⟩]) G)],[],.run⟩:=by simp only[enter,vF]
   rw[e1];refine .trans (.one rfl) ?_;refine .trans (b:=.go ⟨⟨g,gn.nt,true,none⟩,(h2 vs .z .E).set v0 (pa iJ),[.dc [],.code G],[],.run⟩ (⟨⟨f,fn.nt,false,none⟩,e2,td,marks du [],M'⟩::fr::cs) (kill ii J) ls) (.one ?_) ?_
   ·cases hM<;>rfl
   ·exact .trans (.one rfl) (qU _ _ _ _ _ _ _ _)
 have back:∀(e3:T V) (Ao:List Item) (jC:List Pa) (h3:Hp) (l:List V),mO jC h3→mO du (kill jC h3)→kC E2 (kill du (kill jC h3)) fn.res l→∀td fr cs ls,Reach F (.go ⟨⟨g,gn.nt,true,none⟩,e3,Ao,marks jC [],.returning⟩ (⟨⟨f,fn.nt,false,none⟩,e2,td,marks du [],M'⟩::fr::cs) h3 ls) (finish fr (oneOf l) cs (kill du (kill jC h3)) ls):=by
  intro e3 Ao jC h3 l a3 bs hl td fr cs ls;refine(sR (fr:=⟨⟨g,gn.nt,true,none⟩,e3,Ao,[],.returning⟩) jC a3 (by intro e;cases e)).trans ?_;refine .trans (b:=.go ⟨⟨f,fn.nt,false,none⟩,e2,td,marks du [],.returning⟩ (fr::cs) (kill jC h3) ls) (.one ?_) ?_
  ·show unwind F ⟨⟨g,gn.nt,true,none⟩,e3,Ao,[],.returning⟩ (⟨⟨f,fn.nt,false,none⟩,e2,td,marks du [],M'⟩::fr::cs) (kill jC h3) ls=_;cases hM<;>simp only[unwind,hg,vA,kf,doReturn,E7]
  ·refine(sR (fr:=⟨⟨f,fn.nt,false,none⟩,e2,td,[],.returning⟩) du bs (by intro e;cases e)).trans (.one ?_);show unwind F ⟨⟨f,fn.nt,false,none⟩,e2,td,[],.returning⟩ (fr::cs) (kill du (kill jC h3)) ls=_;simp only[unwind,hf,hl e2 he,doReturn,KL]
 cases X6 with
 | @n e3 h3 jC X7 X8 hq=>
   obtain⟨ξ,O3,Ap,s3,l,hl,vC⟩:=hq;obtain⟨a3,k3⟩:=lG jC s3;obtain⟨bs,k1⟩:=lG du k3;obtain⟨ψ,O',np,oL,tM⟩:=vC ad _ k1;refine⟨oneOf l,kill du (kill jC h3),fun td fr cs ls=>?_,ψ,O',Ap.trans np,oL,tM⟩;obtain⟨x,hx,hr⟩:=Om [] [] (⟨⟨f,fn.nt,false,none⟩,e2,td,marks du [],M'⟩::fr::cs) ls trivial (fun _ _ _ _ e1=>by cases e1);cases hx with|n _ _ _ xs _=>
   exact⟨xs,(h0 td fr cs ls).trans (hr.trans (.trans (.one rfl) (back _ _ _ _ _ a3 bs (hl ad _ k1) td fr cs _)))⟩
 |x _ hq=>obtain⟨_,_,_,_,h⟩:=hq;exact h.elim
 | @r e3 h3 jC X7 X8 hq=>
   obtain⟨ξ,O3,Ap,s3,l,hl,vC⟩:=hq;obtain⟨a3,k3⟩:=lG jC s3;obtain⟨bs,k1⟩:=lG du k3;obtain⟨ψ,O',np,oL,tM⟩:=vC ad _ k1;refine⟨oneOf l,kill du (kill jC h3),fun td fr cs ls=>?_,ψ,O',Ap.trans np,oL,tM⟩;obtain⟨x,hx,hr⟩:=Om [] [] (⟨⟨f,fn.nt,false,none⟩,e2,td,marks du [],M'⟩::fr::cs) ls trivial (fun _ _ _ _ e1=>by cases e1);cases hx with
   |r _ _ _ Ao xs _=>exact⟨xs,(h0 td fr cs ls).trans (hr.trans (back _ _ _ _ _ a3 bs (hl ad _ k1) td fr cs _))⟩
 |p _ hq=>obtain⟨_,_,_,_,h⟩:=hq;exact h.elim
theorem aih {f g:Nat} {fn gn:hZ} {args:List V} {A B G:IC al} {gP iJ:Nat} {xs:List Od} (hf:F f=some (.code fn)) (hb:fn.body=.seq A (.seq (.region [.op ⟨some (pa gP),qB g xs,none⟩,.op ⟨none,y3 (.t (pa gP)) [],none⟩]) B))
 (hg:F g=some (.code gn)) (vF:gn.body=.seq (.region [.op ⟨some (pa iJ),Cf,none⟩]) G) (vA:gn.res=[])
 (hw:SW F ⟨⟨f,fn.nt,false,none⟩,fun _=>True⟩ A (ie 0 args) O R (aie F fn gn f g gP iJ B G xs Rt)):ai F f args O R Rt never:=fun ad h sh=>by
 obtain⟨r1,H1,G1⟩:=hw ad h sh _ (zj args);have hd:∀fr cs ls,mJ F fr cs h ls f args=.go ⟨⟨f,fn.nt,false,none⟩,h2 args .z .E,[.code fn.body],[],.run⟩ (fr::cs) h ls:=fun fr cs ls=>by simp only[mJ,hf,enter]
 cases H1 with
 | @n e1 I du E1 DE hq=>
   obtain⟨ψ,O1,l1,s1,vs,Hg,tO⟩:=hq;have On:ch (e1.set (.fn g vs) (pa gP)) ((gP,.fn g vs)::E1):=DE.set gP _;obtain⟨r2,H2,G2⟩:=tO (dL du++ad) I s1 _ On;have h0:∀fr cs ls,∃Aq,Reach F (mJ F fr cs h ls f args) (.go ⟨⟨f,fn.nt,false,none⟩,e1.set (.fn g vs) (pa gP),fI B [],.call g vs::marks du [],.run⟩ (fr::cs) I (Aq++ls)):=by
    intro fr cs ls;rw[hd,hb];obtain⟨x,hx,hr⟩:=G1 [.code (.seq (.region [.op ⟨some (pa gP),qB g xs,none⟩,.op ⟨none,y3 (.t (pa gP)) [],none⟩]) B)] [] (fr::cs) ls trivial (fun _ _ _ _ e1=>by cases e1);cases hx with|n _ _ _ Aq _=>
    refine⟨Aq,(qU _ _ _ _ _ _ _ _).trans (hr.trans (.trans (.one rfl) ?_))⟩;refine .trans (b:=.go ⟨⟨f,fn.nt,false,none⟩,e1.set (.fn g vs) (pa gP),[.dc [],.code B],.call g vs::marks du [],.run⟩ (fr::cs) I (Aq++ls)) (.one ?_) (.trans (.one rfl) (qU _ _ _ _ _ _ _ _));show jN F _ e1 [.code B] (marks du []) (fr::cs) I (Aq++ls) (.dc [.op ⟨some (pa gP),qB g xs,none⟩,.op ⟨none,y3 (.t (pa gP)) [],none⟩])=_;rw[zi (hH:=[.op ⟨none,y3 (.t (pa gP)) [],none⟩]) (e':=e1.set (.fn g vs) (pa gP)) (h':=I) ?_]
    ·have X9:Od.ev (e1.set (.fn g vs) (pa gP)) (.t (pa gP))=.fn g vs:=(ax.t (E:=(gP,.fn g vs)::E1) (n:=gP) (a:=.fn g vs) (by simp[lk])) _ On;exact CC (d:=none) (c:=.defer (.call g vs)) (h:=I) rfl (by simp only[X9,ea,aqa]) _ _ _ _
    ·rw[sN rfl];simp only[qB,(nV Hg).ev DE];rfl
   have HS:=fun{M M':Mode} {v0:V} (hM:Gj M v0 M') {e2:T V} {E2:Env} (he:ch e2 E2) {J:Hp} {χ:Fz} {O2:List Ob} {ii:List Pa} (Ya:SH χ J (O2++(dL ii++(dL du++ad)))) cw=>aif (Rt:=Rt) (vs:=vs) hM hf hg vF vA he Ya cw;cases H2 with
   | @n e2 J ii E2 jz hq=>
     obtain⟨χ,O2,l2,s2,Ar⟩:=hq;obtain⟨v,h',rA,ξ,O',k1,k2,k3⟩:=HS .ret jz s2 Ar;refine .inl ⟨v,h',fun fr cs ls=>?_,ξ,O',(l1.trans l2).trans k1,k2,k3⟩;obtain⟨xs,As⟩:=h0 fr cs ls;obtain⟨x,hx,hr⟩:=G2 [] (.call g vs::marks du []) (fr::cs) (xs++ls) trivial (fun _ _ _ _ e1=>by cases e1);cases hx with|n _ _ _ ys _=>
     obtain⟨At,hz⟩:=rA [] fr cs (ys++(xs++ls));exact⟨At++(ys++xs),by rw[KK,KK];exact As.trans (hr.trans (.trans (.one rfl) hz))⟩
   |x _ hq=>obtain⟨_,_,_,_,h⟩:=hq;exact h.elim
   | @r e2 J ii E2 jz hq=>
     obtain⟨χ,O2,l2,s2,Ar⟩:=hq;obtain⟨v,h',rA,ξ,O',k1,k2,k3⟩:=HS .ret jz s2 Ar;refine .inl ⟨v,h',fun fr cs ls=>?_,ξ,O',(l1.trans l2).trans k1,k2,k3⟩;obtain⟨xs,As⟩:=h0 fr cs ls;obtain⟨x,hx,hr⟩:=G2 [] (.call g vs::marks du []) (fr::cs) (xs++ls) trivial (fun _ _ _ _ e1=>by cases e1);cases hx with
     |r _ _ _ td ys _=>
      obtain⟨At,hz⟩:=rA td fr cs (ys++(xs++ls));exact⟨At++(ys++xs),by rw[KK,KK];exact As.trans (hr.trans hz)⟩
   | @p e2 v0 J ii E2 jz hq=>
     obtain⟨χ,O2,l2,s2,Ar⟩:=hq;obtain⟨v,h',rA,ξ,O',k1,k2,k3⟩:=HS (.up v0) jz s2 Ar;refine .inl ⟨v,h',fun fr cs ls=>?_,ξ,O',(l1.trans l2).trans k1,k2,k3⟩;obtain⟨xs,As⟩:=h0 fr cs ls;obtain⟨x,hx,hr⟩:=G2 [] (.call g vs::marks du []) (fr::cs) (xs++ls) trivial (fun _ _ _ _ e1=>by cases e1);cases hx with
     |p _ _ _ _ td ys _=>
      obtain⟨At,hz⟩:=rA td fr cs (ys++(xs++ls));exact⟨At++(ys++xs),by rw[KK,KK];exact As.trans (hr.trans hz)⟩
 |x _ hq=>obtain⟨_,_,_,_,h⟩:=hq;exact h.elim
 |r _ hq=>obtain⟨_,_,_,_,h⟩:=hq;exact h.elim
 |p _ hq=>obtain⟨_,_,_,_,h⟩:=hq;exact h.elim
end
end Go.Ev
namespace Go.Ev
variable{F:Nat→Option aN} {K:KX} {E:Env} {O:Fz} {R:List Ob}
def Tu (F:Nat→Option aN) (K:KX) (l:Pa) (args:List V) (h:Hp) (v:Bool) (h':Hp):Prop:=∀fr cs ls,K.L ls→∃xs,K.L (xs++ls)∧Reach F (w0 fr cs h ls l args) (finish fr (.bool v) cs h' (xs++ls))
def xm (F:Nat→Option aN) (K:KX) (l:Pa) (args:List V) (O:Fz) (R:List Ob) (T:Bool→Fz→List Ob→Prop):Prop:=∀ad h,SH O h (R++ad)→∃b h',Tu F K l args h b h'∧∃ψ O',O.Le ψ∧SH ψ h' (O'++ad)∧T b ψ O'
theorem WR.yield {d:Option Nat} {g:Option (Pa×Bool)} {f:T V→lj} {l:Pa} {args:List V} {rs:List (RS al)} {v:Bool} {h h':Hp} {Q:fu} (hw:az E g .yes) (hf:∀e,ch e E→f e=.yield l args) (hc:Tu F K l args h v h')
 (hn:WR F K rs (xg E (.bool v) d) h' Q):WR F K (.op ⟨d.map pa,.ed f,g⟩::rs) E h Q:=by
 intro e he;obtain⟨r,I,J⟩:=hn _ (he.put (.bool v) d);refine⟨r,I,fun k ds cs ls hL ho=>?_⟩;obtain⟨xs,d8,oD⟩:=hc ⟨K.k,e,.dc (.op ⟨d.map pa,.ed f,g⟩::rs)::k,ds,.run⟩ cs ls hL;obtain⟨x,hx,hr⟩:=J k ds cs (xs++ls) d8 ho;refine⟨x,hx.more,?_⟩;rw[CC (hw e he) (hf e he)];exact oD.trans (.step hr)
theorem S.yield {rs:List Op} {d:Nat} {Q:bB} {f:Od} {l:Pa} {xs:List Od} {vs:List V} {T:Bool→Fz→List Ob→Prop} (hc:xm F K l vs O R T) (hn:∀b ψ O',O.Le ψ→T b ψ O'→SA F K rs ((d,.bool b)::E) ψ O' Q) (hf:ax E f (.gV l):=by exact .t rfl) (hx:kD E xs=some vs:=by rfl):
 SR F K (.op ⟨some (pa d),wW f xs,none⟩::Op.aI rs) E O R Q:=fun W h sh=>by
 obtain⟨b,h',hy,ψ,O',J,h3,h4⟩:=hc W h sh;exact WR.up J (WR.yield (d:=some d) .none (fun e he=>by
  show(match f.ev e with
   |.fn g bf=>lj.call g (ea e xs++bf)
   |.gV l=>.yield l (ea e xs)
   |_=>.bad 59)=_
  rw[hf e he,(nV hx).ev he]) hy (S.r (hn b ψ O' J h4) W h' h3))
theorem SH.Tv {O:Fz} {h:Hp} {R ad:List Ob} {o:Ob} (s:SH O h (o::(R++ad))):SH O h (R++(o::ad)):=by
 have:=SH.back (i:=R.length) (B5 _) s
 rwa [ap2,WV,KK]at this
theorem SH.Gk {O:Fz} {h:Hp} {R ad:List Ob} {o:Ob} (s:SH O h (R++(o::ad))):SH O h (o::(R++ad)):=by
 have e:R++(o::ad)=(R++[o])++ad:=by simp
 rw[e]at s;have:=s.front (i:=R.length) (o:=o) (by rw[apG (B5 _),aqq];(try rfl));have e2:(R++[o]).eraseIdx R.length=R:=by rw[List.eraseIdx_append_of_length_le (B5 _),aqq];simp
 rwa [e2]at this
theorem SH.Gl {O:Fz} {h:Hp} {R ad:List Ob} {a:Pa} {b:al} (s:SH O h (R++((some a,b)::ad))):h.get a=some b:=(s.Gk.own 0 a b rfl).1
theorem SH.Mc {O:Fz} {h:Hp} {R ad:List Ob} {a:Pa} {b:al} (s:SH O h (R++((some a,b)::ad))) (b':al):SH O (h.put a b') (R++((some a,b')::ad)):=(s.Gk.put (i:=0) rfl b').Tv
def Tw (r:sB) (l:Pa) (a b:IC al):KX:=⟨⟨r.fn,r.nt,false,some l⟩,fun ls=>gb l ls=some ⟨l,a,b⟩⟩
def zs (g nt:Nat) (l:Pa) (a b:IC al):KX:=⟨⟨g,nt,false,none⟩,fun ls=>gb l ls=some ⟨l,a,b⟩⟩
def aii (r:sB) (l:Pa) (Y:Bool→Fz→List Ob→Prop):bB where
 n:=fun _ χ O2=>Y true χ ((some l,.loop {r with state:=.ready,pending:=none})::O2)
 x:=fun _ _ _ _=>False
 r:=fun _ χ O2=>Y false χ ((some l,.loop {r with state:=.done,pending:=some .ret})::O2)
 p:=fun _ _ _ _=>False
def aij (F:Nat→Option aN) (r:sB) (l:Pa) (a b:IC al) (Y:Bool→Fz→List Ob→Prop):bB where
 n:=fun E1 ψ O1=>SW F (Tw r l a b) b E1 ψ O1 (aii r l Y)
 x:=fun _ _ _ _=>False
 r:=fun _ _ _=>False
 p:=fun _ _ _ _=>False
theorem xm.round {g nt:Nat} {l:Pa} {r:sB} {a b:IC al} {args:List V} {e':T V} {Oo:Env} {Y:Bool→Fz→List Ob→Prop} (aj:r.state=.ready) (cI:sG r.params args r.env=some e') (he:ch e' Oo)
 (hw:SW F (Tw r l a b) a Oo O R (aij F r l a b Y)):xm F (zs g nt l a b) l args O ((some l,.loop r)::R) Y:=by
 intro ad h sh;have Oq:SH O h (R++((some l,.loop r)::ad)):=SH.Tv sh;obtain⟨r1,H1,G1⟩:=hw _ h Oq _ he;have hd:∀fr cs ls,gb l ls=some ⟨l,a,b⟩→w0 fr cs h ls l args=.go ⟨⟨r.fn,r.nt,false,some l⟩,e',[.code a,.begin,.code b],[],.run⟩ (fr::cs) h ls:=fun fr cs ls hl=>by
  simp only[w0,Oq.Gl,cI,hl]
 cases H1 with
 | @n e1 I du E1 DE hq=>
   obtain⟨ψ,O1,l1,s1,tO⟩:=hq;by_cases Or:du=[]
   ·subst Or;change SH ψ I (O1++((some l,.loop r)::ad))at s1;have s2:=s1.Mc (.loop {r with state:=.busy});obtain⟨r2,H2,G2⟩:=tO _ _ s2 _ DE;have go:∀fr cs ls,gb l ls=some ⟨l,a,b⟩→∃xs,gb l (xs++ls)=some ⟨l,a,b⟩∧Reach F (w0 fr cs h ls l args) (.go ⟨⟨r.fn,r.nt,false,some l⟩,e1,fI b [],[],.run⟩ (fr::cs) (I.put l (.loop {r with state:=.busy})) (xs++ls)):=by
     intro fr cs ls hl;rw[hd fr cs ls hl];obtain⟨x,hx,hr⟩:=G1 [.begin,.code b] [] (fr::cs) ls hl (fun _ _ _ _ e1=>by cases e1);cases hx with|n _ _ _ xs hk=>
     refine⟨xs,hk.1,(qU _ _ _ _ _ _ _ _).trans (hr.trans (.trans (.one ?_) (qU _ _ _ _ _ _ _ _)))⟩;show jN F ⟨r.fn,r.nt,false,some l⟩ e1 [.code b] [] (fr::cs) I (xs++ls) .begin=_;simp only[jN,s1.Gl,aj]
    have fin:∀(e2:T V) (td:List Item) (J:Hp) (j:Option qv),J.get l=some (.loop {r with state:=.busy})→∀fr cs ls,uH ⟨⟨r.fn,r.nt,false,some l⟩,e2,td,[],.run⟩ (fr::cs) J ls j=finish fr (.bool (match j with|none=>true|some _=>false)) cs (J.put l (.loop {r with state:=match j with|none=>.ready|some _=>.done,pending:=j})) ls:=by
     intro e2 td J j hg fr cs ls;cases j<;>simp only[uH,hg,doReturn,KL]
    cases H2 with
    | @n e2 J ii E2 jz hq=>
      obtain⟨χ,O2,l2,s3,kW⟩:=hq;by_cases vG:ii=[]
      ·subst vG;change SH χ J (O2++((some l,.loop {r with state:=.busy})::ad))at s3;refine⟨true,J.put l (.loop {r with state:=.ready,pending:=none}),fun fr cs ls hl=>?_,χ,_,l1.trans l2,(s3.Mc _).Gk,kW⟩;obtain⟨xs,jB,h0⟩:=go fr cs ls hl;obtain⟨x,hx,hr⟩:=G2 [] [] (fr::cs) (xs++ls) jB (fun _ _ _ _ e1=>by cases e1);cases hx with|n _ _ _ ys hk=>
       refine⟨ys++xs,by rw[KK];exact hk.1,h0.trans (hr.trans (.trans (.one (fin _ _ _ none s3.Gl _ _ _)) ?_))⟩;rw[KK];exact .refl _
      ·refine⟨true,J,fun fr cs ls hl=>?_,?_⟩
       ·obtain⟨xs,jB,h0⟩:=go fr cs ls hl;obtain⟨x,hx,hr⟩:=G2 [] [] (fr::cs) (xs++ls) jB (fun _ _ _ _ e1=>by cases e1);cases hx with|n _ _ _ ys hk=>exact absurd (hk.2 (by intro e;cases e)) vG
       ·exfalso;obtain⟨xs,jB,h0⟩:=go ⟨⟨0,0,false,none⟩,.E,[],[],.run⟩ [] [⟨l,a,b⟩] (by simp[gb,(Pa.beq_iff l l).2 rfl]);obtain⟨x,hx,hr⟩:=G2 [] [] (⟨⟨0,0,false,none⟩,.E,[],[],.run⟩::[]) (xs++[(⟨l,a,b⟩:LE)]) jB (fun _ _ _ _ e1=>by cases e1);cases hx with|n _ _ _ ys hk=>exact absurd (hk.2 (by intro e;cases e)) vG
    |x _ hq=>obtain⟨_,_,_,_,h⟩:=hq;exact h.elim
    | @r e2 J ii E2 jz hq=>
      obtain⟨χ,O2,l2,s3,kW⟩:=hq;by_cases vG:ii=[]
      ·subst vG;change SH χ J (O2++((some l,.loop {r with state:=.busy})::ad))at s3;refine⟨false,J.put l (.loop {r with state:=.done,pending:=some .ret}),fun fr cs ls hl=>?_,χ,_,l1.trans l2,(s3.Mc _).Gk,kW⟩;obtain⟨xs,jB,h0⟩:=go fr cs ls hl;obtain⟨x,hx,hr⟩:=G2 [] [] (fr::cs) (xs++ls) jB (fun _ _ _ _ e1=>by cases e1);cases hx with|r _ _ _ td ys hk=>
       refine⟨ys++xs,by rw[KK];exact hk.1,h0.trans (hr.trans ?_)⟩;rw[KK];exact .of_eq (fin _ _ _ (some .ret) s3.Gl _ _ _)
      ·exfalso;obtain⟨xs,jB,h0⟩:=go ⟨⟨0,0,false,none⟩,.E,[],[],.run⟩ [] [⟨l,a,b⟩] (by simp[gb,(Pa.beq_iff l l).2 rfl]);obtain⟨x,hx,hr⟩:=G2 [] [] (⟨⟨0,0,false,none⟩,.E,[],[],.run⟩::[]) (xs++[(⟨l,a,b⟩:LE)]) jB (fun _ _ _ _ e1=>by cases e1);cases hx with|r _ _ _ td ys hk=>exact absurd (hk.2 (by intro e;cases e)) vG
    |p _ hq=>obtain⟨_,_,_,_,h⟩:=hq;exact h.elim
   ·exfalso;obtain⟨x,hx,hr⟩:=G1 [.begin,.code b] [] [] [⟨l,a,b⟩] (by show gb l _=_;simp[gb,(Pa.beq_iff l l).2 rfl]) (fun _ _ _ _ e1=>by cases e1);cases hx with|n _ _ _ xs hk=>exact absurd (hk.2 (by intro e;cases e)) Or
 |x _ hq=>obtain⟨_,_,_,_,h⟩:=hq;exact h.elim
 |r _ hq=>obtain⟨_,_,_,_,h⟩:=hq;exact h.elim
 |p _ hq=>obtain⟨_,_,_,_,h⟩:=hq;exact h.elim
def aik (Q:bB) (E:Env) (l:Pa):bB where
 n:=fun _ ψ O'=>∃r O2,O'=(some l,.loop r)::O2∧r.state≠.busy∧((r.pending=none∧Q.n E ψ O2)∨(r.pending=some .ret∧Q.r E ψ O2))
 x:=fun _ _ _ _=>False
 r:=fun _ ψ O'=>∃r O2,O'=(some l,.loop r)::O2∧r.state≠.busy∧((r.pending=none∧Q.n E ψ O2)∨(r.pending=some .ret∧Q.r E ψ O2))
 p:=fun _ _ _ _=>False
theorem SW.Tx [gd K] {Q:bB} {f:Od} {ps:List Pa} {a b:IC al} {g:Nat} {bf:List V} {gn:hZ} (hg:F g=some (.code gn)) (vA:gn.res=[])
 (hw:∀(l:Pa) (e:T V),ch e E→SW F (zs g gn.nt l a b) gn.body (ie 0 (.gV l::bf)) O ((some l,.loop {state:=.ready,pending:=none,fn:=K.k.fn,nt:=K.k.nt,env:=e,params:=ps})::R) (aik Q E l))
 (hf:ax E f (.fn g bf):=by exact .t rfl) (hk:K.k.round=none:=by rfl):SW F K (.rangeFunc f ps a b) E O R Q:=by
 intro ad h sh e he;have s0:SH O (h.alloc (.dH true)) ((some h.next,.dH true)::(R++ad)):=sh.alloc _;have s1:=s0.alloc (.loop {state:=.ready,pending:=none,fn:=K.k.fn,nt:=K.k.nt,env:=e,params:=ps});have b3:(h.alloc (.dH true)).next=h.next.succ:=rfl;rw[b3]at s1;have s2:SH O ((h.alloc (.dH true)).alloc (.loop {state:=.ready,pending:=none,fn:=K.k.fn,nt:=K.k.nt,env:=e,params:=ps})) (((some h.next.succ,.loop {state:=.ready,pending:=none,fn:=K.k.fn,nt:=K.k.nt,env:=e,params:=ps})::R)++((some h.next,.dH true)::ad)):=by
  refine s1.pick (fun j=>if j=0 then 0 else if j≤R.length then j+1 else if j=R.length+1 then 1 else j) (fun j x hj=>?_) (fun p q _ _ e=>by(split at e<;>split at e<;>(try split at e)<;>(try split at e)<;>(try split at e)<;>(try split at e)<;>omega));cases j with
  |zero=>exact hj
  |succ j=>
   rw[pg (by omega)];rw[aqI,apX]at hj;by_cases I:j<R.length
   ·rw[B4 (by omega),apX,apX,apQ I];rw[apQ I]at hj;exact hj
   ·rw[apG (by omega)]at hj;rw[pg (by omega)];by_cases J:j=R.length
    ·subst J;rw[aqq,aqe]at hj;rw[B4 rfl];exact hj
    ·rw[pg (by omega)];obtain⟨q,hq⟩:∃q,j=R.length+q+1:=⟨j-R.length-1,by omega⟩
     subst hq;rw[show R.length+q+1-R.length=q+1 by omega,apX]at hj;rw[show R.length+q+1+1=(R.length+q)+1+1 from rfl,apX,apX,apG (by omega),aqT];exact hj
 obtain⟨r1,H1,G1⟩:=hw h.next.succ e he _ _ s2 _ (zj (.gV h.next.succ::bf));have h0:∀k ds cs ls,Reach F (.go ⟨K.k,e,fI (.rangeFunc f ps a b) k,ds,.run⟩ cs h ls) (.go ⟨⟨g,gn.nt,false,none⟩,h2 (.gV h.next.succ::bf) .z .E,fI gn.body [],[],.run⟩ (⟨K.k,e,.jh h.next.succ::k,.mark h.next::ds,.run⟩::cs) ((h.alloc (.dH true)).alloc (.loop {state:=.ready,pending:=none,fn:=K.k.fn,nt:=K.k.nt,env:=e,params:=ps})) (⟨h.next.succ,a,b⟩::ls)):=by
  intro k ds cs ls;refine .trans (.one ?_) (qU _ _ _ _ _ _ _ _);show kg F K.k e k ds cs h ls (.rangeFunc f ps a b)=_;simp only[kg,hk,hf e he,hg];rfl
 have ac:∀ls,gb h.next.succ (⟨h.next.succ,a,b⟩::ls)=some ⟨h.next.succ,a,b⟩:=fun ls=>by simp[gb,(Pa.beq_iff h.next.succ h.next.succ).2 rfl]
 have back:∀(e2:T V) (td:List Item) (ms:List Pa) (J:Hp) (r:sB),mO ms J→(kill ms J).get h.next.succ=some (.loop r)→r.state≠.busy→∀Au,r.pending=Au→∀k ds cs ls,Reach F (.go ⟨⟨g,gn.nt,false,none⟩,e2,td,marks ms [],.returning⟩ (⟨K.k,e,.jh h.next.succ::k,.mark h.next::ds,.run⟩::cs) J ls) (.go ⟨K.k,e,Fe Au++k,.mark h.next::ds,.run⟩ cs ((kill ms J).put h.next.succ (.loop {r with state:=.exhausted})) ls):=by
  intro e2 td ms J r ha bE aj Au xN k ds cs ls;subst xN;refine(sR (fr:=⟨⟨g,gn.nt,false,none⟩,e2,td,[],.returning⟩) ms ha (by intro e;cases e)).trans ?_;refine .trans (b:=.go ⟨K.k,e,.nT h.next.succ::k,.mark h.next::ds,.run⟩ cs (kill ms J) ls) (.one ?_) (.one ?_)
  ·show unwind F ⟨⟨g,gn.nt,false,none⟩,e2,td,[],.returning⟩ (⟨K.k,e,.jh h.next.succ::k,.mark h.next::ds,.run⟩::cs) (kill ms J) ls=_;simp only[unwind,hg,vA,kf,doReturn,KL,finish]
  ·show jN F K.k e k (.mark h.next::ds) cs (kill ms J) ls (.nT h.next.succ)=_;simp only[jN,bE]
 have tail:∀(ψ:Fz) (h3:Hp) (ms:List Pa) (r:sB) (O2:List Ob),O.Le ψ→SH ψ h3 (((some h.next.succ,.loop r)::O2)++(dL ms++((some h.next,.dH true)::ad)))→mO ms h3∧(kill ms h3).get h.next.succ=some (.loop r)∧SH ψ ((kill ms h3).put h.next.succ (.loop {r with state:=.exhausted})) (O2++(dL [h.next]++ad)):=by
  intro ψ h3 ms r O2 l1 s3;obtain⟨ka,ks⟩:=lG ms s3;exact⟨ka,(ks.own 0 _ _ rfl).1,((ks.put (i:=0) rfl (.loop {r with state:=.exhausted})).erase 0)⟩
 have key:∀(ψ:Fz) (h3:Hp) (ms:List Pa) (r:sB) (O2:List Ob),O.Le ψ→SH ψ h3 (((some h.next.succ,.loop r)::O2)++(dL ms++((some h.next,.dH true)::ad)))→r.state≠.busy→((r.pending=none∧Q.n E ψ O2)∨(r.pending=some .ret∧Q.r E ψ O2))→
  (∀k ds cs ls,∃(e2:T V) (td:List Item) (xs:List LE),Reach F (.go ⟨⟨g,gn.nt,false,none⟩,h2 (.gV h.next.succ::bf) .z .E,fI gn.body [],[],.run⟩ (⟨K.k,e,.jh h.next.succ::k,.mark h.next::ds,.run⟩::cs) ((h.alloc (.dH true)).alloc (.loop {state:=.ready,pending:=none,fn:=K.k.fn,nt:=K.k.nt,env:=e,params:=ps})) (⟨h.next.succ,a,b⟩::ls)) (.go ⟨⟨g,gn.nt,false,none⟩,e2,td,marks ms [],.returning⟩ (⟨K.k,e,.jh h.next.succ::k,.mark h.next::ds,.run⟩::cs) h3 (xs++(⟨h.next.succ,a,b⟩::ls))))→
  ∃r,(Q.at O ad).Holds r∧∀k ds cs ls,K.L ls→qT r k→∃x,Ends K k ds cs ls r x∧Reach F (.go ⟨K.k,e,fI (.rangeFunc f ps a b) k,ds,.run⟩ cs h ls) x:=by
  intro ψ h3 ms r O2 l1 s3 aj hq ab;obtain⟨ka,Ot,ks⟩:=tail ψ h3 ms r O2 l1 s3;have DF:K.k.round≠none→[h.next]=[]:=fun q=>absurd hk q;rcases hq with⟨hp,hq⟩|⟨hp,hq⟩
  ·refine⟨.n e ((kill ms h3).put h.next.succ (.loop {r with state:=.exhausted})) [h.next],.n he ⟨ψ,O2,l1,ks,hq⟩,fun k ds cs ls hL ho=>?_⟩;obtain⟨e2,td,xs,hr⟩:=ab k ds cs ls;have hb:=back e2 td ms h3 r ka Ot aj _ hp k ds cs (xs++(⟨h.next.succ,a,b⟩::ls));have e1:xs++((⟨h.next.succ,a,b⟩:LE)::ls)=(xs++[⟨h.next.succ,a,b⟩])++ls:=by simp
   rw[e1]at hr hb;exact⟨_,.n _ _ _ (xs++[(⟨h.next.succ,a,b⟩:LE)]) ⟨gd.up _ _ hL,DF⟩,(h0 k ds cs ls).trans (hr.trans hb)⟩
  ·refine⟨.r e ((kill ms h3).put h.next.succ (.loop {r with state:=.exhausted})) [h.next],.r he ⟨ψ,O2,l1,ks,hq⟩,fun k ds cs ls hL ho=>?_⟩;obtain⟨e2,td,xs,hr⟩:=ab k ds cs ls;have hb:=back e2 td ms h3 r ka Ot aj _ hp k ds cs (xs++(⟨h.next.succ,a,b⟩::ls));have e1:xs++((⟨h.next.succ,a,b⟩:LE)::ls)=(xs++[⟨h.next.succ,a,b⟩])++ls:=by simp
   rw[e1]at hr hb;exact⟨_,.r _ _ _ k (xs++[(⟨h.next.succ,a,b⟩:LE)]) ⟨gd.up _ _ hL,DF⟩,(h0 k ds cs ls).trans (hr.trans (hb.trans (.one rfl)))⟩
 cases H1 with
 | @n e2 h3 ms E2 jz hq=>
   obtain⟨ψ,O',l1,s3,r,O2,rfl,aj,hq⟩:=hq;refine key ψ h3 ms r O2 l1 s3 aj hq (fun k ds cs ls=>?_);obtain⟨x,hx,hr⟩:=G1 [] [] (⟨K.k,e,.jh h.next.succ::k,.mark h.next::ds,.run⟩::cs) (⟨h.next.succ,a,b⟩::ls) (ac ls) (fun _ _ _ _ e1=>by cases e1);cases hx with|n _ _ _ xs _=>
   exact⟨e2,[],xs,hr.trans (.one rfl)⟩
 |x _ hq=>obtain⟨_,_,_,_,h⟩:=hq;exact h.elim
 | @r e2 h3 ms E2 jz hq=>
   obtain⟨ψ,O',l1,s3,r,O2,rfl,aj,hq⟩:=hq;refine key ψ h3 ms r O2 l1 s3 aj hq (fun k ds cs ls=>?_);obtain⟨x,hx,hr⟩:=G1 [] [] (⟨K.k,e,.jh h.next.succ::k,.mark h.next::ds,.run⟩::cs) (⟨h.next.succ,a,b⟩::ls) (ac ls) (fun _ _ _ _ e1=>by cases e1);cases hx with|r _ _ _ td xs _=>
   exact⟨e2,td,xs,hr⟩
 |p _ hq=>obtain⟨_,_,_,_,h⟩:=hq;exact h.elim
end Go.Ev
namespace Go.Ev
abbrev Bs:=List UInt8
structure uZ where
 at_:Int
 b:Bs
structure ay where
 last:List Bs
 wait:List uZ
 arm:Int
 down:Bool
structure aV where
 kind:Int
 gen:Int
 load:Bs
 deriving DecidableEq
structure ag where
 addr:Int
 gen:Int
 deriving DecidableEq
structure xn where
 n:Int
 seq:Int
 sum:Int
 aU:Int
 pos:Int
structure bH where
 ino:Int
 idx:Int
 load:Bs
 deriving DecidableEq
structure dn where
 kind:Int
 id:Int
 dx:Int
 base:Int
 done:Int
 deriving DecidableEq
structure cM where
 kind:Int
 mode:Int
 body:Bs
 deriving DecidableEq
structure aT where
 name:Bs
 ino:Int
 deriving DecidableEq
abbrev an:=List cM
structure bD where
 r:dn
 t:an
 deriving DecidableEq
structure aW where
 d:ay
 seq:Int
 sum:Int
 aU:Int
 pos:Int
 n:Int
 next:Int
 id:Int
 trees:List bD
def ay.has (d:ay) (i:Int):Bool:=!d.down&&decide (0≤i)&&decide (i<(d.last.length:Int))
def ay.waits (d:ay) (i:Int):Option Bs:=(d.wait.reverse.find? (fun p=>decide (p.at_=i))).map (·.b)
def ay.read (d:ay) (i:Int):Bs×Bool:=if d.has i then((d.waits i).getD ((d.last[i.toNat]?).getD []),true)else([],false)
def ay.write (d:ay) (i:Int) (b:Bs):ay×Bool:=
 if !d.has i||!decide ((b.length:Int)=64)then(d,false)
 else if d.arm>0 then({d with wait:=d.wait++[⟨i,b⟩],arm:=d.arm-1,down:=decide (d.arm-1=0)},!decide (d.arm-1=0))
 else({d with wait:=d.wait++[⟨i,b⟩]},!d.down)
def kF (out:List Bs) (p:uZ):List Bs:=if 0≤p.at_ then out.set p.at_.toNat p.b else out
def ay.qZ (d:ay):List Bs:=d.wait.foldl kF d.last
def ay.flush (d:ay):ay×Bool:=if d.down then(d,false)else({d with last:=d.qZ,wait:=[]},true)
theorem ail (d:ay) (h:d.wait=[]):d.qZ=d.last:=by simp[ay.qZ,h]
theorem Ty (out:List Bs) (p:uZ):(kF out p).length=out.length:=by unfold kF;split<;>simp
def bS (x:Int):UInt8:=UInt8.ofNat (x%256).toNat
def le:Nat→Int→Bs
 |0,_=>[]
 |k+1,x=>bS x::le k (x/256)
def bo (n:Nat) (l:List Int):Bs:=l.flatMap (le n)
def ej:Bs→Int
 |[]=>0
 |b::l=>b.toNat+256*ej l
theorem hD (n:Nat) (x:Int):(le n x).length=n:=by induction n generalizing x with|zero=>rfl|succ n ih=>simp[le,ih]
theorem ij (n:Nat) (l:List Int):(bo n l).length=l.length*n:=by
 induction l with
 |nil=>simp[bo]
 |cons a l ih=>simp only[bo,arN,amv,hD,WW]at*;rw[ih,aqr];omega
theorem Gm (k:Nat) (x:Int):le (k+1) x=le k x++[bS (x/256^k)]:=by
 induction k generalizing x with
 |zero=>simp[le]
 |succ k ih=>
  rw[le,ih (x/256)];show bS x::(le k (x/256)++[_])=(bS x::le k (x/256))++[_];rw[aqI,Int.ediv_ediv_of_nonneg (by decide),Int.pow_succ,Int.mul_comm]
theorem Gn (n:Nat) (l:List Int) (x:Int):bo n (l++[x])=bo n l++le n x:=by simp[bo]
def cF (b:Bs) (n:Nat):Int×Bool:=if n<1∨4<n∨b.length<n then(0,false)else(ej (b.take n),true)
theorem aim (l:Bs) (b:UInt8):ej (l++[b])=ej l+b.toNat*256^l.length:=by
 induction l with
 |nil=>simp[ej]
 |cons a l ih=>simp only[aqI,ej,ih,WW,Int.pow_succ,Int.mul_add];rw[Int.add_assoc];congr 2;rw[Int.mul_left_comm];congr 1;rw[Int.mul_comm]
theorem Md (l:Bs):0≤ej l:=by induction l with|nil=>exact aqc 0|cons a l ih=>simp only[ej];omega
theorem Me (l:Bs):ej l<256^l.length:=by
 induction l with
 |nil=>decide
 |cons a l ih=>have:=a.toNat_lt;simp only[ej,WW,Int.pow_succ];omega
def iD (b:Bs) (s:Bs):Bs:=if 255<s.length then b else b++le 1 s.length++s
abbrev df:=Bs×Bool
def rdNum (n:Nat) (s:df):Int×df:=if s.2||!(cF s.1 n).2 then(0,(s.1,true))else((cF s.1 n).1,(s.1.drop n,false))
theorem Tz (l:Bs) (h:l.length≤4):ej l<4294967296:=by
 have I:=Me l;have J:256^l.length≤256^4:=Nat.pow_le_pow_right (by decide) h;have h3:(256:Int)^l.length=((256^l.length:Nat):Int):=by rw[arR];(try rfl)
 omega
def mS (x:aV):Bool:=decide (1≤x.kind)&&decide (x.kind≤5)&&decide (0≤x.gen)&&decide (x.gen≤1073741824)&&decide ((x.load.length:Int)≤55)
def iE (x:aV):Bs:=iD (le 1 x.kind++le 4 x.gen) x.load
def eR (x:aV):Bs:=if mS x then iE x++List.replicate (64-(iE x).length) 0 else[]
def sX (s:Bs):aV:=⟨((s[0]?).getD 0).toNat,ej ((s.drop 1).take 4),(s.drop 6).take (min ((s[5]?).getD 0).toNat 55)⟩
def hG:aV:=⟨0,0,[]⟩
def hJ (s:Bs):Option aV:=if s.length=64 then(if eR (sX s)=s then some (sX s)else none)else none
def gg (n:Int):Bool:=decide (0≤n)&&decide (n≤1073741824)
def TA (x:xn):Bool:=gg x.n&&decide (1≤x.n)&&gg x.seq&&gg x.sum&&gg x.aU&&gg x.pos&&decide (x.pos≤64)
def mT (x:xn):Bs:=if TA x then eR ⟨5,x.n,bo 4 [x.seq,x.sum,x.aU,x.pos]⟩else[]
end Go.Ev
namespace Go.Ev
def nW:bI uZ:=⟨2,fun p=>[.int .i64 p.at_,.str p.b],fun _=>rfl,fun _=>rfl⟩
def aq:bI ag:=⟨2,fun p=>[.int .i64 p.addr,.int .i64 p.gen],fun _=>rfl,fun _=>rfl⟩
def bw:bI aV:=⟨3,fun x=>[.int .i64 x.kind,.int .i64 x.gen,.str x.load],fun _=>rfl,fun _=>rfl⟩
def br:bI bH:=⟨3,fun x=>[.int .i64 x.ino,.int .i64 x.idx,.str x.load],fun _=>rfl,fun _=>rfl⟩
def dW:bI dn:=⟨5,fun x=>[.int .i64 x.kind,.int .i64 x.id,.int .i64 x.dx,.int .i64 x.base,.int .i64 x.done],fun _=>rfl,fun _=>rfl⟩
def aH:bI cM:=⟨3,fun x=>[.int .i64 x.kind,.int .i64 x.mode,.str x.body],fun _=>rfl,fun _=>rfl⟩
def c9:bI aT:=⟨2,fun x=>[.str x.name,.int .i64 x.ino],fun _=>rfl,fun _=>rfl⟩
theorem FS.av {O:Fz} {v:V} {k n:Nat} {cs:List V} (h:FS O v k n cs):isScalar v=true:=by rcases h.2 with⟨rfl,_⟩|⟨_,_,_,_,_,rfl,_⟩<;>rfl
theorem OV.av {v:V} {k n:Nat} {cs:List V} {s:Option Pa} (h:OV v k n cs s):isScalar v=true:=by rcases h.2.2 with⟨rfl,_⟩|⟨_,rfl,_⟩|⟨_,rfl,_⟩<;>rfl
theorem aa.av {U:Type} {e:bI U} {O:Fz} {v:V} {l:List U} (h:aa e O v l):isScalar v=true:=FS.av h
theorem ae.av {U:Type} {e:bI U} {v:V} {l:List U} {s:Option Pa} (h:ae e v l s):isScalar v=true:=OV.av h
theorem mU (b:Bool):dd (.bool b) (.bool b)=true:=by cases b<;>rfl
theorem Gp (k:IntKind) (n:Int):same (.int k n) (.int k n)=true:=by
 show dd (.int k n) (.int k n)=true;exact fv k n
theorem Gq (s:Bs):same (.str s) (.str s)=true:=by
 show dd (.str s) (.str s)=true;exact hB s
theorem FS.same {O:Fz} {v:V} {k n:Nat} {cs:List V} (h:FS O v k n cs):same v v=true:=by
 rcases h.2 with⟨rfl,_⟩|⟨a,o,c,_,_,rfl,_⟩
 ·rfl
 ·cases c with
  |ex c=>show((a.beq a&&Nat.beq o o)&&(Nat.beq n n&&Nat.beq c c))=true;rw[eQ,eQ,eQ,(Pa.beq_iff a a).2 rfl];(try rfl)
  |un c=>show((a.beq a&&Nat.beq o o)&&(Nat.beq n n&&Nat.beq c c))=true;rw[eQ,eQ,eQ,(Pa.beq_iff a a).2 rfl];(try rfl)
def cP (O:Fz) (cs:List V) (d:ay):Prop:=∃lv wv,cs=[lv,wv,.int .i64 d.arm,.bool d.down]∧aa ec O lv d.last∧aa nW O wv d.wait
theorem cP.mono {O ψ:Fz} {cs:List V} {d:ay} (h:cP O cs d) (ac:O.Le ψ):cP ψ cs d:=let⟨lv,wv,I,J,h3⟩:=h;⟨lv,wv,I,J.mono ac,h3.mono ac⟩
theorem cP.open {O:Fz} {cs:List V} {d:ay} (h:cP O cs d):∃lv wv,cs=[lv,wv,.int .i64 d.arm,.bool d.down]∧aa ec O lv d.last∧aa nW O wv d.wait∧isScalar lv=true∧isScalar wv=true:=
 let⟨lv,wv,I,J,h3⟩:=h;⟨lv,wv,I,J,h3,J.av,h3.av⟩
theorem TB {q:cV} {x:Int} {k:Nat} (hk:k≤7):cg .shr q (.int .i64 x) (.int .i64 (8*(k:Int)))=some (.int .i64 (x/256^k)):=by
 show uA false .i64 x (8*(k:Int))=_;have h0:jc (8*(k:Int)) 0=false:=by rw[sH];simp;omega
 simp only[uA,h0,KL];have I:(8*(k:Int)).toNat=8*k:=by omega
 have J:min (8*k) (IntKind.bits .i64)=8*k:=by simp[IntKind.bits];omega
 have e:(2:Int)^(8*k)=256^k:=by
  have:(256:Nat)^k=2^(8*k):=by rw[Nat.pow_mul]
  have h:=congrArg (fun(n:Nat)=>(n:Int)) this;simp only[arR]at h;exact h.symm
 rw[I,J,e,Int.fdiv_eq_ediv_of_nonneg _ (Int.pow_nonneg (by decide))]
theorem Gr (x:Int):V.int .u8 (e6 .u8 x)=c5 (bS x):=by
 have h:e6 .u8 x=x%256:=by rw[uL];simp[IntKind.wrap,IntKind.signed,IntKind.bits]
 show _=V.int .u8 (Int.ofNat (bS x).toNat);rw[h];congr 1;show _=(((bS x).toNat:Nat):Int);unfold bS;have h0:0≤x%256:=Int.emod_nonneg _ (by decide);have I:x%256<256:=Int.emod_lt_of_pos _ (by decide);rw[UInt8.toNat_ofNat',arp (by omega)];omega
theorem Mf {q:cV} {j:Nat} (h:1≤j) (J:j≤4611686018427387904):cg .sub q (.int .i64 (j:Int)) (.int .i64 1)=some (.int .i64 ((j-1:Nat):Int)):=by
 rw[ig (by omega) (by omega),show(j:Int)-1=((j-1:Nat):Int) by omega]
theorem Mg (b:UInt8):e6 .i64 (b.toNat:Int)=(b.toNat:Int):=F4 .i64 (by have:=arc b;show _≤9223372036854775807;omega)
theorem sV.s {O:Fz} {R:List Ob} (l:Bs):sV aQ O R (.str l) l:=by
 unfold sV;rw[qX];exact Src.s
theorem aa.bytes {O:Fz} {h:Hp} {R:List Ob} {v:V} {l:Bs} (hs:aa aQ O v l) (sh:SH O h R):Sl h v 1 l.length (l.map c5):=by
 have:=FS.sl hs sh;rw[qX]at this;exact this
theorem ae.bytes {O:Fz} {h:Hp} {R ad:List Ob} {v:V} {l:Bs} {s:Option Pa} {i:Nat} (ho:ae aQ v l s) (hi:R[i]? =some (aQ.ob s l)) (sh:SH O h (R++ad)):Sl h v 1 l.length (l.map c5):=by
 have:=OV.sl ho hi sh;rw[qX]at this;exact this
theorem Gs {s:Bs} {i j:Nat} (dr:i≤j) (hj:j≤s.length):je (.str s) (some (.int .i64 (i:Int))) (some (.int .i64 (j:Int)))=some (.str ((s.drop i).take (j-i))):=by
 simp only[Go.Ev.je,Ga dr hj,qI];rw[zh (by rw[Rn];omega)]
theorem ain {s:Bs} {i:Nat} (hi:i≤s.length):je (.str s) (some (.int .i64 (i:Int))) none=some (.str (s.drop i)):=by
 simp only[Go.Ev.je,xj hi (B5 _),qI];rw[zh (by rw[Rn];exact B5 _),←Rn,ap2]
namespace S
variable{F:Nat→Option aN} {K:KX} {E:Env} {O:Fz} {R:List Ob} {Q:bB} {rs:List Op} {d:Nat} {g:Option (Pa×Bool)}
theorem hK {y x:Od} {a:Pa} {o:Nat} {v:V} {cs l':List V} (i:Nat) (hn:SA F K rs E O (R.set i (some a,.cells l' false)) Q) (ha:ax E y (.ptr a o):=by exact .t rfl) (hx:ax E x v:=by exact .t rfl) (hv:isScalar v=true:=by assumption) (hi:R[i]? =some (some a,.cells cs false):=by rfl) (cI:dk o cs [v]=some l':=by rfl) (hw:az E g .yes:=by first|exact .none|exact .yes rfl):
 SR F K (.op ⟨none,gy 1 y x,g⟩::Op.aI rs) E O R Q:=store i hn ha hx hi (by rw[jm hv];exact cI) (by rw[jm hv];(try rfl)) (by rw[jm hv];simp[aY,hv]) hw
theorem lK {x:Od} {b:UInt8} (hn:SA F K rs ((d,.int .i64 (b.toNat:Int))::E) O R Q) (hx:ax E x (c5 b):=by exact .t rfl) (hw:az E g .yes:=by first|exact .none|exact .yes rfl):SR F K (.op ⟨some (pa d),cH .i64 x,g⟩::Op.aI rs) E O R Q:=
 qV (k:=.i64) (j:=.u8) (n:=(b.toNat:Int)) (by rw[Mg];exact hn) hx hw
theorem Gt {x:Od} {v:V} {l:Bs} (hs:aa aQ O v l) (hn:SA F K rs ((d,.str l)::E) O R Q) (hx:ax E x v:=by exact .t rfl) (hw:az E g .yes:=by first|exact .none|exact .yes rfl):SR F K (.op ⟨some (pa d),dT x,g⟩::Op.aI rs) E O R Q:=
 FW (fun _ _ sh=>hs.bytes sh) hn hx hw
theorem jS {x:Od} {v:V} {l:Bs} {s:Option Pa} (i:Nat) (ho:ae aQ v l s) (hn:SA F K rs ((d,.str l)::E) O R Q) (hi:R[i]? =some (aQ.ob s l):=by rfl) (hx:ax E x v:=by exact .t rfl) (hw:az E g .yes:=by first|exact .none|exact .yes rfl):SR F K (.op ⟨some (pa d),dT x,g⟩::Op.aI rs) E O R Q:=
 FW (fun _ _ sh=>ho.bytes hi sh) hn hx hw
theorem mV {x:Od} {s:Bs} (hn:∀v ψ,O.Le ψ→aa aQ ψ v s→SA F K rs ((d,v)::E) ψ R Q) (hx:ax E x (.str s):=by first|exact .t rfl|exact .c) (hw:az E g .yes:=by first|exact .none|exact .yes rfl):SR F K (.op ⟨some (pa d),gx x,g⟩::Op.aI rs) E O R Q:=
 fun W _ sh=>ad.FY hw hx (bR (rs:=rs) (R:=(_,.cells (s.map c5) false)::R) 0 (⟨by simp,L1 s,.inr (.inl ⟨_,rfl,rfl⟩)⟩:OV _ 1 s.length (s.map c5) _) rfl (fun ψ I J=>hn _ ψ I (by unfold aa;rw[qX];exact J)) W _ (sh.alloc _))
theorem aio {x:Od} {s:Bs} (hn:∀a,ae aQ (.sl a 0 s.length (.un 1)) s (some a)→SA F K rs ((d,.sl a 0 s.length (.un 1))::E) O (aQ.ob (some a) s::R) Q) (hx:ax E x (.str s):=by first|exact .t rfl|exact .c) (hw:az E g .yes:=by first|exact .none|exact .yes rfl):SR F K (.op ⟨some (pa d),gx x,g⟩::Op.aI rs) E O R Q:=
 FY (fun a ho=>by
  have I:ae aQ (.sl a 0 s.length (.un 1)) s (some a):=by unfold ae;rw[qX];exact ho
  have:=hn a I;unfold bI.ob at this
  rwa [qX]at this) hx hw
theorem zt {U:Type} {e:bI U} {z sd:List V} {n:Nat} {ps:List (Nat×Nat×Od)} (l:List U) (hn:∀v ψ,O.Le ψ→aa e ψ v l→SA F K rs ((d,v)::E) ψ R Q) (hf:uR E ps z=some (e.fl l,sd):=by rfl) (hl:l.length=n:=by rfl) (d3:aY sd=true:=by first|rfl|simp[aY,V.cells,lH,pC,mR,uS,uT,pD,uU,uV, *]) (hw:az E g .yes:=by first|exact .none|exact .yes rfl):SR F K (.op ⟨some (pa d),aG z n ps,g⟩::Op.aI rs) E O R Q:=
 fun W _ sh=>ad.a8 hw (zo hf d3) (lI l) (ct (rs:=rs) (R:=(_,.cells (e.fl l) false)::R) 0 (l:=l) (ae.new hl) (fun ψ I J=>hn _ ψ I J) rfl W _ (sh.alloc _))
theorem bF {x:Od} {a:Pa} {o:Nat} {u:V} {cs:List V} (i:Nat) (hn:SA F K rs E O R Q) (hd:lk d E=some u:=by rfl) (hx:ax E x (.ptr a o):=by exact .t rfl) (hi:R[i]? =some (some a,.cells cs false):=by rfl) (hu:cs[o]? =some u:=by rfl) (hs:same u u=true:=by first|rfl|exact Gp _ _|exact Gq _|exact mU _|exact FS.same (by assumption)) (hw:az E g .yes:=by first|exact .none|exact .yes rfl):
 SR F K (.cf ⟨some (pa d),bY none x,g⟩::Op.aI rs) E O R Q:=fun W h sh=>ad.F8 hw hd hx (by have:=(gf.of (sh.hC hi) rfl).one hu;rwa [ap7]at this) hs (S.r hn W h sh)
theorem CL {x:Od} {p u:V} {xs:List V} (hn:SA F K rs E O R Q) (hd:lk d E=some u:=by rfl) (hx:ax E x p:=by exact .t rfl) (hp:EP O p xs:=by assumption) (hu:xs[0]? =some u:=by rfl) (hs:same u u=true:=by first|rfl|exact Gp _ _|exact Gq _|exact mU _|exact FS.same (by assumption)) (hw:az E g .yes:=by first|exact .none|exact .yes rfl):
 SR F K (.cf ⟨some (pa d),bY none x,g⟩::Op.aI rs) E O R Q:=fun W h sh=>ad.F8 hw hd hx (hp.L6 hu sh) hs (S.r hn W h sh)
theorem u0 {U:Type} {e:bI U} {z:List V} {tJ:Nat} {l c:Od} {n:Nat} {k j:IntKind} (z0:U) (hm:n≤1073741824) (hb:tJ≤65536) (hn:∀a,ae e (.sl a 0 n (.ex n)) (List.replicate n z0) (some a)→SA F K rs ((d,.sl a 0 n (.ex n))::E) O (e.ob (some a) (List.replicate n z0)::R) Q) (hz:z=e.f z0:=by rfl) (hl:ax E l (.int k (n:Int)):=by first|exact .t rfl|exact .c) (hc:ax E c (.int j (n:Int)):=by first|exact .t rfl|exact .c) (hw:az E g .yes:=by first|exact .none|exact .yes rfl):
 SR F K (.op ⟨some (pa d),jg z tJ l c,g⟩::Op.aI rs) E O R Q:=by
 subst hz;have hr:∀n,dI (e.f z0) n=e.fl (List.replicate n z0):=fun n=>by
  induction n with
  |zero=>rfl
  |succ n ih=>show e.f z0++dI (e.f z0) n=_;rw[ih,arK];(try rfl)
 refine xh (B5 n) hm hb (fun a=>?_) hl hc hw;rw[hr];exact hn a (ae.new (by simp))
theorem y0 {U:Type} {e:bI U} {v:V} {l:List U} {s:Option Pa} {k n:Nat} {z:List V} {z0:U} {y x:Od} {q:IntKind} (i:Nat) (ho:ae e v l s) (hz:z=e.f z0) (hb:l.length+n≤1073741824) (hn:∀v' s',ae e v' (l++List.replicate n z0) s'→SA F K rs ((d,v')::E) O (R.set i (e.ob s' (l++List.replicate n z0))) Q) (tN:0<e.k:=by decide) (hi:R[i]? =some (e.ob s l):=by rfl) (hk:k=e.k:=by rfl) (hy:ax E y v:=by first|exact .t rfl|exact .c) (hx:ax E x (.int q (n:Int)):=by first|exact .t rfl|exact .c) (hw:az E g .yes:=by first|exact .none|exact .yes rfl):
 SR F K (.op ⟨some (pa d),KZ k z y x,g⟩::Op.aI rs) E O R Q:=fun W h sh=>by
 subst hk;subst hz;have hr:∀n,dI (e.f z0) n=e.fl (List.replicate n z0):=fun n=>by
  induction n with
  |zero=>rfl
  |succ n ih=>show e.f z0++dI (e.f z0) n=_;rw[ih,arK];(try rfl)
 have DG:(dI (e.f z0) n).length=n*e.k:=by rw[hr,iT,aqL]
 obtain⟨v',s',h',k1,k2,k3⟩:=OV.nO (m:=n) (xs:=dI (e.f z0) n) (k:=e.k) sh hi ho DG (by rw[hr];exact lI _) tN hb;have e1:e.fl l++dI (e.f z0) n=e.fl (l++List.replicate n z0):=by rw[hr,uX]
 rw[e1]at k2 k3;have I:ae e v' (l++List.replicate n z0) s':=by unfold ae;rw[amv,aqL];exact k2
 refine ad.st hw (fun e' he=>?_) (S.r (hn v' s' I) W h' k3);have pU:x.ev e'=.int q (.ofNat n):=hx e' he;simp only[Go.Ev.y0,hy e' he,pU,iz,aqm (show n≤1073741824 by omega),E7,k1]
end S
end Go.Ev
namespace Go.Ev
def kG:Bs→Bs→Bool
 |[],b=>!b.isEmpty
 |a::x,b=>match b with|[]=>false|c::y=>if a.toNat<c.toNat then true else if c.toNat<a.toNat then false else kG x y
def xo (c:UInt8):Bool:=decide ((c.toNat:Int)<33)||decide ((126:Int)<(c.toNat:Int))||decide ((c.toNat:Int)=47)
def fx (s:Bs):Bool:=s.all (fun c=>!xo c)&&(decide ((1:Int)≤(s.length:Int))&&decide ((s.length:Int)≤6))
def Mh (s:Bs):Bool:=fx s&&!decide (s.head? =some 126)
def sY (own:Bool) (name:Bs) (n:Nat):Bool:=!fx name||(!own&&!Mh name)||decide (8≤n)
def ik (own:Bool):Bs→Bs→List Bs→Option (List Bs)
 |[],name,out=>if sY own name out.length then none else some (out++[name])
 |c::r,name,out=>if c.toNat=47 then(if sY own name out.length then none else ik own r [] (out++[name]))else ik own r (name++[c]) out
def parts (path:Bs) (own:Bool):Option (List Bs):=if path=[47]then some []else match path with
 |[]=>none
 |c::r=>if c.toNat=47 then ik own r [] []else none
def xp (e:aT):Bs:=le 1 e.name.length++e.name++le 1 e.ino
def sZ (prev:Option Bs) (e:aT) (s:Bs):Bool:=!fx e.name||decide (e.ino<1)||decide (9<e.ino)||(match prev with|some p=>!kG p e.name|none=>false)||decide (120<s.length)
def fy:Option Bs→Bs→List aT→Option Bs
 |_,s,[]=>if 120<s.length then none else some s
 |prev,s,e::r=>if sZ prev e s then none else fy (some e.name) (s++xp e) r
def fN (l:List aT):Option Bs:=fy none [] l
def iF:Nat→Bs→List aT→Option (List aT)
 |_,[],am=>some am
 |0,_::_,_=>none
 |f+1,c::r,am=>if 6<c.toNat∨r.length<c.toNat+1 then none else iF f (r.drop (c.toNat+1)) (am++[⟨r.take c.toNat,((r[c.toNat]?).getD 0).toNat⟩])
def cY (body:Bs):Option (List aT):=match iF body.length body []with
 |none=>none
 |some l=>if fN l=some body then some l else none
def gB (l:List aT) (name:Bs):Option Int:=(l.find? (fun e=>decide (e.name=name))).map (·.ino)
def lL (e:aT):List aT→List aT
 |[]=>[e]
 |x::r=>if kG e.name x.name then e::x::r else x::lL e r
def kH (l:List aT) (e:aT):List aT×Bool:=if(gB l e.name).isSome then(l,false)else(lL e l,true)
def lM (l:List aT) (name:Bs):List aT×Bool:=if(gB l name).isSome then(l.filter (fun e=>!decide (e.name=name)),true)else(l,false)
def ff:cM:=⟨0,0,[]⟩
def u1:an:=⟨2,7,[]⟩::List.replicate 8 ff
def nodeAt (t:an) (ino:Int):cM:=(t[(ino-1).toNat]?).getD ff
def aR (t:an) (ino:Int):List aT:=if ino<1∨(t.length:Int)<ino∨(nodeAt t ino).kind≠2 then[]else(cY (nodeAt t ino).body).getD []
def bump (named:List Int) (e:aT):List Int:=named.modify e.ino.toNat (·+1)
def nX (n:cM) (nm:List Int):Option (List Int):=if n.mode<0∨255<n.mode∨120<n.body.length then none else some nm
def gC (nm:List Int) (n:cM):Option (List Int):=
 if n.kind=0 then(if n=ff then some nm else none)else if n.kind=1 then nX n nm
 else if n.kind=2 then(match cY n.body with|none=>none|some l=>nX n (l.foldl bump nm))else none
def nY:List cM→List Int→Option (List Int)
 |[],nm=>some nm
 |n::r,nm=>match gC nm n with|none=>none|some j3=>nY r j3
def zu (t:an):Option (List Int):=nY t (List.replicate 10 0)
def mark (seen:List Bool) (e:aT):List Bool:=seen.set e.ino.toNat true
def lN (t:an) (seen:List Bool) (i:Nat):List Bool:=if(seen[i]?).getD false then(aR t i).foldl mark seen else seen
def kI (t:an) (seen:List Bool):List Bool:=[1,2,3,4,5,6,7,8,9].foldl (lN t) seen
def mW (t:an):Nat→List Bool→List Bool
 |0,s=>s
 |k+1,s=>mW t k (kI t s)
def fg (t:an):List Bool:=mW t 9 ((List.replicate 10 false).set 1 true)
def mX (t:an) (nm:List Int) (seen:List Bool) (i:Nat):Bool:=
 let there:=!decide ((nodeAt t i).kind=0)
 let n:=(nm[i]?).getD 0
 (decide (0<n)&&!there)||(there&&!((seen[i]?).getD false))||(decide ((i:Int)=1)&&decide (0<n))||(decide ((1:Int)<i)&&decide ((nodeAt t i).kind=2)&&!decide (n=1))
def bL (t:an):Bool:=if t.length=9∧(nodeAt t 1).kind=2 then(match zu t with
 |none=>false
 |some nm=>[1,2,3,4,5,6,7,8,9].all (fun i=>!mX t nm (fg t) i))else false
def jT (t:an):Int→List Bs→Int×Int
 |at_,[]=>(at_,0)
 |at_,nm::r=>if(nodeAt t at_).kind≠2 then(0,5)else match gB (aR t at_) nm with
  |none=>(0,2)
  |some n=>if(t.length:Int)<n then(0,2)else jT t n r
def eS (t:an) (l:List Bs):Int×Int:=if t.length<1 then(0,2)else jT t 1 l
def bc (t:an) (path:Bs) (own:Bool):Int×Int:=match parts path own with
 |none=>(0,1)
 |some l=>eS t l
def bN (t:an):Prop:=t.length≤1000∧∀n∈t,n.body.length≤100000
theorem aip {l:List aT}:∀{p:Option Bs} {s b:Bs},fy p s l=some b→∀e∈l,1≤e.ino∧e.ino≤9:=by
 induction l with
 |nil=>intro p s b _ e he;cases he
 |cons a l ih=>
  intro p s b h e he;simp only[fy]at h;split at h
  ·cases h
  ·rename_i hb;rcases Ro.1 he with rfl|he
   ·simp only[sZ,amt,G6,not_or]at hb;omega
   ·exact ih h e he
theorem Mi {b:Bs} {l:List aT} (h:cY b=some l):∀e∈l,1≤e.ino∧e.ino≤9:=by
 unfold cY at h;split at h
 ·cases h
 ·split at h
  ·rename_i J;cases h;exact aip J
  ·cases h
theorem pF {t:an} {i:Int}:∀e∈aR t i,1≤e.ino∧e.ino≤9:=by
 unfold aR;split
 ·intro e he;cases he
 ·cases h:cY (nodeAt t i).body with
  |none=>intro e he;cases he
  |some l=>exact Mi h
theorem Gu {t:an} {i:Nat} (h:i<t.length):nodeAt t (i+1:Nat)=t[i]:=by
 unfold nodeAt;rw[show(((i+1:Nat):Int)-1).toNat=i by omega,KJ h];(try rfl)
theorem aiq:∀(f:Nat) (b:Bs) (am l:List aT),iF f b am=some l→l.length≤am.length+f:=by
 intro f
 induction f with
 |zero=>intro b am l h;cases b with
  |nil=>simp only[iF,E8]at h;subst h;omega
  |cons c r=>simp[iF]at h
 |succ f ih=>intro b am l h;cases b with
  |nil=>simp only[iF,E8]at h;subst h;omega
  |cons c r=>
   simp only[iF]at h;split at h
   ·cases h
   ·have:=ih _ _ _ h;rw[amv]at this;simp at this;omega
theorem Mj {b:Bs} {l:List aT} (h:cY b=some l):l.length≤b.length:=by
 unfold cY at h;split at h
 ·cases h
 ·rename_i l' hl;split at h
  ·cases h;have:=aiq _ _ _ _ hl;simp at this;omega
  ·cases h
theorem s4 {t:an} (hb:bN t) (i:Int):(aR t i).length≤100000:=by
 unfold aR;split
 ·exact amu _
 ·rename_i h0;cases h:cY (nodeAt t i).body with
  |none=>exact amu _
  |some l=>
   have I:=Mj h;have J:(nodeAt t i).body.length≤100000:=by
    unfold nodeAt;cases hq:t[(i-1).toNat]? with
    |none=>exact amu _
    |some n=>exact hb.2 n (aqM hq)
   show l.length≤_;omega
end Go.Ev
namespace Go.Ev
def aO (t:an) (l:List Bs):Int×Bs×Int:=
 if(eS t l.dropLast).2≠0 then(0,[],(eS t l.dropLast).2)
 else if(nodeAt t (eS t l.dropLast).1).kind≠2 then(0,[],5)else((eS t l.dropLast).1,l.getLastD [],0)
def fO (t:an) (ino:Int) (n:cM):an:=t.set (ino-1).toNat n
def gD (t:an) (bt:Int) (e:aT):an×Bool:=match fN (kH (aR t bt) e).1 with
 |none=>(t,false)
 |some b=>(fO t bt {nodeAt t bt with body:=b},true)
def nZ (t:an) (bt:Int) (name:Bs):an:=fO t bt {nodeAt t bt with body:=(fN (lM (aR t bt) name).1).getD []}
def zw (ino:Int) (l:List aT):Int:=l.foldl (fun n e=>if e.ino=ino then n+1 else n) 0
def u2 (t:an) (ino:Int):Nat→Nat→Int→Int
 |0,_,n=>n
 |f+1,i,n=>u2 t ino f (i+1) (n+zw ino (aR t i))
def xq (t:an) (ino:Int):Int:=if ino=1 then 1 else u2 t ino t.length 1 0
def gE (t:an) (bt:Int):Nat→Int→Option Bool
 |0,_=>none
 |f+1,top=>if bt=top then some true else(aR t top).foldr (fun e rest=>if e.ino≤(t.length:Int)∧(nodeAt t e.ino).kind=2 then(match gE t bt f e.ino with
  |none=>none
  |some true=>some true
  |some false=>rest)else rest) (some false)
def lO (s:Bs) (n:Nat):Bs:=s.take n++List.replicate (n-s.length) 0
def b5 (t:an) (path:Bs) (own:Bool):Int×Int:=if(bc t path own).2=0∧(nodeAt t (bc t path own).1).kind=2 then(0,4)else bc t path own
def xr (t:an):Int:=match t.findIdx? (fun n=>decide (n.kind=0))with
 |none=>0
 |some i=>i+1
def iU (t:an) (path:Bs) (kind mode ino:Int) (own:Bool):an×Int:=match parts path own with
 |none=>(t,1)
 |some l=>
  if(kind≠1∧kind≠2)∨mode<0∨255<mode∨ino<0∨9<ino then(t,1)
  else if l=[]then(t,3)
  else if(aO t l).2.2≠0 then(t,(aO t l).2.2)
  else if(gB (aR t (aO t l).1) (aO t l).2.1).isSome then(t,3)
  else if 0<ino∧((t.length:Int)<ino∨(nodeAt t ino).kind≠0)then(t,3)
  else
   let k:=if ino=0 then xr t else ino
   if k=0 then(t,8)
   else if(gD t (aO t l).1 ⟨(aO t l).2.1,k⟩).2 then(fO (gD t (aO t l).1 ⟨(aO t l).2.1,k⟩).1 k ⟨kind,mode,[]⟩,0)else(t,8)
def il (t:an) (fr qto:Bs) (own:Bool):an×Int:=match parts fr own,parts qto own with
 |some _,some l=>
  if(bc t fr own).2≠0 then(t,(bc t fr own).2)
  else if(nodeAt t (bc t fr own).1).kind=2 then(t,4)
  else if l=[]then(t,3)
  else if(aO t l).2.2≠0 then(t,(aO t l).2.2)
  else if(gB (aR t (aO t l).1) (aO t l).2.1).isSome then(t,3)
  else if(gD t (aO t l).1 ⟨(aO t l).2.1,(bc t fr own).1⟩).2 then((gD t (aO t l).1 ⟨(aO t l).2.1,(bc t fr own).1⟩).1,0)else(t,8)
 |_,_=>(t,1)
def lP (t:an) (path:Bs) (own:Bool):an×Int:=
 let ino:=(bc t path own).1
 if(bc t path own).2≠0 then(t,(bc t path own).2)
 else if ino=1 then(t,4)
 else if(nodeAt t ino).kind=2∧(nodeAt t ino).body≠[]then(t,6)
 else
  let p:=aO t ((parts path own).getD [])
  let x:=nZ t p.1 p.2.1
  (if xq x ino=0 then fO x ino ff else x,0)
def s5 (f:Nat) (t:an) (fr qto:Bs) (own:Bool):Option (an×Int):=match parts fr own,parts qto own with
 |some q,some l=>
  let ino:=(bc t fr own).1
  if(bc t fr own).2≠0 then some (t,(bc t fr own).2)
  else if ino=1 then some (t,4)
  else if l=[]then some (t,3)
  else
   let p:=aO t l
   if p.2.2≠0 then some (t,p.2.2)
   else
    let w:=aO t q
    if w.1=p.1∧w.2.1=p.2.1 then some (t,0)
    else if(gB (aR t p.1) p.2.1).isSome then some (t,3)
    else
     let go:an×Int:=if(gD (nZ t w.1 w.2.1) p.1 ⟨p.2.1,ino⟩).2 then((gD (nZ t w.1 w.2.1) p.1 ⟨p.2.1,ino⟩).1,0)else(t,8)
     if(nodeAt t ino).kind=2 then(match gE t p.1 f ino with
      |none=>none
      |some true=>some (t,7)
      |some false=>some go)else some go
 |_,_=>some (t,1)
def xu (body:Bs) (off:Nat) (text:Bs):Bs:=
 let b:=lO body (max body.length (off+text.length))
 b.take off++text++b.drop (off+text.length)
def jU (t:an) (path:Bs) (off:Int) (text:Bs) (own:Bool):an×Int:=
 let ino:=(b5 t path own).1
 if(b5 t path own).2≠0 then(t,(b5 t path own).2)
 else if off<0 then(t,1)
 else if 120<off∨120-off<text.length then(t,8)
 else if text=[]then(t,0)
 else(fO t ino {nodeAt t ino with body:=xu (nodeAt t ino).body off.toNat text},0)
def lQ (t:an) (path:Bs) (size:Int) (own:Bool):an×Int:=
 let ino:=(b5 t path own).1
 if(b5 t path own).2≠0 then(t,(b5 t path own).2)
 else if size<0 then(t,1)
 else if 120<size then(t,8)
 else(fO t ino {nodeAt t ino with body:=lO (nodeAt t ino).body size.toNat},0)
def n4 (t:an) (path:Bs) (mode:Int) (own:Bool):an×Int:=
 let ino:=(bc t path own).1
 if(bc t path own).2≠0 then(t,(bc t path own).2)
 else if mode<0∨255<mode then(t,1)
 else(fO t ino {nodeAt t ino with mode:=mode},0)
theorem air (t:an):∀(l:List Bs) (at_:Int),1≤at_→at_≤t.length→(jT t at_ l).2=0→1≤(jT t at_ l).1∧(jT t at_ l).1≤t.length:=by
 intro l
 induction l with
 |nil=>intro a I J _;exact⟨I,J⟩
 |cons nm r ih=>
  intro a I J h;simp only[jT]at h⊢;split
  ·rename_i hk;rw[B4 hk]at h;cases h
  ·rename_i hk;rw[pg hk]at h;cases hf:gB (aR t a) nm with
   |none=>rw[hf]at h;cases h
   |some n=>
    rw[hf]at h;simp only at h⊢;split
    ·rename_i hn;rw[B4 hn]at h;cases h
    ·rename_i hn;rw[pg hn]at h;have tP:1≤n:=by
      unfold gB at hf;simp only[aqp]at hf;obtain⟨e,he,rfl⟩:=hf;exact(pF e (arG he)).1
     exact ih n tP (by omega) h
theorem Mk {t:an} {l:List Bs} (h:(eS t l).2=0):1≤(eS t l).1∧(eS t l).1≤t.length:=by
 unfold eS at h⊢;split
 ·rename_i h0;rw[B4 h0]at h;cases h
 ·rename_i h0;rw[pg h0]at h;exact air t l 1 (aqc _) (by omega) h
theorem pG {t:an} {p:Bs} {own:Bool} (h:(bc t p own).2=0):1≤(bc t p own).1∧(bc t p own).1≤t.length∧(parts p own).isSome=true:=by
 unfold bc at h⊢;cases hp:parts p own with
 |none=>rw[hp]at h;cases h
 |some l=>rw[hp]at h;have:=Mk h;exact⟨this.1,this.2,rfl⟩
end Go.Ev
namespace Go.Ev
theorem Ml:∀a b:Bs,ph a b=kG a b
 |[],[]=>rfl
 |[],_::_=>rfl
 |_::_,[]=>rfl
 |a::x,b::y=>by
  show(bif Nat.blt a.toNat b.toNat then true else bif Nat.beq a.toNat b.toNat then ph x y else false)=if a.toNat<b.toNat then true else if b.toNat<a.toNat then false else kG x y
  rw[Ml x y];by_cases I:a.toNat<b.toNat
  ·rw[B4 I,show Nat.blt a.toNat b.toNat=true by simpa[ari]using I];(try rfl)
  ·rw[pg I,show Nat.blt a.toNat b.toNat=false by cases hb:Nat.blt a.toNat b.toNat with|false=>rfl|true=>exact absurd (by simpa[ari]using hb) I];by_cases J:b.toNat<a.toNat
   ·rw[B4 J,xf (by omega)];(try rfl)
   ·rw[pg J,show a.toNat=b.toNat by omega,eQ];(try rfl)
theorem TC:∀a b:Bs,(!(kG a b||decide (a=b)))=kG b a
 |[],[]=>rfl
 |[],_::_=>rfl
 |_::_,[]=>rfl
 |a::x,b::y=>by
  have ih:=TC x y;simp only[kG];by_cases I:a.toNat<b.toNat
  ·simp[I,Nat.not_lt.2 (are I)]
  ·by_cases J:b.toNat<a.toNat
   ·have bx:¬a=b:=fun e=>by subst e;omega
    simp[I,J,bx]
   ·have he:a=b:=art.1 (by omega);subst he;simp only[Nat.lt_irrefl,if_false];rw[←ih];simp
theorem TD {q:cV} {a b:Bs}:cg .geq q (.str a) (.str b)=some (.bool (!kG a b)):=by
 show some (V.bool (!ph a b))=_;rw[Ml]
theorem ais {q:cV} {a b:Bs}:cg .gtr q (.str a) (.str b)=some (.bool (kG b a)):=by
 show some (V.bool (!(ph a b||nN a b)))=_;rw[Ml,qL,←TC a b,show(a==b)=decide (a=b) by rw[aqC];simp]
theorem ait (k g k' g':Int) (l l':Bs):cg .eql (.agg [(0,.i),(1,.i),(2,.s)]) (.agg [.int .i64 k,.int .i64 g,.str l]) (.agg [.int .i64 k',.int .i64 g',.str l'])=some (.bool (decide (k=k'∧g=g'∧l=l'))):=by
 have h:=F9 k g k' g' l l';have J:∀o:Option Bool,o.map (fun b=>V.bool (!b))=some (.bool (!decide (k=k'∧g=g'∧l=l')))→o.map V.bool=some (.bool (decide (k=k'∧g=g'∧l=l'))):=by
  intro o ho;cases o with
  |none=>cases ho
  |some b=>simp only[ap0,E8,V.bool.injEq]at ho⊢;revert ho;cases b<;>cases decide (k=k'∧g=g'∧l=l')<;>simp
 exact J _ h
theorem TE (a b:cM):(a=b)↔(a.kind=b.kind∧a.mode=b.mode∧a.body=b.body):=by
 cases a;cases b;simp
theorem neN (a b:cM):cg .neq (.agg [(0,.i),(1,.i),(2,.s)]) (.agg (aH.f a)) (.agg (aH.f b))=some (.bool (!decide (a=b))):=by
 have h:=F9 a.kind a.mode b.kind b.mode a.body b.body;rw[show decide (a=b)=decide (a.kind=b.kind∧a.mode=b.mode∧a.body=b.body)from decide_eq_decide.2 (TE a b)];exact h
theorem TF {U:Type} {l:List U} {i:Nat} (f:U→U) (h:i<l.length):l.modify i f=l.set i (f l[i]):=by
 apply aro;intro j;rw[arJ,aqG];by_cases dr:i=j
 ·subst dr;rw[B4 rfl,B4 h,KJ h];simp
 ·rw[pg dr];simp[dr]
theorem CM {t:an} {x:Int} (I:1≤x) (J:x≤(t.length:Int)):∃j:Nat,x-1=(j:Int)∧∃h:j<t.length,nodeAt t x=t[j]:=by
 refine⟨(x-1).toNat,by omega,by omega,?_⟩;unfold nodeAt;rw[KJ (show(x-1).toNat<t.length by omega)];(try rfl)
theorem TG {l xs:List V} {o:Nat} (h:o+xs.length≤l.length):dk o l xs=some (l.take o++xs++l.drop (o+xs.length)):=by
 have I:l=l.take o++((l.drop o).take xs.length++l.drop (o+xs.length)):=by rw[←aq6,aqA,aqA]
 conv=>lhs;rw[I]
 rw[Mb _ _ _ _ (by rw[ab7];omega),Gh _ _ _ (by rw[ab7,Rn];omega)];simp
theorem ae.lo {U:Type} {e:bI U} {v:V} {l:List U} {s:Option Pa} (ho:ae e v l s) {j:Nat} (hj:j≤l.length) (h0:0<l.length):
 ∃a o c,s=some a∧ef e.k v (some (.int .i64 (j:Int))) none none=some (.sl a o (l.length-j) c)∧(o=j*e.k∨l.length=j∧o=0):=by
 rcases ho.2.2 with⟨_,I,_⟩|⟨a,rfl,rfl⟩|⟨a,rfl,rfl⟩
 ·omega
 ·refine⟨a,0+j*e.k,.un e.k,rfl,?_,.inl (ap7 _)⟩;simp only[ef,xj hj (B5 _),eQ,E7]
 ·by_cases ox:l.length=j
  ·subst ox;exact⟨a,0,.ex (l.length-l.length),rfl,by simp only[ef,xj (B5 l.length) (B5 l.length),eQ,E7],.inr ⟨rfl,rfl⟩⟩
  ·refine⟨a,0+j*e.k,.ex (l.length-j),rfl,?_,.inl (ap7 _)⟩;simp only[ef,xj hj (B5 _),xf ox,KL]
namespace S
variable{F:Nat→Option aN} {K:KX} {E:Env} {O:Fz} {R:List Ob} {Q:bB} {rs:List Op} {d:Nat} {g:Option (Pa×Bool)}
theorem fz {x i:Od} {q:IntKind} {v:V} {t:an} {n:Int} (hs:aa aH O v t) (I:1≤n) (J:n≤(t.length:Int)) (hn:∀p,EP O p (aH.f (nodeAt t n))→SA F K rs ((d,p)::E) O R Q) (hx:ax E x v:=by exact .t rfl) (hi:ax E i (.int q (n-1)):=by exact .t rfl) (hw:az E g .yes:=by first|exact .none|exact .yes rfl):
 SR F K (.op ⟨some (pa d),bA none 3 x i,g⟩::Op.aI rs) E O R Q:=by
 obtain⟨j,hj,ap,e⟩:=CM I J;rw[hj]at hi;exact aF hs ap (fun p hp=>hn p (by rw[e];exact hp)) hx hi rfl hw
theorem dy {n:Nat} {x:Od} {a:Pa} {o:Nat} {u l:List V} {cs:List V} (i:Nat) (hn:SA F K rs E O R Q) (hd:lk d E=some (.agg u):=by rfl) (hx:ax E x (.ptr a o):=by exact .t rfl) (hi:R[i]? =some (some a,.cells cs false):=by rfl) (hl:(cs.drop o).take n=l:=by rfl) (h1:l.length=n:=by rfl) (hs:same (.agg u) (.agg l)=true:=by simp[same,cm,V.cells,fv,hB,mU]) (hw:az E g .yes:=by first|exact .none|exact .yes rfl):
 SR F K (.cf ⟨some (pa d),bY (some n) x,g⟩::Op.aI rs) E O R Q:=fun W h sh=>ad.F8 hw hd hx (by have:=(gf.of (sh.hC hi) rfl).agg hl h1;rwa [ap7]at this) hs (S.r hn W h sh)
theorem TH {y z:Od} {a:Pa} {o m:Nat} {c:hW} {l x:Bs} (i:Nat) (hm:min x.length m+o≤l.length) (hn:SA F K rs ((d,.int .i64 ((min x.length m:Nat):Int))::E) O (R.set i (aQ.ob (some a) (l.take o++x.take m++l.drop (o+min x.length m)))) Q) (hy:ax E y (.sl a o m c):=by exact .t rfl) (hx:ax E z (.str x):=by exact .t rfl) (hi:R[i]? =some (aQ.ob (some a) l):=by rfl) (hw:az E g .yes:=by first|exact .none|exact .yes rfl):
 SR F K (.op ⟨some (pa d),Ce 1 y z,g⟩::Op.aI rs) E O R Q:=fun W h sh=>by
 have Yb:ln h 1 (Nat.min x.length m) (.str x)=some ((x.take m).map c5):=by
  simp only[ln,eQ,E7];rw[zh (Nat.min_le_left _ _)];show some ((x.take (min x.length m)).map c5)=_;rcases Nat.le_total x.length m with I|I
  ·rw[aqn I,ap2,aqz I]
  ·rw[Nat.min_eq_right I]
 have hlen:(x.take m).length=min x.length m:=by rw[ab7,Nat.min_comm]
 have cI:dk o (aQ.fl l) ((x.take m).map c5)=some (aQ.fl (l.take o++x.take m++l.drop (o+min x.length m))):=by
  rw[TG (by rw[qX,apZ,apZ,hlen];omega),qX,qX,apZ,hlen];simp
 refine ad.copy hw hy hx ?_ (S.r hn W _ (sh.zn hi _));simp only[Cd,j9,Yb,F2 (sh.hC hi) (L1 _) cI];rfl
end S
namespace G
variable{F:Nat→Option aN} {K:KX} {E:Env} {O:Fz} {R:List Ob} {Q:bB} {rs:List Op} {d:Nat} {g:Option (Pa×Bool)} {b:Bool}
theorem fz {x i:Od} {q:IntKind} {v:V} {t:an} {n:Int} (hs:aa aH O v t) (hn:∀p,(b=true→EP O p (aH.f (nodeAt t n)))→SA F K rs ((d,gv b p)::E) O R Q) (hg:Gd E g b:=by first|exact .y rfl|exact .n rfl|exact .yg rfl|exact .ng rfl) (hx:dM E x b v:=by first|exact .g rfl|exact .gl rfl|exact .u (.t rfl)) (hi:dM E i b (.int q (n-1)):=by first|exact .g rfl|exact .gl rfl|exact .u (.t rfl)) (h:b=true→1≤n∧n≤(t.length:Int):=by assumption):
 SR F K (.op ⟨some (pa d),bA none 3 x i,g⟩::Op.aI rs) E O R Q:=by
 cases b with
 |false=>exact S.no hg (hn (.no .bot) (fun h=>by cases h))
 |true=>exact S.fz hs (h rfl).1 (h rfl).2 (fun p hp=>hn p (fun _=>hp)) (hx rfl) (hi rfl) hg
end G
end Go.Ev
namespace Go.Ev
variable{F:Nat→Option aN} {O:Fz}
theorem TI {d:ay} {i:Int} {j:Nat} (hj:j<d.wait.length) (h:(d.wait.drop (j+1)).all (fun p=>!decide (p.at_=i))=true) (he:(d.wait[j]).at_=i):d.waits i=some (d.wait[j]).b:=by
 unfold ay.waits;have e:d.wait=d.wait.take j++d.wait[j]::d.wait.drop (j+1):=by rw[arI,aqA]
 have hn:(d.wait.drop (j+1)).reverse.find? (fun p=>decide (p.at_=i))=none:=by
  rw[List.find?_eq_none];intro p hp;rw[List.mem_reverse]at hp;have:=ap6.1 h p hp;simpa using this
 conv=>lhs;rw[e]
 rw[List.reverse_append,List.reverse_cons,List.find?_append,List.find?_append,hn];simp[he]
theorem TJ {d:ay} {i:Int} (h:d.wait.all (fun p=>!decide (p.at_=i))=true):d.waits i=none:=by
 unfold ay.waits;rw[Option.map_eq_none_iff,List.find?_eq_none];intro p hp;rw[List.mem_reverse]at hp;have:=ap6.1 h p hp;simpa using this
theorem TK {U:Type} {p:U→Bool} {l:List U} {j:Nat} (hj:j<l.length) (h:(l.drop (j+1)).all p=true) (hp:p l[j]=true):(l.drop j).all p=true:=by
 rw[Rm hj,aqJ,hp,h];(try rfl)
theorem TL [Fx F] {cs:List V} {d:ay} {i:Int} (hd:cP O cs d):bk F 92 [.agg cs,.j i] O (.bool (d.has i)):=by
 obtain⟨lv,wv,rfl,hl,hw,sl,sw⟩:=hd.open;refine ai.ak (au ?_);refine S.box fun a2=>?_;refine S.ld 0 ?_;refine S.un ?_;refine G.mv ?_;refine G.bin ?_;refine G.and ?_;refine G.mv ?_;refine G.aE ?_;refine G.ld 0 ?_;refine G.len ?_;refine G.bin ?_;refine G.and ?_;refine⟨_,.t rfl .nil,.done ?_⟩;rfl
theorem aiu [Fx F] {cs:List V} {d:ay} {i:Int} (hd:cP O cs d) (hb:d.wait.length≤1000000):bk F 53 [.agg cs,.j i] O (.aM [.str (d.read i).1,.bool (d.read i).2]):=by
 obtain⟨lv,wv,rfl,hl,hw,sl,sw⟩:=hd.open;refine ai.ak (au ?_);refine S.box fun a2=>?_;refine S.af 0 ?_;refine S.ak (TL hd) ?_;refine S.un ?_;refine C.B (fun bU=>?_) fun bU=>?_
 ·have e:d.read i=([],false):=by unfold ay.read;rw[pg (by intro h;rw[h]at bU;cases bU)]
  rw[e];exact⟨_,.t rfl (.t rfl .nil),.done rfl⟩
 ·have hh:d.has i=true:=by simpa using bU
  refine S.ld 0 ?_;refine S.len ?_;refine S.bin ?_;refine SW.loop (fun m E ψ R=>∃z:Int,z+1=m∧m≤d.wait.length∧(d.wait.drop m).all (fun p=>!decide (p.at_=i))=true∧O=ψ∧R=[(some a2,.cells [lv,wv,.j d.arm,.bool d.down] false)]∧Sub [(1,.j i),(2,.ptr a2 0),(6,.j z)] E) (m:=d.wait.length) ⟨_,by omega,by omega,by rw[WV];(try rfl),rfl,rfl,.r rfl⟩ ?_;intro m0 E ψ R ac hI;obtain⟨z,hz,hm,eK,rfl,rfl,hE⟩:=hI;refine C.sub hE ?_;refine S.bin ?_;refine C.D (fun d9=>?_) fun d9=>?_
  ·obtain⟨j,rfl⟩:∃j:Nat,z=(j:Int):=⟨z.toNat,by omega⟩
   obtain rfl:m0=j+1:=by omega
   have hj:j<d.wait.length:=by omega
   refine S.ld 0 ?_;refine S.aF hw hj fun xZ oM=>?_;refine S.bl oM fun oN j4=>?_;refine S.aX ?_;refine S.bin ?_;refine C.D (fun mg=>?_) fun mg=>?_
   ·refine S.ld 0 ?_;refine S.aF hw hj fun Ou HT=>?_;refine S.bl HT fun Yc Ov=>?_;refine S.aX ?_;have e:d.read i=((d.wait[j]).b,true):=by unfold ay.read;rw[B4 hh,TI hj eK mg];(try rfl)
    rw[e];exact⟨_,.t rfl (.t rfl .nil),.done rfl⟩
   ·refine S.bin ?_;refine⟨j,by omega,(j:Int)-1,by omega,by omega,TK hj eK (by simpa using mg),rfl,rfl,.r rfl⟩
  ·have vE:m0=0:=by omega
   subst vE;rw[aqY]at eK;unfold ay.has at hh;simp only[G7,G6]at hh;obtain⟨k,rfl⟩:∃k:Nat,i=(k:Int):=⟨i.toNat,by omega⟩
   have hk:k<d.last.length:=by omega
   refine S.ld 0 ?_;refine S.aF hl hk fun Ow DH=>?_;refine S.aX ?_;have e:d.read k=(d.last[k],true):=by
    have rg:d.has k=true:=by unfold ay.has;simp only[G7,G6];exact hh
    unfold ay.read;rw[B4 rg,TJ eK,aqo,KJ hk];(try rfl)
   rw[e];exact⟨_,.t rfl (.t rfl .nil),.done rfl⟩
theorem TM [Fx F] {cs:List V} {d:ay} {i:Int} {b:Bs} (hd:cP O cs d) (hb:d.wait.length≤1000000) (ha:d.arm≤1000000):
 ai F 72 [.agg cs,.j i,.str b] O [] (fun r ψ R=>∃cs',r=.aM [.agg cs',.bool (d.write i b).2]∧cP ψ cs' (d.write i b).1∧R=[]) never:=by
 obtain⟨lv,wv,rfl,hl,hw,sl,sw⟩:=hd.open;refine au ?_;refine S.box fun a3=>?_;refine S.alloc fun cb=>?_;refine S.af 1 ?_;refine S.ak (TL hd) ?_;refine S.un ?_;refine G.mv ?_;refine G.cD ?_;refine G.bin ?_;refine G.or ?_;refine C.B (fun hc=>?_) fun hc=>?_
 ·refine S.af 1 ?_;refine S.store 0 ?_;have e:d.write i b=(d,false):=by unfold ay.write;rw[B4 hc]
  rw[e];exact⟨_,.cN 0 rfl rfl rfl rfl (.t rfl .nil),.none ⟨_,rfl,hd,rfl⟩⟩
 ·refine S.a8 fun p6=>?_;refine S.ld 2 ?_;have Av:ae nW (.sl p6 0 0 (.ex 0)) [] (some p6):=ae.new rfl;refine S.bu 0 Av (.f hw) (by simp;omega) fun Aw Ox Yd=>?_;refine S.build ?_;refine S.a8 fun a25=>?_;refine S.bu (m:=[⟨i,b⟩]) 1 Yd (.lit 0) (by simp;omega) fun DI s26 vH=>?_;refine S.ct 1 vH fun Ax vI fo=>?_;refine S.drop 0 ?_;have amJ:=fo.av;rw[aqa]at fo;refine S.aE ?_;refine S.hK 1 ?_;refine S.ld 1 ?_;refine S.bin ?_;refine C.D (fun oE=>?_) fun oE=>?_
  ·refine S.ld 1 ?_;refine S.bin ?_;refine S.store 1 ?_;refine S.ld 1 ?_;refine S.bin ?_;refine S.store 1 ?_;refine S.af 1 ?_;refine S.ld 1 ?_;refine S.un ?_;refine S.store 0 ?_;refine S.bF 1 ?_;have e:d.write i b=({d with wait:=d.wait++[⟨i,b⟩],arm:=d.arm-1,down:=decide (d.arm-1=0)},!decide (d.arm-1=0)):=by unfold ay.write;rw[pg (by rw[hc];simp),B4 oE]
   rw[e];exact⟨_,.cN 0 rfl rfl rfl rfl (.t rfl .nil),.none ⟨_,rfl,⟨_,_,rfl,hl.mono vI,fo⟩,rfl⟩⟩
  ·refine S.af 1 ?_;refine S.ld 1 ?_;refine S.un ?_;refine S.store 0 ?_;refine S.bF 1 ?_;have e:d.write i b=({d with wait:=d.wait++[⟨i,b⟩]},!d.down):=by unfold ay.write;rw[pg (by rw[hc];simp),pg oE]
   rw[e];exact⟨_,.cN 0 rfl rfl rfl rfl (.t rfl .nil),.none ⟨_,rfl,⟨_,_,rfl,hl.mono vI,fo⟩,rfl⟩⟩
theorem TN {U β:Type} (f:β→U→β) (z:β) (l:List U) (j:Nat) (hj:j<l.length):(l.take (j+1)).foldl f z=f ((l.take j).foldl f z) l[j]:=by
 rw[aqd hj,arM];(try rfl)
theorem aiv {out:List Bs} {p:uZ} (h:¬0≤p.at_∨(out.length:Int)≤p.at_):kF out p=out:=by
 unfold kF;split
 ·exact List.set_eq_of_length_le (by omega)
 ·rfl
theorem aiw (d:ay) (j:Nat):((d.wait.take j).foldl kF d.last).length=d.last.length:=by
 generalize d.wait.take j=l;generalize d.last=z
 induction l generalizing z with
 |nil=>rfl
 |cons a l ih=>rw[aqk,ih,Ty]
theorem aix [Fx F] {cs:List V} {d:ay} (hd:cP O cs d) (hb:d.wait.length≤1000000) (dl:d.last.length≤1000000):
 ai F 116 [.agg cs,.no .sl,.bool true] O [] (fun r ψ R=>ψ=O∧∃s,R=[ec.ob s d.qZ]∧ae ec r d.qZ s) never:=by
 obtain⟨lv,wv,rfl,hl,hw,sl,sw⟩:=hd.open;refine ai.same (au ?_);refine S.box fun a3=>?_;refine S.a8 fun mh=>?_;refine S.ld 1 ?_;have mi:ae ec (.sl mh 0 0 (.ex 0)) [] (some mh):=ae.new rfl;refine S.bu 0 mi (.f hl) (by simp;omega) fun oO Oy vJ=>?_;refine SW.loop (fun m E ψ R=>∃(j:Nat) (v:V) (s:Option Pa),j+m=d.wait.length∧O=ψ∧R=[ec.ob s ((d.wait.take j).foldl kF d.last),(some a3,.cells [lv,wv,.j d.arm,.bool d.down] false)]∧ae ec v ((d.wait.take j).foldl kF d.last) s∧Sub [(1,.no .sl),(2,.bool true),(3,.ptr a3 0),(7,v),(8,.j (j:Int))] E) (m:=d.wait.length) ⟨0,oO,Oy,by omega,rfl,rfl,vJ,.r rfl⟩ ?_;intro m0 E ψ R ac hI;obtain⟨j,v,s,hj,rfl,rfl,ho,hE⟩:=hI;refine C.sub hE ?_;refine S.ld 1 ?_;refine S.len ?_;refine S.bin ?_;refine C.D (fun cy=>?_) fun cy=>?_
 ·have ap:j<d.wait.length:=by omega
  have hlen:=aiw d j;have tP:=aa.nil (e:=qY) O;refine S.ld 1 ?_;refine S.aF hw ap fun vK nq=>?_;refine S.bl nq fun DJ x0=>?_;refine S.aX ?_;refine S.bin ?_;refine G.mv ?_;refine G.mv ?_;refine G.len ?_;refine G.bin ?_;refine G.and ?_;refine G.mv ?_;refine G.mv ?_;refine G.mv ?_;refine G.mv ?_;refine G.len ?_;refine G.bin ?_;refine G.mv ?_;refine G.mv ?_;refine G.mv ?_;refine G.aF (z:=false) tP (fun HU HV=>?_) (hj:=fun h=>by simp at h);refine G.aX ?_;refine G.jR ?_;refine G.xl ?_;refine G.and ?_;refine C.B (fun hc=>?_) fun hc=>?_
  ·simp only[G7,Bool.true_or,and_true,G6]at hc;obtain⟨q,hq⟩:∃q:Nat,(d.wait[j]).at_=(q:Int):=⟨(d.wait[j]).at_.toNat,by omega⟩
   have eZ:(d.wait.take (j+1)).foldl kF d.last=((d.wait.take j).foldl kF d.last).set q (d.wait[j]).b:=by
    rw[TN _ _ _ _ ap];unfold kF;rw[B4 hc.1,hq];(try rfl)
   rw[hq]at hc⊢;refine S.ld 1 ?_;refine S.aF hw ap fun Ye HW=>?_;refine S.bl HW fun Oz HX=>?_;refine S.aX ?_;have g3:q<((d.wait.take j).foldl kF d.last).length:=by omega
   refine S.cX ho g3 fun Yf x1=>?_;subst x1;refine S.pE (d.wait[j]).b 0 ?_;refine S.bin ?_;refine⟨m0-1,by omega,j+1,v,some Yf,by omega,rfl,by rw[eZ];(try rfl),by rw[eZ];exact ho.set q _,.r rfl⟩
  ·refine S.bin ?_;have eZ:(d.wait.take (j+1)).foldl kF d.last=(d.wait.take j).foldl kF d.last:=by
    simp only[Bool.true_or,aqK,aqs,NI]at hc;rw[TN _ _ _ _ ap,aiv (by omega)]
   refine⟨m0-1,by omega,j+1,v,s,by omega,rfl,by rw[eZ],by rw[eZ];exact ho,.r rfl⟩
 ·obtain rfl:j=d.wait.length:=by omega
  rw[ap2]at ho⊢;exact⟨_,.t rfl .nil,.only 0 ⟨s,rfl,ho⟩⟩
theorem TO [Fx F] {cs:List V} {d:ay} (hd:cP O cs d) (hb:d.wait.length≤1000000) (dl:d.last.length≤1000000):
 ai F 74 [.agg cs] O [] (fun r ψ R=>∃cs',r=.aM [.agg cs',.bool d.flush.2]∧cP ψ cs' d.flush.1∧R=[]) never:=by
 obtain⟨lv,wv,rfl,hl,hw,sl,sw⟩:=hd.open;refine au ?_;refine S.box fun bs=>?_;refine S.alloc fun a2=>?_;refine S.ld 1 ?_;refine C.B (fun hc=>?_) fun hc=>?_
 ·refine S.af 1 ?_;refine S.store 0 ?_;have e:d.flush=(d,false):=by unfold ay.flush;rw[B4 hc]
  rw[e];exact⟨_,.cN 0 rfl rfl rfl rfl (.t rfl .nil),.none ⟨_,rfl,hd,rfl⟩⟩
 ·refine S.ld 1 ?_;refine S.len ?_;refine S.bin ?_;refine C.D (fun bU=>?_) fun bU=>?_
  ·refine S.af 1 ?_;refine S.call (aix hd hb dl) fun g4 kX p7 mj cd=>?_;obtain⟨rfl,Ay,rfl,x3⟩:=cd;refine S.ct 0 x3 fun nr p8 c0=>?_;have amK:=c0.av;refine S.aE ?_;refine S.hK 1 ?_;refine S.store 1 ?_;refine S.af 1 ?_;refine S.store 0 ?_;have e:d.flush=({d with last:=d.qZ,wait:=[]},true):=by unfold ay.flush;rw[pg (by rw[hc];simp)]
   rw[e];exact⟨_,.cN 0 rfl rfl rfl rfl (.t rfl .nil),.none ⟨_,rfl,⟨_,_,rfl,c0,aa.nil _⟩,rfl⟩⟩
  ·refine S.store 1 ?_;refine S.af 1 ?_;refine S.store 0 ?_;have e:d.flush=({d with last:=d.qZ,wait:=[]},true):=by unfold ay.flush;rw[pg (by rw[hc];simp)]
   have e2:d.qZ=d.last:=ail d (ap8 (by omega));rw[e,e2];exact⟨_,.cN 0 rfl rfl rfl rfl (.t rfl .nil),.none ⟨_,rfl,⟨_,_,rfl,hl,aa.nil _⟩,rfl⟩⟩
theorem Gv {U:Type} {l:List U} {j:Nat} (hj:j<l.length):l.take (j+1)=l.take j++[l[j]]:=aqd hj
theorem Gw [Fx F] {bC lv:V} {b:Bs} {n:Nat} {l:List Int} (cj:aa aQ O bC b) (hl:aa bp O lv l) (hn:1≤n) (Az:n≤4) (hb:b.length+l.length*n≤1000000) (dl:l.length≤1000000):
 ai F 97 [bC,.j (n:Int),lv] O [] (fun r ψ R=>ψ=O∧∃s,R=[aQ.ob s (b++bo n l)]∧ae aQ r (b++bo n l) s) never:=by
 refine ai.same (au ?_);refine S.a8 fun mh=>?_;have mi:ae aQ (.sl mh 0 0 (.ex 0)) [] (some mh):=ae.new rfl;refine S.bu 0 mi (.f cj) (by simp;omega) fun g4 Ay x3=>?_;refine SW.loop (fun m E ψ R=>∃(j:Nat) (v:V) (s:Option Pa),j+m=l.length∧O=ψ∧R=[aQ.ob s (b++bo n (l.take j))]∧ae aQ v (b++bo n (l.take j)) s∧Sub [(1,.j (n:Int)),(2,lv),(7,v),(8,.j (j:Int))] E) (m:=l.length) ⟨0,g4,Ay,by omega,rfl,by simp[bo],by simpa[bo]using x3,.r rfl⟩ ?_;intro m0 E ψ R ac hI;obtain⟨j,v,s,hj,rfl,rfl,ho,hE⟩:=hI;refine C.sub hE ?_;refine S.len ?_;refine S.bin ?_;refine G.mv ?_;refine G.bin ?_;refine G.and ?_;refine G.mv ?_;refine G.bin ?_;refine G.and ?_;have nq:((decide ((j:Int)<(l.length:Int))&&decide ((1:Int)≤(n:Int)))&&decide ((n:Int)≤4))=decide (j<l.length):=by
  rw[decide_eq_true (show(1:Int)≤(n:Int) by omega),decide_eq_true (show(n:Int)≤4 by omega),aqK,aqK];exact decide_eq_decide.2 (by omega)
 rw[nq];refine C.D (fun hc=>?_) fun hc=>?_
 ·have dD:b.length+(j+1)*n≤1000000:=by have:=arb n (show j+1≤l.length from hc);omega
  have hlen:(b++bo n (l.take j)).length=b.length+j*n:=by rw[amv,ij,ab7,aqn (by omega)]
  rw[aqr,arh]at dD;refine SW.loop (fun m E ψ R=>∃(i:Nat) (v:V) (s:Option Pa),i+m=n∧O=ψ∧R=[aQ.ob s (b++bo n (l.take j)++le i l[j])]∧ae aQ v (b++bo n (l.take j)++le i l[j]) s∧Sub [(1,.j (n:Int)),(2,lv),(7,v),(8,.j (j:Int)),(9,.j (i:Int))] E) (m:=n) ⟨0,v,s,by omega,rfl,by simp[le],by simpa[le]using ho,.r rfl⟩ ?_;intro m2 E ψ R ac hI;obtain⟨i,v,s,hi,rfl,rfl,ho,hE⟩:=hI;refine C.sub hE ?_;refine S.bin ?_;refine C.D (fun x4=>?_) fun x4=>?_
  ·refine S.aF hl hc fun DK DL=>?_;refine S.aX ?_;refine S.bin ?_;refine S.bin ?_ (hv:=TB (by omega));refine S.qV ?_;rw[Gr];refine S.a8 fun OA=>?_;refine S.bu (m:=[bS (l[j]/256^i)]) 1 ho (.lit 0) (by rw[amv,hlen,hD];simp;omega) fun x5 HY HZ=>?_;refine S.drop 0 ?_;refine S.mv ?_;refine S.bin ?_;refine⟨m2-1,by omega,i+1,x5,HY,by omega,rfl,by rw[Gm,←KK]<;>rfl,by rw[Gm,←KK];exact HZ,.r rfl⟩
  ·refine S.bin ?_;obtain rfl:i=n:=by omega
   refine⟨m0-1,by omega,j+1,v,s,by omega,rfl,?_,?_,.r rfl⟩
   ·rw[Gv hc,Gn,←KK]
   ·rw[Gv hc,Gn,←KK];exact ho
 ·obtain rfl:j=l.length:=by omega
  rw[ap2]at ho⊢;exact⟨_,.t rfl .nil,.only 0 ⟨s,rfl,ho⟩⟩
theorem q0 [Fx F] {bC:V} {b:Bs} {n:Nat} {x:Int} (cj:aa aQ O bC b) (hn:1≤n) (Az:n≤4) (hb:b.length≤999990):
 ai F 96 [bC,.j (n:Int),.j x] O [] (fun r ψ R=>ψ=O∧∃s,R=[aQ.ob s (b++le n x)]∧ae aQ r (b++le n x) s) never:=by
 refine ai.same (au ?_);refine S.a8 fun mh=>?_;have mi:ae bp (.sl mh 0 1 (.ex 1)) [x] (some mh):=ae.new rfl;refine S.ct 0 mi fun rK nu dA=>?_;refine S.call (Gw (cj.mono nu) dA hn Az (by simp;omega) (by simp)) fun p9 AA AB qa dB=>?_;obtain⟨rfl,AC,rfl,vL⟩:=dB;have Yg:bo n [x]=le n x:=by simp[bo]
 rw[Yg]at vL⊢;exact⟨_,.t rfl .nil,.only 0 ⟨AC,rfl,vL⟩⟩
theorem TP [Fx F] {bC:V} {b:Bs} {n:Nat} (cj:aa aQ O bC b) (hn:n≤1000) (hb:b.length≤1000000):bk F 93 [bC,.j (n:Int)] O (.aM [.j (cF b n).1,.bool (cF b n).2]):=by
 refine ai.ak (au ?_);refine S.bin ?_;refine G.mv ?_;refine G.bin ?_;refine G.or ?_;refine G.mv ?_;refine G.len ?_;refine G.mv ?_;refine G.bin ?_;refine G.or ?_;refine C.B (fun cG=>?_) fun cG=>?_
 ·have e:cF b n=(0,false):=by unfold cF;simp only[amt,G6]at cG;exact B4 (by omega)
  rw[e];exact⟨_,.t rfl (.t rfl .nil),.done rfl⟩
 ·simp only[W0,NI]at cG;have e:cF b n=(ej (b.take n),true):=by unfold cF;exact pg (by omega)
  rw[e];have ap:(b.take n).length=n:=by rw[ab7];omega
  refine S.bin ?_;refine SW.loop (fun m E ψ R=>∃z:Int,z+1=m∧m≤n∧O=ψ∧R=[]∧Sub [(0,bC),(6,.j (ej ((b.take n).drop m))),(7,.j z)] E) (m:=n) ⟨_,by omega,B5 n,rfl,rfl,.cons rfl (.cons (by rw[aqw (by omega)];(try rfl)) (.r rfl))⟩ ?_;intro m0 E ψ R ac hI;obtain⟨z,hz,hm,rfl,rfl,hE⟩:=hI;refine C.sub hE ?_;refine S.bin ?_;refine C.D (fun eu=>?_) fun eu=>?_
  ·obtain⟨j,rfl⟩:∃j:Nat,z=(j:Int):=⟨z.toNat,by omega⟩
   obtain rfl:m0=j+1:=by omega
   have hj:j<b.length:=by omega
   have DM:=Md ((b.take n).drop (j+1));have hv1:=Tz ((b.take n).drop (j+1)) (by rw[Rn,ap];omega);have b0:=(b[j]).toNat_lt;have eZ:ej ((b.take n).drop j)=ej ((b.take n).drop (j+1))*256+(b[j]).toNat:=by
    rw[Rm (by omega),List.getElem_take];simp only[ej];omega
   refine S.bin ?_;refine S.aF cj hj fun Ou HT=>?_;refine S.aX ?_;refine S.lK ?_;refine S.bin ?_;refine S.bin ?_;refine⟨j,by omega,(j:Int)-1,by omega,by omega,rfl,rfl,.cons rfl (.cons (by rw[eZ];(try rfl)) (.r rfl))⟩
  ·obtain rfl:m0=0:=by omega
   refine⟨_,.t rfl (.t rfl .nil),.done ?_⟩;rfl
theorem aiy [Fx F] {bC:V} {b s:Bs} (cj:aa aQ O bC b) (hb:b.length≤500000) (hs:s.length≤500000):
 ai F 151 [bC,.str s] O [] (fun r ψ R=>ψ=O∧∃a,R=[aQ.ob a (iD b s)]∧ae aQ r (iD b s) a) never:=by
 refine ai.same (au ?_);refine S.cD ?_;refine S.bin ?_;refine C.D (fun ml=>?_) fun ml=>?_
 ·refine S.a8 fun ew=>?_;have o8:ae aQ (.sl ew 0 0 (.ex 0)) [] (some ew):=ae.new rfl;refine S.bu 0 o8 (.f cj) (by simp;omega) fun eL qb mi=>?_;have e:iD b s=b:=by unfold iD;exact B4 (by omega)
  rw[e];exact⟨_,.t rfl .nil,.only 0 ⟨qb,rfl,mi⟩⟩
 ·refine S.cD ?_;refine S.call (q0 (n:=1) cj (by omega) (by omega) (by omega)) fun nw tQ tR qc b4=>?_;obtain⟨rfl,H0,rfl,H3⟩:=b4;refine S.bu 0 H3 (.s s) (by rw[amv,hD];omega) fun oP OB AD=>?_;have e:iD b s=b++le 1 s.length++s:=by unfold iD;rw[pg (by omega)]
  rw[e];exact⟨_,.t rfl .nil,.only 0 ⟨OB,rfl,AD⟩⟩
theorem lR [Fx F] {a:Pa} {bC:V} {s:df} {n:Nat} (cj:aa aQ O bC s.1) (hn:n≤4) (hb:s.1.length≤1000000):
 ai F 55 [.ptr a 0,.j (n:Int)] O [(some a,.cells [bC,.bool s.2] false)] (fun r ψ R=>ψ=O∧r=.j (rdNum n s).1∧∃oQ,R=[(some a,.cells [oQ,.bool (rdNum n s).2.2] false)]∧aa aQ O oQ (rdNum n s).2.1) never:=by
 refine ai.same (au ?_);refine S.ld 0 ?_;refine S.ak (TP (n:=n) cj (by omega) hb) ?_;refine S.un ?_;refine SW.then (fun E ψ R=>∃z,R=[(some a,.cells [bC,.bool z] false)]∧z=(s.2||!(cF s.1 n).2)∧O=ψ∧Sub [(0,.ptr a 0),(1,.j (n:Int)),(5,.j (cF s.1 n).1)] E) ?_ ?_
 ·refine C.B (fun d4=>?_) fun d4=>?_
  ·refine S.store 0 ?_;exact⟨true,rfl,by rw[d4];simp,rfl,.r rfl⟩
  ·exact⟨s.2,rfl,by rw[d4];simp,rfl,.r rfl⟩
 intro E ψ R ac hM;obtain⟨z,rfl,hz,rfl,hE⟩:=hM;refine C.sub hE ?_;refine S.ld 0 ?_;refine C.B (fun ey=>?_) fun ey=>?_
 ·have e:rdNum n s=(0,(s.1,true)):=by unfold rdNum;rw[B4 (by rw[←hz,ey])]
  rw[e,ey];exact⟨_,.t rfl .nil,.done ⟨rfl,bC,rfl,cj⟩⟩
 ·refine S.ld 0 ?_;have hk:n≤s.1.length:=by
   rw[ey]at hz;have J:(cF s.1 n).2=true:=by cases h:(cF s.1 n).2<;>simp[h]at hz⊢
   unfold cF at J;split at J
   ·cases J
   ·omega
  obtain⟨w,w1,w2⟩:=aa.lo cj hk;have Yh:=w2.av;refine S.slice w1 ?_;refine S.hK 0 ?_;have e:rdNum n s=((cF s.1 n).1,(s.1.drop n,false)):=by unfold rdNum;rw[pg (by rw[←hz,ey];simp)]
  rw[e,ey];exact⟨_,.t rfl .nil,.done ⟨rfl,w,rfl,w2⟩⟩
theorem aiz [Fx F] {x:aV}:bk F 150 [.agg [.j x.kind,.j x.gen,.str x.load]] O (.bool (mS x)):=by
 refine ai.ak (au ?_);refine S.box fun bs=>?_;refine S.ld 0 ?_;refine S.bin ?_;refine G.aE ?_;refine G.ld 0 ?_;refine G.bin ?_;refine G.and ?_;refine G.aE ?_;refine G.ld 0 ?_;refine G.bin ?_;refine G.and ?_;refine G.aE ?_;refine G.ld 0 ?_;refine G.bin ?_;refine G.and ?_;refine G.aE ?_;refine G.ld 0 ?_;refine G.cD ?_;refine G.bin ?_;refine G.and ?_;refine⟨_,.t rfl .nil,.done ?_⟩;rfl
theorem Mm [Fx F] {x:aV}:bk F 94 [.agg [.j x.kind,.j x.gen,.str x.load]] O (.str (eR x)):=by
 refine ai.ak (au ?_);refine S.box fun bs=>?_;refine S.af 0 ?_;refine S.ak (aiz) ?_;refine S.un ?_;refine C.B (fun ja=>?_) fun ja=>?_
 ·have e:eR x=[]:=by unfold eR;rw[pg (by intro h;rw[h]at ja;cases ja)]
  rw[e];exact⟨_,.t rfl .nil,.done rfl⟩
 ·have hm:mS x=true:=by simpa using ja
  have e:eR x=iE x++List.replicate (64-(iE x).length) 0:=by unfold eR;rw[B4 hm]
  rw[e];have ny:x.load.length≤55:=by unfold mS at hm;simp only[G7,G6]at hm;omega
  have dD:(iE x).length=6+x.load.length:=by unfold iE iD;rw[pg (by omega)];simp[hD];omega
  refine S.ld 0 ?_;refine S.ld 0 ?_;refine S.ld 0 ?_;refine S.call (q0 (n:=1) (aa.nil _) (by omega) (by omega) (by simp)) fun v9 x6 O9 vM h9=>?_;obtain⟨rfl,s9,rfl,rL⟩:=h9;refine S.ct 0 rL fun x6 vM h9=>?_;refine S.bF 0 ?_;refine S.bF 0 ?_;refine S.call (q0 (n:=4) h9 (by omega) (by omega) (by simp[hD])) fun g4 kX p7 mj cd=>?_;obtain⟨rfl,Ay,rfl,x3⟩:=cd;refine S.ct 0 x3 fun kX mj cd=>?_;refine S.bF 0 ?_;refine S.call (aiy (s:=x.load) cd (by simp[hD]) (by omega)) fun rM qd x7 oR dR=>?_;obtain⟨rfl,Yi,rfl,x8⟩:=dR;change ae aQ rM (iE x) Yi at x8;refine S.len ?_;refine S.bin ?_;rw[show(64:Int)-((iE x).length:Int)=((64-(iE x).length:Nat):Int) by omega];refine S.y0 (z0:=(0:UInt8)) (n:=64-(iE x).length) 0 x8 rfl (by omega) fun v20 Yj AE=>?_;refine S.jS 0 AE ?_;refine⟨_,.t rfl .nil,.done ?_⟩;rfl
def Mn:Option aV→aV×Bool
 |some x=>(x,true)
 |none=>(hG,false)
theorem TQ {U:Type} {l:List U} {i:Nat} (h:i<l.length):l[i]? =some l[i]:=KJ h
theorem aiA [Fx F] {s:Bs}:bk F 54 [.str s] O (.aM [.agg (bw.f (Mn (hJ s)).1),.bool (Mn (hJ s)).2]):=by
 refine ai.ak (au ?_);refine S.alloc fun a2=>?_;refine S.cD ?_;refine S.bin ?_;refine C.B (fun bU=>?_) fun bU=>?_
 ·refine S.build ?_;refine S.store 0 ?_;have e:hJ s=none:=by
   unfold hJ;simp at bU;exact pg (by omega)
  rw[e];exact⟨_,.cN 0 rfl rfl rfl rfl (.t rfl .nil),.none rfl⟩
 ·have hl:s.length=64:=by simp at bU;omega
  refine S.mV fun oO nr p8 c0=>?_;obtain⟨w,w1,w2⟩:=aa.lo c0 (show 1≤s.length by omega);refine S.slice w1 ?_;refine S.ak (TP (n:=4) w2 (by omega) (by rw[Rn];omega)) ?_;have AF:cF (s.drop 1) 4=(ej ((s.drop 1).take 4),true):=by unfold cF;exact pg (by rw[Rn];omega)
  rw[AF];refine S.aF (j:=0) c0 (by omega) fun AG x9=>?_;refine S.aX ?_;refine S.lK ?_;refine S.aF (j:=5) c0 (by omega) fun H4 vN=>?_;refine S.aX ?_;refine S.lK ?_;have hb5:=(s[5]).toNat_lt;refine S.pB (CE _ 55) ?_;refine S.bin ?_;rw[show(6:Int)+((min (s[5]).toNat 55:Nat):Int)=((6+min (s[5]).toNat 55:Nat):Int) by omega];refine S.je (Gs (s:=s) (i:=6) (j:=6+min (s[5]).toNat 55) (by omega) (by omega)) ?_;rw[show 6+min (s[5]).toNat 55-6=min (s[5]).toNat 55 by omega];refine S.build ?_;refine S.alloc fun c1=>?_;refine S.store 0 ?_;have AH:sX s=⟨(s[0]).toNat,ej ((s.drop 1).take 4),(s.drop 6).take (min (s[5]).toNat 55)⟩:=by
   unfold sX;rw[TQ (show 0<s.length by omega),TQ (show 5<s.length by omega)];(try rfl)
  refine S.af 0 ?_;refine S.ak (Mm (x:=sX s)) ?_ (hx:=by rw[AH];(try rfl));refine S.bin ?_;refine C.B (fun kY=>?_) fun kY=>?_
  ·refine S.build ?_;refine S.store 1 ?_;have e:hJ s=none:=by
    unfold hJ;rw[B4 hl,pg (by simpa using kY)]
   rw[e];exact⟨_,.cN 1 rfl rfl rfl rfl (.t rfl .nil),.none rfl⟩
  ·refine S.af 0 ?_;refine S.store 1 ?_;have e:hJ s=some (sX s):=by
    unfold hJ;rw[B4 hl,B4 (by simpa using kY)]
   rw[e,AH];exact⟨_,.cN 1 rfl rfl rfl rfl (.t rfl .nil),.none rfl⟩
theorem CN [Fx F] {n:Int}:bk F 158 [.j n] O (.bool (gg n)):=by
 refine ai.ak (au ?_);refine S.bin ?_;refine G.mv ?_;refine G.bin ?_;refine G.and ?_;refine⟨_,.t rfl .nil,.done ?_⟩;rfl
theorem aiB [Fx F] {x:xn}:bk F 115 [.agg [.j x.n,.j x.seq,.j x.sum,.j x.aU,.j x.pos]] O (.bool (TA x)):=by
 refine ai.ak (au ?_);refine S.box fun bs=>?_;refine S.ld 0 ?_;refine S.ak (CN) ?_;refine G.aE ?_;refine G.ld 0 ?_;refine G.bin ?_;refine G.and ?_;refine G.aE ?_;refine G.ld 0 ?_;refine G.ak (fun _=>CN) ?_;refine G.and ?_;refine G.aE ?_;refine G.ld 0 ?_;refine G.ak (fun _=>CN) ?_;refine G.and ?_;refine G.aE ?_;refine G.ld 0 ?_;refine G.ak (fun _=>CN) ?_;refine G.and ?_;refine G.aE ?_;refine G.ld 0 ?_;refine G.ak (fun _=>CN) ?_;refine G.and ?_;refine G.aE ?_;refine G.ld 0 ?_;refine G.bin ?_;refine G.and ?_;refine⟨_,.t rfl .nil,.done ?_⟩;rfl
theorem aiC [Fx F] {x:xn}:bk F 73 [.agg [.j x.n,.j x.seq,.j x.sum,.j x.aU,.j x.pos]] O (.str (mT x)):=by
 refine ai.ak (au ?_);refine S.box fun bs=>?_;refine S.af 0 ?_;refine S.ak (aiB) ?_;refine S.un ?_;refine C.B (fun rN=>?_) fun rN=>?_
 ·have e:mT x=[]:=by unfold mT;rw[pg (by intro h;rw[h]at rN;cases rN)]
  rw[e];exact⟨_,.t rfl .nil,.none rfl⟩
 ·refine S.ld 0 ?_;refine S.ld 0 ?_;refine S.ld 0 ?_;refine S.ld 0 ?_;refine S.ld 0 ?_;refine S.zt (e:=bp) [x.seq,x.sum,x.aU,x.pos] fun oP qe kZ c2=>?_;refine S.call (Gw (n:=4) (aa.nil _) c2 (by omega) (by omega) (by simp) (by simp)) fun k0 rO rP rQ bX=>?_;obtain⟨rfl,Yk,rfl,tS⟩:=bX;refine S.bF 1 ?_;refine S.jS 0 tS ?_;refine S.build ?_;refine S.ak (Mm (x:=⟨5,x.n,bo 4 [x.seq,x.sum,x.aU,x.pos]⟩)) ?_;have e:mT x=eR ⟨5,x.n,bo 4 [x.seq,x.sum,x.aU,x.pos]⟩:=by unfold mT;rw[B4 (by simpa using rN)]
  rw[e];exact⟨_,.t rfl .nil,.none rfl⟩
end Go.Ev
