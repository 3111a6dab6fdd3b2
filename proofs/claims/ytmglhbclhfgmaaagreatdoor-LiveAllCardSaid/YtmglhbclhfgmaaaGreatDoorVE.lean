/- A part of the proof of glacislaw13.LiveAll (made short by a program). -/
import Derived.Test.YtmglhbclhfgmaaaGreatDoorVD
namespace Go.Ev
section
variable(F:Nat→Option aN)
inductive Reach:Nx→Nx→Prop
 |refl (a:Nx):Reach a a
 |step {fr:Fr} {cs:List Fr} {h:Hp} {ls:List LE} {b:Nx}:Reach (step F fr cs h ls) b→Reach (.go fr cs h ls) b
variable{F}
theorem Reach.trans {a b c:Nx} (h:Reach F a b) (k:Reach F b c):Reach F a c:=by
 induction h with
 |refl=>exact k
 |step _ ih=>exact .step (ih k)
theorem Reach.of_eq {a b:Nx} (h:a=b):Reach F a b:=h▸.refl a
theorem Reach.one {fr:Fr} {cs:List Fr} {h:Hp} {ls:List LE} {b:Nx} (hs:Go.Ev.step F fr cs h ls=b):Reach F (.go fr cs h ls) b:=.step (.of_eq hs)
theorem Reach.run {a:Nx} {v:V} {h':Hp} (hr:Reach F a (.done v h')):∀{fr:Fr} {cs:List Fr} {h:Hp} {ls:List LE},a=.go fr cs h ls→∃n,run F n fr cs h ls=.done v h':=by
 generalize hb:Nx.done v h'=b at hr
 induction hr with
 |refl a=>intro fr cs h ls e;subst hb;cases e
 | @step fr cs h ls b hs ih=>
   intro fr' cs' h0 pm e;cases e;cases hx:Go.Ev.step F fr cs h ls with
   |go fr2 Oi J ls2=>
    obtain⟨n,hn⟩:=ih hb hx;refine⟨n+1,?_⟩;show Nx.rec (motive:=fun _=>Nx) (fun fr cs h ls=>Go.Ev.run F n fr cs h ls) (fun v h=>.done v h) (fun a b=>.bad a b) (Go.Ev.step F fr cs h ls)=_;rw[hx];exact hn
   |done v2 J=>
    refine⟨1,?_⟩;show Nx.rec (motive:=fun _=>Nx) (fun fr cs h ls=>Go.Ev.run F 0 fr cs h ls) (fun v h=>.done v h) (fun a b=>.bad a b) (Go.Ev.step F fr cs h ls)=_;rw[hx]at hs⊢;subst hb;cases hs;rfl
   |bad x y=>
    rw[hx]at hs;subst hb;cases hs
abbrev Env:=List (Nat×V)
def lk (n:Nat):Env→Option V
 |[]=>none
 |(m,v)::r=>bif Nat.beq m n then some v else lk n r
def ch (e:T V) (E:Env):Prop:=∀n v,lk n E=some v→e.get (pa n)=some v
theorem aeR {a b:Nat} (h:pa a=pa b):a=b:=by have:=congrArg Pa.toNat h;simpa[gY]using this
theorem ch.set {e:T V} {E:Env} (h:ch e E) (d:Nat) (v:V):ch (e.set v (pa d)) ((d,v)::E):=by
 intro n u hn;rw[T.gX];simp only[lk]at hn;by_cases hd:d=n
 ·subst hd;rw[arz]at hn;simpa using hn
 ·have I:Nat.beq d n=false:=by
   cases hb:Nat.beq d n with
   |false=>rfl
   |true=>exact absurd (apY hb) hd
  rw[I]at hn;rw[pg (fun e1=>hd (aeR e1))];exact h n u hn
def Sub (E' E:Env):Prop:=∀n v,lk n E'=some v→lk n E=some v
theorem ch.sub {e:T V} {E E':Env} (h:ch e E) (hs:Sub E' E):ch e E':=fun n v hn=>h n v (hs n v hn)
theorem Sub.nil (E:Env):Sub [] E:=fun _ _ h=>by cases h
theorem Sub.cons {n:Nat} {v:V} {E' E:Env} (h:lk n E=some v) (hs:Sub E' E):Sub ((n,v)::E') E:=by
 intro m u hm;simp only[lk]at hm;cases hb:Nat.beq n m with
 |true=>
  have:=apY hb;subst this;rw[hb]at hm;simp at hm;subst hm;exact h
 |false=>rw[hb]at hm;exact hs m u hm
def ax (E:Env) (x:Od) (a:V):Prop:=∀e,ch e E→x.ev e=a
theorem ax.c {E:Env} {a:V}:ax E (.c a) a:=fun _ _=>rfl
theorem ax.t {E:Env} {n:Nat} {a:V} (h:lk n E=some a):ax E (.t (pa n)) a:=fun e he=>by
 show e.val (pa n)=a;unfold T.val;rw[he n a h]
inductive py (E:Env):List Od→List V→Prop
 |nil:py E [] []
 |cons {x:Od} {a:V} {xs:List Od} {vs:List V} (h:ax E x a) (hs:py E xs vs):py E (x::xs) (a::vs)
theorem py.ev {E:Env} {xs:List Od} {vs:List V} (h:py E xs vs) {e:T V} (he:ch e E):ea e xs=vs:=by
 induction h with
 |nil=>rfl
 |cons h _ ih=>rw[ea,h e he,ih]
structure KX where
 k:FK
 L:List LE→Prop
structure fu where
 n:Env→Hp→List Pa→Prop
 x:Nat→Env→Hp→List Pa→Prop
 r:Env→Hp→List Pa→Prop
 p:Env→V→Hp→List Pa→Prop
def fu.sh (Q:fu) (ms:List Pa):fu where
 n:=fun E h m=>Q.n E h (m++ms)
 x:=fun i E h m=>Q.x i E h (m++ms)
 r:=fun E h m=>Q.r E h (m++ms)
 p:=fun E v h m=>Q.p E v h (m++ms)
def marks (ms:List Pa) (ds:List Def):List Def:=ms.map .mark++ds
theorem FU (a b:List Pa) (ds:List Def):marks a (marks b ds)=marks (a++b) ds:=by simp[marks]
inductive pz where
 |n (e:T V) (h:Hp) (ms:List Pa)
 |x (id:Nat) (e:T V) (h:Hp) (ms:List Pa)
 |r (e:T V) (h:Hp) (ms:List Pa)
 |p (e:T V) (v:V) (h:Hp) (ms:List Pa)
inductive fu.Holds (Q:fu):pz→Prop
 |n {e:T V} {h:Hp} {ms:List Pa} {E:Env} (he:ch e E) (hq:Q.n E h ms):Holds Q (.n e h ms)
 |x {id:Nat} {e:T V} {h:Hp} {ms:List Pa} {E:Env} (he:ch e E) (hq:Q.x id E h ms):Holds Q (.x id e h ms)
 |r {e:T V} {h:Hp} {ms:List Pa} {E:Env} (he:ch e E) (hq:Q.r E h ms):Holds Q (.r e h ms)
 |p {e:T V} {v:V} {h:Hp} {ms:List Pa} {E:Env} (he:ch e E) (hq:Q.p E v h ms):Holds Q (.p e v h ms)
def FV (K:KX) (ms:List Pa) (ls:List LE):Prop:=K.L ls∧(K.k.round≠none→ms=[])
inductive Ends (K:KX) (k:List Item) (ds:List Def) (cs:List Fr) (ls:List LE):pz→Nx→Prop
 |n (e:T V) (h:Hp) (ms:List Pa) (xs:List LE) (hL:FV K ms (xs++ls)):Ends K k ds cs ls (.n e h ms) (.go ⟨K.k,e,k,marks ms ds,.run⟩ cs h (xs++ls))
 |x {id:Nat} {e:T V} {h:Hp} {ms:List Pa} {k':List Item} (xs:List LE) (hL:FV K ms (xs++ls)) (hk:exitTo id k=some k'):Ends K k ds cs ls (.x id e h ms) (.go ⟨K.k,e,k',marks ms ds,.run⟩ cs h (xs++ls))
 |r (e:T V) (h:Hp) (ms:List Pa) (td:List Item) (xs:List LE) (hL:FV K ms (xs++ls)):Ends K k ds cs ls (.r e h ms) (uH ⟨K.k,e,td,marks ms ds,.run⟩ cs h (xs++ls) (some .ret))
 |p (e:T V) (v:V) (h:Hp) (ms:List Pa) (td:List Item) (xs:List LE) (hL:FV K ms (xs++ls)):Ends K k ds cs ls (.p e v h ms) (.go ⟨K.k,e,td,marks ms ds,.panicking v false⟩ cs h (xs++ls))
theorem Ends.more {K:KX} {k:List Item} {ds:List Def} {cs:List Fr} {ls xs:List LE} {r:pz} {x:Nx} (h:Ends K k ds cs (xs++ls) r x):Ends K k ds cs ls r x:=by
 cases h with
 |n e h ms ys hL=>rw[←KK]at hL⊢;exact .n e h ms _ hL
 |x ys hL hk=>rw[←KK]at hL⊢;exact .x _ hL hk
 |r e h ms td ys hL=>rw[←KK]at hL⊢;exact .r e h ms td _ hL
 |p e v h ms td ys hL=>rw[←KK]at hL⊢;exact .p e v h ms td _ hL
def qT (r:pz) (k:List Item):Prop:=∀id e h ms,r=.x id e h ms→∃k',exitTo id k=some k'
variable(F)in
def WC (K:KX) (c:IC al) (E:Env) (h:Hp) (Q:fu):Prop:=
 ∀e,ch e E→∃r,Q.Holds r∧∀k ds cs ls,K.L ls→qT r k→∃x,Ends K k ds cs ls r x∧Reach F (.go ⟨K.k,e,fI c k,ds,.run⟩ cs h ls) x
variable(F)in
def WR (K:KX) (rs:List (RS al)) (E:Env) (h:Hp) (Q:fu):Prop:=
 ∀e,ch e E→∃r,Q.Holds r∧∀k ds cs ls,K.L ls→qT r k→∃x,Ends K k ds cs ls r x∧Reach F (jN F K.k e k ds cs h ls (.dc rs)) x
variable(F)in
def CB (f:Nat) (args:List V) (h:Hp) (v:V) (h':Hp):Prop:=∀fr cs ls,∃xs,Reach F (mJ F fr cs h ls f args) (finish fr v cs h' (xs++ls))
variable(F)in
def S5 (f:Nat) (args:List V) (h:Hp) (v:V) (h':Hp):Prop:=∀fr cs ls,fr.mode=.run→∃xs,Reach F (mJ F fr cs h ls f args) (.go ⟨fr.k,fr.env,fr.todo,fr.defers,.panicking v false⟩ cs h' (xs++ls))
class gd (K:KX):Prop where
 up:∀xs ls,K.L ls→K.L (xs++ls)
instance(k:FK):gd ⟨k,fun _=>True⟩:=⟨fun _ _ _=>trivial⟩
variable{K:KX} {E:Env} {h:Hp} {Q:fu}
theorem WC.sub {c:IC al} {E':Env} (hs:Sub E' E) (hw:WC F K c E' h Q):WC F K c E h Q:=fun e he=>hw e (he.sub hs)
theorem fu.Holds.mono {Q':fu} (hn:∀E h m,Q.n E h m→Q'.n E h m) (hx:∀i E h m,Q.x i E h m→Q'.x i E h m) (hr:∀E h m,Q.r E h m→Q'.r E h m) (hp:∀E v h m,Q.p E v h m→Q'.p E v h m) {r:pz} (hE:Q.Holds r):Q'.Holds r:=by
 cases hE with
 |n he hq=>exact .n he (hn _ _ _ hq)
 |x he hq=>exact .x he (hx _ _ _ _ hq)
 |r he hq=>exact .r he (hr _ _ _ hq)
 |p he hq=>exact .p he (hp _ _ _ _ hq)
def pz.add (ms:List Pa):pz→pz
 |.n e h m=>.n e h (m++ms)
 |.x i e h m=>.x i e h (m++ms)
 |.r e h m=>.r e h (m++ms)
 |.p e v h m=>.p e v h (m++ms)
theorem fu.Holds.add {ms:List Pa} {r:pz} (hE:(Q.sh ms).Holds r):Q.Holds (r.add ms):=by
 cases hE with
 |n he hq=>exact .n he hq
 |x he hq=>exact .x he hq
 |r he hq=>exact .r he hq
 |p he hq=>exact .p he hq
theorem Ends.add {K:KX} {k:List Item} {ds:List Def} {cs:List Fr} {ls:List LE} {ms:List Pa} {r:pz} {x:Nx} (h0:K.k.round≠none→ms=[]) (h:Ends K k (marks ms ds) cs ls r x):Ends K k ds cs ls (r.add ms) x:=by
 cases h with
 |n e h m xs hL=>rw[FU];exact .n e h _ xs ⟨hL.1,fun q=>by rw[hL.2 q,h0 q];(try rfl)⟩
 |x xs hL hk=>rw[FU];exact .x xs ⟨hL.1,fun q=>by rw[hL.2 q,h0 q];(try rfl)⟩ hk
 |r e h m td xs hL=>rw[FU];exact .r e h _ td xs ⟨hL.1,fun q=>by rw[hL.2 q,h0 q];(try rfl)⟩
 |p e v h m td xs hL=>rw[FU];exact .p e v h _ td xs ⟨hL.1,fun q=>by rw[hL.2 q,h0 q];(try rfl)⟩
theorem qT.add {ms:List Pa} {r:pz} {k:List Item} (h:qT (r.add ms) k):qT r k:=by
 intro id e h' m e1;subst e1;exact h id e h' (m++ms) rfl
theorem aeS (ds:List Def):marks [] ds=ds:=rfl
theorem WC.mono {c:IC al} {Q':fu} (hn:∀E h m,Q.n E h m→Q'.n E h m) (hx:∀i E h m,Q.x i E h m→Q'.x i E h m) (hr:∀E h m,Q.r E h m→Q'.r E h m) (hp:∀E v h m,Q.p E v h m→Q'.p E v h m) (hw:WC F K c E h Q):WC F K c E h Q':=
 fun e he=>let⟨r,I,J⟩:=hw e he;⟨r,I.mono hn hx hr hp,J⟩
theorem WC.skip (hq:Q.n E h []):WC F K .skip E h Q:=fun e he=>⟨.n e h [],.n he hq,fun _ _ _ _ hL _=>⟨_,.n e h [] [] ⟨hL,fun _=>rfl⟩,.refl _⟩⟩
theorem WC.region {rs:List (RS al)} (hw:WR F K rs E h Q):WC F K (.region rs) E h Q:=fun e he=>
 let⟨r,I,J⟩:=hw e he
 ⟨r,I,fun k ds cs ls hL ho=>let⟨x,hx,hr⟩:=J k ds cs ls hL ho;⟨x,hx,.step hr⟩⟩
theorem qU (K:FK) (c:IC al) (e:T V) (k:List Item) (ds:List Def) (cs:List Fr) (h:Hp) (ls:List LE):
 Reach F (.go ⟨K,e,.code c::k,ds,.run⟩ cs h ls) (.go ⟨K,e,fI c k,ds,.run⟩ cs h ls):=by
 cases c<;>first|exact .refl _|exact .one rfl
def fu.then (Q:fu) (n:Env→Hp→List Pa→Prop):fu:={Q with n:=n}
theorem WC.seq {a b:IC al} (hw:WC F K a E h (Q.then fun E' h' m=>WC F K b E' h' (Q.sh m))):WC F K (.seq a b) E h Q:=by
 intro e he;obtain⟨r,I,J⟩:=hw e he;have DC:∀k,fI (.seq a b) k=fI a (.code b::k):=fun _=>rfl;cases I with
 | @n e' h' m E' ca hq=>
   obtain⟨r2,g1,g2⟩:=hq _ ca;refine⟨r2.add m,g1.add,fun k ds cs ls hL ho=>?_⟩;obtain⟨x,hx,hr⟩:=J (.code b::k) ds cs ls hL (fun _ _ _ _ e1=>by cases e1);cases hx with|n _ _ _ xs d8=>
   obtain⟨y,hy,mf⟩:=g2 k (marks m ds) cs (xs++ls) d8.1 ho.add;exact⟨y,.add d8.2 hy.more,by rw[DC];exact hr.trans ((qU _ _ _ _ _ _ _ _).trans mf)⟩
 | @x id e' h' m E' ca hq=>
   refine⟨_,.x ca hq,fun k ds cs ls hL ho=>?_⟩;obtain⟨x,hx,hr⟩:=J (.code b::k) ds cs ls hL (fun _ _ _ _ e1=>by cases e1;obtain⟨k',dZ⟩:=ho _ _ _ _ rfl;exact⟨k',by simpa[exitTo]using dZ⟩);cases hx with
   |x xs d8 hk=>exact⟨_,.x xs d8 (by simpa[exitTo]using hk),by rw[DC];exact hr⟩
 | @r e' h' m E' ca hq=>
   refine⟨_,.r ca hq,fun k ds cs ls hL ho=>?_⟩;obtain⟨x,hx,hr⟩:=J (.code b::k) ds cs ls hL (fun _ _ _ _ e1=>by cases e1);cases hx with
   |r _ _ _ td xs d8=>exact⟨_,.r _ _ _ td xs d8,by rw[DC];exact hr⟩
 | @p e2 v h' m E2 jz hq=>
   refine⟨_,.p jz hq,fun k ds cs ls hL ho=>?_⟩;obtain⟨x,hx,hr⟩:=J (.code b::k) ds cs ls hL (fun _ _ _ _ e1=>by cases e1);cases hx with
   |p _ _ _ _ td xs d8=>exact⟨_,.p _ _ _ _ td xs d8,by rw[DC];exact hr⟩
theorem WC.cond {c:Od} {a b:IC al} {t:Bool} (hc:ax E c (.bool t)) (hw:WC F K (bif t then a else b) E h Q):WC F K (.cond c a b) E h Q:=by
 intro e he;obtain⟨r,I,J⟩:=hw e he;refine⟨r,I,fun k ds cs ls hL ho=>?_⟩;obtain⟨x,hx,hr⟩:=J k ds cs ls hL ho;refine⟨x,hx,.trans (.one ?_) hr⟩;show kg F K.k e k ds cs h ls (.cond c a b)=_;simp only[kg,hc e he]
theorem xf {a b:Nat} (h:a≠b):Nat.beq a b=false:=by
 cases hb:Nat.beq a b with
 |false=>rfl
 |true=>exact absurd (apY hb) h
theorem WC.block {id:Nat} {b:IC al} (hw:WC F K b E h {Q with x:=fun i E' h' m=>if i=id then Q.n E' h' m else Q.x i E' h' m}):WC F K (.block id b) E h Q:=by
 intro e he;obtain⟨r,I,J⟩:=hw e he;have h0:∀k ds cs ls,Reach F (.go ⟨K.k,e,fI (.block id b) k,ds,.run⟩ cs h ls) (.go ⟨K.k,e,fI b (.inBlock id::k),ds,.run⟩ cs h ls):=fun _ _ _ _=>.one rfl;cases I with
 | @n e' h' m E' ca hq=>
   refine⟨_,.n ca hq,fun k ds cs ls hL ho=>?_⟩;obtain⟨x,hx,hr⟩:=J (.inBlock id::k) ds cs ls hL (fun _ _ _ _ e1=>by cases e1);cases hx with|n _ _ _ xs d8=>
   exact⟨_,.n _ _ _ xs d8,(h0 k ds cs ls).trans (hr.trans (.one rfl))⟩
 | @x i e' h' m E' ca hq=>
   by_cases hi:i=id
   ·subst hi;simp only[if_true]at hq;refine⟨_,.n ca hq,fun k ds cs ls hL ho=>?_⟩;obtain⟨x,hx,hr⟩:=J (.inBlock i::k) ds cs ls hL (fun _ _ _ _ e1=>by cases e1;exact⟨k,by simp[exitTo]⟩);cases hx with
    |x xs d8 hk=>
     simp[exitTo]at hk;subst hk;exact⟨_,.n _ _ _ xs d8,(h0 k ds cs ls).trans hr⟩
   ·simp only[hi,if_false]at hq;refine⟨_,.x ca hq,fun k ds cs ls hL ho=>?_⟩;obtain⟨k',dZ⟩:=ho _ _ _ _ rfl;obtain⟨x,hx,hr⟩:=J (.inBlock id::k) ds cs ls hL (fun _ _ _ _ e1=>by cases e1;exact⟨k',by simp only[exitTo,xf (Ne.symm hi),KL];exact dZ⟩);cases hx with
    |x xs d8 hk=>
     simp only[exitTo,xf (Ne.symm hi),KL]at hk;exact⟨_,.x xs d8 hk,(h0 k ds cs ls).trans hr⟩
 | @r e' h' m E' ca hq=>
   refine⟨_,.r ca hq,fun k ds cs ls hL ho=>?_⟩;obtain⟨x,hx,hr⟩:=J (.inBlock id::k) ds cs ls hL (fun _ _ _ _ e1=>by cases e1);cases hx with
   |r _ _ _ td xs d8=>exact⟨_,.r _ _ _ td xs d8,(h0 k ds cs ls).trans hr⟩
 | @p e2 v h' m E2 jz hq=>
   refine⟨_,.p jz hq,fun k ds cs ls hL ho=>?_⟩;obtain⟨x,hx,hr⟩:=J (.inBlock id::k) ds cs ls hL (fun _ _ _ _ e1=>by cases e1);cases hx with
   |p _ _ _ _ td xs d8=>exact⟨_,.p _ _ _ _ td xs d8,(h0 k ds cs ls).trans hr⟩
theorem WC.exit {id:Nat} (hq:Q.x id E h []):WC F K (.exit id) E h Q:=by
 intro e he;refine⟨_,.x he hq,fun k ds cs ls hL ho=>?_⟩;obtain⟨k',dZ⟩:=ho _ _ _ _ rfl;refine⟨_,.x [] ⟨hL,fun _=>rfl⟩ dZ,.one ?_⟩;show kg F K.k e k ds cs h ls (.exit id)=_;simp only[kg,dZ,aeS];rfl
theorem WC.ret (hq:Q.r E h []):WC F K .ret E h Q:=by
 intro e he;refine⟨_,.r he hq,fun k ds cs ls hL ho=>⟨_,.r e h [] k [] ⟨hL,fun _=>rfl⟩,.one ?_⟩⟩;rfl
theorem WC.loop {b:IC al} (d0:Nat→Env→Hp→List Pa→Prop) {m:Nat} (hi:d0 m E h []) (hb:∀m E h ms,d0 m E h ms→WC F K b E h ((Q.sh ms).then fun E' h' rH=>∃m',m'<m∧d0 m' E' h' (rH++ms))):WC F K (.loop b) E h Q:=by
 suffices hs:∀m E h ms,d0 m E h ms→∀e,ch e E→∃r,(Q.sh ms).Holds r∧∀k ds cs ls,K.L ls→qT r k→∃x,Ends K k ds cs ls r x∧Reach F (.go ⟨K.k,e,fI b (.inLoop b::k),ds,.run⟩ cs h ls) x by
  intro e he;obtain⟨r,I,J⟩:=hs m E h [] hi e he;have e0:Q.sh []=Q:=by simp[fu.sh]
  rw[e0]at I;exact⟨r,I,fun k ds cs ls hL ho=>let⟨x,hx,hr⟩:=J k ds cs ls hL ho;⟨x,hx,.trans (.one rfl) hr⟩⟩
 intro m
 induction m using Nat.strongRecOn with
 |ind m ih=>
  intro E h ms hi e he;obtain⟨r,I,J⟩:=hb m E h ms hi e he;cases I with
  | @n e' h' rH E' ca hq=>
    obtain⟨m',rD,b8⟩:=hq;obtain⟨r2,g1,g2⟩:=ih m' rD _ _ _ b8 _ ca;have e1:Q.sh (rH++ms)=(Q.sh ms).sh rH:=by simp[fu.sh]
    rw[e1]at g1;refine⟨r2.add rH,g1.add,fun k ds cs ls hL ho=>?_⟩;obtain⟨x,hx,hr⟩:=J (.inLoop b::k) ds cs ls hL (fun _ _ _ _ e1=>by cases e1);cases hx with|n _ _ _ xs d8=>
    obtain⟨y,hy,mf⟩:=g2 k (marks rH ds) cs (xs++ls) d8.1 ho.add;exact⟨y,.add d8.2 hy.more,hr.trans (.trans (.one rfl) mf)⟩
  | @x id e' h' rH E' ca hq=>
    refine⟨_,.x ca hq,fun k ds cs ls hL ho=>?_⟩;obtain⟨x,hx,hr⟩:=J (.inLoop b::k) ds cs ls hL (fun _ _ _ _ e1=>by cases e1;obtain⟨k',dZ⟩:=ho _ _ _ _ rfl;exact⟨k',by simpa[exitTo]using dZ⟩);cases hx with
    |x xs d8 hk=>exact⟨_,.x xs d8 (by simpa[exitTo]using hk),hr⟩
  | @r e' h' rH E' ca hq=>
    refine⟨_,.r ca hq,fun k ds cs ls hL ho=>?_⟩;obtain⟨x,hx,hr⟩:=J (.inLoop b::k) ds cs ls hL (fun _ _ _ _ e1=>by cases e1);cases hx with
    |r _ _ _ td xs d8=>exact⟨_,.r _ _ _ td xs d8,hr⟩
  | @p e2 v h' rH E2 jz hq=>
    refine⟨_,.p jz hq,fun k ds cs ls hL ho=>?_⟩;obtain⟨x,hx,hr⟩:=J (.inLoop b::k) ds cs ls hL (fun _ _ _ _ e1=>by cases e1);cases hx with
    |p _ _ _ _ td xs d8=>exact⟨_,.p _ _ _ _ td xs d8,hr⟩
theorem WR.nil (hq:Q.n E h []):WR F K [] E h Q:=fun e he=>⟨_,.n he hq,fun _ _ _ _ hL _=>⟨_,.n e h [] [] ⟨hL,fun _=>rfl⟩,.refl _⟩⟩
def az (E:Env):Option (Pa×Bool)→W3→Prop:=fun g w=>∀e,ch e E→fa e g=w
theorem az.none:az E none .yes:=fun _ _=>rfl
theorem az.yes {n:Nat} {b:Bool} (h:lk n E=some (.bool b)):az E (some (pa n,b)) .yes:=fun e he=>by
 simp only[fa,he n _ h];cases b<;>rfl
theorem az.no {n:Nat} {b c:Bool} (h:lk n E=some (.bool c)) (vu:c=!b):az E (some (pa n,b)) .no:=fun e he=>by
 simp only[fa,he n _ h,vu];cases b<;>rfl
theorem az.S6 {n:Nat} {b:Bool} {l:List V} (h:lk n E=some (.aM l)):az E (some (pa n,b)) .no:=fun e he=>by
 simp only[fa,he n _ h]
def xg (E:Env) (v:V):Option Nat→Env
 |none=>E
 |some d=>(d,v)::E
theorem ch.put {e:T V} (he:ch e E) (v:V) (d:Option Nat):ch (e.put v (d.map pa)) (xg E v d):=by
 cases d with
 |none=>exact he
 |some d=>exact he.set d v
theorem zi {rs hH:List (RS al)} {e e':T V} {h h':Hp} (cJ:gW rs e h=gW hH e' h') (k:List Item) (ds:List Def) (cs:List Fr) (ls:List LE):
 jN F K.k e k ds cs h ls (.dc rs)=jN F K.k e' k ds cs h' ls (.dc hH):=by
 simp only[jN,cJ]
theorem WR.pu {d:Option Nat} {g:Option (Pa×Bool)} {f:T V→Hp→Option V} {rs:List (RS al)} {v:V} (hw:az E g .yes) (hf:∀e,ch e E→f e h=some v) (hn:WR F K rs (xg E v d) h Q):
 WR F K (.op ⟨d.map pa,.pu f,g⟩::rs) E h Q:=by
 intro e he;obtain⟨r,I,J⟩:=hn _ (he.put v d);refine⟨r,I,fun k ds cs ls hL ho=>?_⟩;obtain⟨x,hx,hr⟩:=J k ds cs ls hL ho;refine⟨x,hx,?_⟩;rw[zi (hH:=rs) (e':=e.put v (d.map pa)) (h':=h) ?_]
 ·exact hr
 ·rw[sN (hw e he)];simp only[hf e he]
theorem WR.dw {d:Option Nat} {g:Option (Pa×Bool)} {f:T V→Option (al×(Pa→V))} {rs:List (RS al)} {b:al} {mk:Pa→V} (hw:az E g .yes) (hf:∀e,ch e E→f e=some (b,mk)) (hn:WR F K rs (xg E (mk h.next) d) (h.alloc b) Q):
 WR F K (.op ⟨d.map pa,.dw f,g⟩::rs) E h Q:=by
 intro e he;obtain⟨r,I,J⟩:=hn _ (he.put _ d);refine⟨r,I,fun k ds cs ls hL ho=>?_⟩;obtain⟨x,hx,hr⟩:=J k ds cs ls hL ho;refine⟨x,hx,?_⟩;rw[zi (hH:=rs) (e':=e.put (mk h.next) (d.map pa)) (h':=h.alloc b) ?_]
 ·exact hr
 ·rw[sN (hw e he)];simp only[hf e he]
theorem WR.st {d:Option Nat} {g:Option (Pa×Bool)} {f:T V→Hp→Option (V×Hp)} {rs:List (RS al)} {v:V} {h':Hp} (hw:az E g .yes) (hf:∀e,ch e E→f e h=some (v,h')) (hn:WR F K rs (xg E v d) h' Q):
 WR F K (.op ⟨d.map pa,.st f,g⟩::rs) E h Q:=by
 intro e he;obtain⟨r,I,J⟩:=hn _ (he.put v d);refine⟨r,I,fun k ds cs ls hL ho=>?_⟩;obtain⟨x,hx,hr⟩:=J k ds cs ls hL ho;refine⟨x,hx,?_⟩;rw[zi (hH:=rs) (e':=e.put v (d.map pa)) (h':=h') ?_]
 ·exact hr
 ·rw[sN (hw e he)];simp only[hf e he]
theorem WR.no {d:Option Nat} {g:Option (Pa×Bool)} {sm:bz} {rs:List (RS al)} (hw:az E g .no) (hn:WR F K rs (xg E dm d) h Q):
 WR F K (.op ⟨d.map pa,sm,g⟩::rs) E h Q:=by
 intro e he;obtain⟨r,I,J⟩:=hn _ (he.put dm d);refine⟨r,I,fun k ds cs ls hL ho=>?_⟩;obtain⟨x,hx,hr⟩:=J k ds cs ls hL ho;refine⟨x,hx,?_⟩;rw[zi (hH:=rs) (e':=e.put dm (d.map pa)) (h':=h) (LH (hw e he))];exact hr
theorem WR.cf {o:RO al} {rs:List (RS al)} (hc:∀e,ch e E→lu e h o=true) (hn:WR F K rs E h Q):WR F K (.cf o::rs) E h Q:=by
 intro e he;obtain⟨r,I,J⟩:=hn _ he;refine⟨r,I,fun k ds cs ls hL ho=>?_⟩;obtain⟨x,hx,hr⟩:=J k ds cs ls hL ho;refine⟨x,hx,?_⟩;rw[zi (hH:=rs) (e':=e) (h':=h) ?_]
 ·exact hr
 ·show Bool.rec (motive:=fun _=>OR) (.bad 92) (gW rs e h) (lu e h o)=_;rw[hc e he]
theorem CC {d:Option Nat} {g:Option (Pa×Bool)} {f:T V→lj} {c:lj} {rs:List (RS al)} {e:T V} (hw:fa e g=.yes) (hf:f e=c) (k:List Item) (ds:List Def) (cs:List Fr) (ls:List LE):
 jN F K.k e k ds cs h ls (.dc (.op ⟨d.map pa,.ed f,g⟩::rs))=uG F K.k e ⟨d.map pa,.ed f,g⟩ rs k ds cs h ls c:=by
 have:gW (.op ⟨d.map pa,.ed f,g⟩::rs) e h=.uF c ⟨d.map pa,.ed f,g⟩ rs e h:=by
  rw[sN hw];simp only[hf]
 simp only[jN,this]
theorem WR.call [gd K] {d:Option Nat} {g:Option (Pa×Bool)} {f:T V→lj} {n:Nat} {args:List V} {rs:List (RS al)} {v:V} {h':Hp} (hw:az E g .yes) (hf:∀e,ch e E→f e=.call n args) (hc:CB F n args h v h')
 (hn:WR F K rs (xg E v d) h' Q):WR F K (.op ⟨d.map pa,.ed f,g⟩::rs) E h Q:=by
 intro e he;obtain⟨r,I,J⟩:=hn _ (he.put v d);refine⟨r,I,fun k ds cs ls hL ho=>?_⟩;obtain⟨xs,oD⟩:=hc ⟨K.k,e,.dc (.op ⟨d.map pa,.ed f,g⟩::rs)::k,ds,.run⟩ cs ls;obtain⟨x,hx,hr⟩:=J k ds cs (xs++ls) (gd.up xs ls hL) ho;refine⟨x,hx.more,?_⟩;rw[CC (hw e he) (hf e he)];exact oD.trans (.step hr)
theorem WR.aeT [gd K] {d:Option Nat} {g:Option (Pa×Bool)} {f:T V→lj} {n:Nat} {args:List V} {rs:List (RS al)} {v:V} {h':Hp} (hw:az E g .yes) (hf:∀e,ch e E→f e=.call n args) (hc:S5 F n args h v h') (hq:Q.p E v h' []):
 WR F K (.op ⟨d.map pa,.ed f,g⟩::rs) E h Q:=by
 intro e he;refine⟨_,.p he hq,fun k ds cs ls hL ho=>?_⟩;obtain⟨xs,oD⟩:=hc ⟨K.k,e,.dc (.op ⟨d.map pa,.ed f,g⟩::rs)::k,ds,.run⟩ cs ls rfl;refine⟨_,.p e v h' [] (.dc (.op ⟨d.map pa,.ed f,g⟩::rs)::k) xs ⟨gd.up xs ls hL,fun _=>rfl⟩,?_⟩;rw[CC (hw e he) (hf e he)];exact oD
theorem WR.panic {d:Option Nat} {g:Option (Pa×Bool)} {f:T V→lj} {v:V} {rs:List (RS al)} (hw:az E g .yes) (hf:∀e,ch e E→f e=.panic v) (hq:Q.p E v h []):WR F K (.op ⟨d.map pa,.ed f,g⟩::rs) E h Q:=by
 intro e he;refine⟨_,.p he hq,fun k ds cs ls hL ho=>⟨_,.p e v h [] (.dc (.op ⟨d.map pa,.ed f,g⟩::rs)::k) [] ⟨hL,fun _=>rfl⟩,?_⟩⟩;rw[CC (hw e he) (hf e he)];exact .refl _
def ie:Nat→List V→Env
 |_,[]=>[]
 |n,v::r=>(n,v)::ie (n+1) r
theorem S7:∀(l:List V) (i:Pa) (e:T V),(∀n v,lk n (ie i.toNat l)=some v→(h2 l i e).get (pa n)=some v)∧(∀p:Pa,p.toNat<i.toNat→(h2 l i e).get p=e.get p)
 |[],i,e=>⟨(fun n v h=>by cases h),fun p _=>rfl⟩
 |v::r,i,e=>by
  obtain⟨I,J⟩:=S7 r i.succ (e.set v i);have hs:i.succ.toNat=i.toNat+1:=Pa.iB i;refine⟨fun n u hn=>?_,fun p hp=>?_⟩
  ·simp only[ie,lk]at hn;show(h2 r i.succ (e.set v i)).get (pa n)=some u;cases hb:Nat.beq i.toNat n with
   |true=>
    have:=apY hb;rw[hb]at hn;simp at hn;subst hn;rw[J (pa n) (by rw[gY,hs];omega),T.gX,B4 (Pa.toNat_inj (by rw[gY];exact this))]
   |false=>
    rw[hb]at hn;exact I n u (by rw[hs];exact hn)
  ·show(h2 r i.succ (e.set v i)).get p=e.get p;rw[J p (by rw[hs];omega),T.gX,pg (fun e1=>by subst e1;omega)]
theorem zj (l:List V):ch (h2 l .z .E) (ie 0 l):=fun n v hn=>(S7 l .z .E).1 n v hn
def kC (E:Env) (h:Hp) (res:List (Pa×Option (Option Nat))) (l:List V):Prop:=∀e,ch e E→kf e h res=some l
theorem kC.nil:kC E h [] []:=fun _ _=>rfl
theorem kC.t {n:Nat} {v:V} {r:List (Pa×Option (Option Nat))} {l:List V} (hv:lk n E=some v) (hr:kC E h r l):kC E h ((pa n,none)::r) (v::l):=fun e he=>by
 simp only[kf,T.val,he n v hv,hr e he]
theorem kC.c {n:Nat} {a v:V} {sh:Option Nat} {r:List (Pa×Option (Option Nat))} {l:List V} (hv:lk n E=some a) (hl:fH h sh a=some v) (hr:kC E h r l):kC E h ((pa n,some sh)::r) (v::l):=fun e he=>by
 simp only[kf,T.val,he n a hv,hl,hr e he]
noncomputable def kill:List Pa→Hp→Hp
 |[],h=>h
 |m::ms,h=>kill ms (h.put m (.dH false))
def mO:List Pa→Hp→Prop
 |[],_=>True
 |m::ms,h=>h.get m=some (.dH true)∧mO ms (h.put m (.dH false))
theorem sR {fr:Fr}:∀(ms:List Pa) {h:Hp} {ds:List Def} {cs:List Fr} {ls:List LE},mO ms h→fr.mode≠.run→Reach F (.go ⟨fr.k,fr.env,fr.todo,marks ms ds,fr.mode⟩ cs h ls) (.go ⟨fr.k,fr.env,fr.todo,ds,fr.mode⟩ cs (kill ms h) ls)
 |[],h,ds,cs,ls,_,_=>.refl _
 |m::ms,h,ds,cs,ls,ha,hm=>by
  refine .trans (.one ?_) (sR ms ha.2 hm);obtain⟨k,e,td,rI,md⟩:=fr;cases md with
  |run=>exact absurd rfl hm
  |returning=>
   show unwind F ⟨k,e,td,.mark m::marks ms ds,.returning⟩ cs h ls=_;simp only[unwind,ha.1,E7]
  |panicking v r=>
   show unwind F ⟨k,e,td,.mark m::marks ms ds,.panicking v r⟩ cs h ls=_;simp only[unwind,ha.1,E7]
def CD (res:List (Pa×Option (Option Nat))) (ad:V→Hp→Prop) (Up:V→Hp→Prop):fu where
 n:=fun E h ms=>mO ms h∧∃l,kC E (kill ms h) res l∧ad (oneOf l) (kill ms h)
 x:=fun _ _ _ _=>False
 r:=fun E h ms=>mO ms h∧∃l,kC E (kill ms h) res l∧ad (oneOf l) (kill ms h)
 p:=fun _ v h ms=>mO ms h∧Up v (kill ms h)
variable(F)in
def S8 (f:Nat) (args:List V) (h:Hp) (ad:V→Hp→Prop) (Up:V→Hp→Prop):Prop:=
 (∃v h',CB F f args h v h'∧ad v h')∨∃v h',S5 F f args h v h'∧Up v h'
theorem aeU {f:Nat} {fn:hZ} {args:List V} {ad Up:V→Hp→Prop} (hf:F f=some (.code fn)) (hw:WC F ⟨⟨f,fn.nt,false,none⟩,fun _=>True⟩ fn.body (ie 0 args) h (CD fn.res ad Up)):S8 F f args h ad Up:=by
 obtain⟨r,I,J⟩:=hw _ (zj args);have h0:∀fr cs ls,mJ F fr cs h ls f args=.go ⟨⟨f,fn.nt,false,none⟩,h2 args .z .E,[.code fn.body],[],.run⟩ (fr::cs) h ls:=fun fr cs ls=>by simp only[mJ,hf,enter]
 have go:∀fr cs ls,qT r []→∃x,Ends ⟨⟨f,fn.nt,false,none⟩,fun _=>True⟩ [] [] (fr::cs) ls r x∧Reach F (mJ F fr cs h ls f args) x:=by
  intro fr cs ls ho;obtain⟨x,hx,hr⟩:=J [] [] (fr::cs) ls trivial ho;exact⟨x,hx,by rw[h0];exact(qU _ _ _ _ _ _ _ _).trans hr⟩
 have back:∀(e:T V) (E:Env) (h':Hp) (ms:List Pa) (l:List V) (td:List Item),ch e E→mO ms h'→kC E (kill ms h') fn.res l→∀fr cs ls,Reach F (.go ⟨⟨f,fn.nt,false,none⟩,e,td,marks ms [],.returning⟩ (fr::cs) h' ls) (finish fr (oneOf l) cs (kill ms h') ls):=by
  intro e E h' ms l td he ha hl fr cs ls;refine(sR (fr:=⟨⟨f,fn.nt,false,none⟩,e,td,[],.returning⟩) ms ha (by intro e;cases e)).trans (.one ?_);show unwind F ⟨⟨f,fn.nt,false,none⟩,e,td,[],.returning⟩ (fr::cs) (kill ms h') ls=_;simp only[unwind,hf,hl e he,doReturn,KL]
 cases I with
 | @n e' h' ms E' ca hq=>
   obtain⟨ha,l,hl,hR⟩:=hq;refine .inl ⟨_,kill ms h',fun fr cs ls=>?_,hR⟩;obtain⟨x,hx,hr⟩:=go fr cs ls (fun _ _ _ _ e1=>by cases e1);cases hx with|n _ _ _ xs _=>
   exact⟨xs,hr.trans (.trans (.one rfl) (back _ _ _ _ _ _ ca ha hl fr cs _))⟩
 |x _ hq=>exact hq.elim
 | @r e' h' ms E' ca hq=>
   obtain⟨ha,l,hl,hR⟩:=hq;refine .inl ⟨_,kill ms h',fun fr cs ls=>?_,hR⟩;obtain⟨x,hx,hr⟩:=go fr cs ls (fun _ _ _ _ e1=>by cases e1);cases hx with
   |r _ _ _ td xs _=>exact⟨xs,hr.trans (back _ _ _ _ _ _ ca ha hl fr cs _)⟩
 | @p e2 v h' ms E2 jz hq=>
   refine .inr ⟨v,kill ms h',fun fr cs ls hm=>?_,hq.2⟩;obtain⟨x,hx,hr⟩:=go fr cs ls (fun _ _ _ _ e1=>by cases e1);cases hx with
   |p _ _ _ _ td xs _=>
    refine⟨xs,hr.trans ((sR (fr:=⟨⟨f,fn.nt,false,none⟩,e2,td,[],.panicking v false⟩) ms hq.1 (by intro e;cases e)).trans (.one ?_))⟩;show unwind F ⟨⟨f,fn.nt,false,none⟩,e2,td,[],.panicking v false⟩ (fr::cs) (kill ms h') (xs++ls)=_;simp only[unwind,KL,hf,hm]
theorem LZ {f:Nat} {g:List V→Hp→Option (V×Hp)} {args:List V} {v:V} {h':Hp} (hf:F f=some (.c7 g)) (hg:g args h=some (v,h')):CB F f args h v h':=fun fr cs ls=>by
 have:mJ F fr cs h ls f args=finish fr v cs h' ls:=by simp only[mJ,hf,hg]
 rw[this];exact⟨[],.refl _⟩
theorem aeV {f:Nat} {fn:hZ} {args:List V} (hf:F f=some (.code fn)) (hw:WC F ⟨⟨f,fn.nt,false,none⟩,fun _=>True⟩ fn.body (ie 0 args) h (CD fn.res (fun v _=>v=.bool true) (fun _ _=>False))):
 ∃n h',run F n (enter fn f args false) [] h []=.done (.bool true) h':=by
 obtain⟨r,I,J⟩:=hw _ (zj args);have e0:enter fn f args false=⟨⟨f,fn.nt,false,none⟩,h2 args .z .E,[.code fn.body],[],.run⟩:=rfl;have back:∀(e:T V) (E:Env) (h':Hp) (ms:List Pa) (l:List V) (td:List Item),ch e E→mO ms h'→kC E (kill ms h') fn.res l→∀ls,Reach F (.go ⟨⟨f,fn.nt,false,none⟩,e,td,marks ms [],.returning⟩ [] h' ls) (.done (oneOf l) (kill ms h')):=by
  intro e E h' ms l td he ha hl ls;refine(sR (fr:=⟨⟨f,fn.nt,false,none⟩,e,td,[],.returning⟩) ms ha (by intro e;cases e)).trans (.one ?_);show unwind F ⟨⟨f,fn.nt,false,none⟩,e,td,[],.returning⟩ [] (kill ms h') ls=_;simp only[unwind,hf,hl e he,doReturn,KL]
 have go:qT r []→∃x,Ends ⟨⟨f,fn.nt,false,none⟩,fun _=>True⟩ [] [] [] [] r x∧Reach F (.go (enter fn f args false) [] h []) x:=fun ho=>by
  obtain⟨x,hx,hr⟩:=J [] [] [] [] trivial ho;exact⟨x,hx,by rw[e0];exact(qU _ _ _ _ _ _ _ _).trans hr⟩
 have fin:∀v h',Reach F (.go (enter fn f args false) [] h []) (.done v h')→v=.bool true→∃n h',run F n (enter fn f args false) [] h []=.done (.bool true) h':=fun v h' hr hv=>by
  subst hv;obtain⟨n,hn⟩:=hr.run rfl;exact⟨n,h',hn⟩
 cases I with
 | @n e' h' ms E' ca hq=>
   obtain⟨ha,l,hl,hR⟩:=hq;obtain⟨x,hx,hr⟩:=go (fun _ _ _ _ e1=>by cases e1);cases hx with|n _ _ _ xs _=>
   exact fin _ _ (hr.trans (.trans (.one rfl) (back _ _ _ _ _ _ ca ha hl _))) hR
 |x _ hq=>exact hq.elim
 | @r e' h' ms E' ca hq=>
   obtain⟨ha,l,hl,hR⟩:=hq;obtain⟨x,hx,hr⟩:=go (fun _ _ _ _ e1=>by cases e1);cases hx with
   |r _ _ _ td xs _=>exact fin _ _ (hr.trans (back _ _ _ _ _ _ ca ha hl _)) hR
 |p _ hq=>exact hq.2.elim
theorem aeW {P:Program} (hN:xe P=true) (hF:sQ P F) {f:Nat} {fn:hZ} (hf:F f=some (.code fn)) {args:List V} {cE:List Value} {w:World} {U:AM} {Λ:Pa→Prop} {h0:Hp}
 (s0:aP ⟨P,w,w.heap.size,false⟩ U Λ h0 [] w) (ha:bd U args cE)
 (hw:WC F ⟨⟨f,fn.nt,false,none⟩,fun _=>True⟩ fn.body (ie 0 args) h0 (CD fn.res (fun v _=>v=.bool true) (fun _ _=>False))):
 Calls P f cE.toArray w fun e w'=>e=.returned (.bool true)∧Kept w w':=by
 intro bh;have hc:=hF.code f fn hf;obtain⟨n,h',cJ⟩:=aeV hf hw;have fm:=ze (C:=⟨P,w,w.heap.size,false⟩) (U:=U) (h:=h0) (m:=0) (f:=f) hc (args:=args) (cE:=cE) ha false;have arg:Rel ⟨P,w,w.heap.size,false⟩ bh f (enter fn f args false) [] h0 [] (lone (Frame.enter P f cE.toArray .normal) bh w):=
  ⟨_,_,w,0,_,_,rfl,s0,amu _,fm.1,by rw[fm.2.1,fm.2.2];exact .nil 0⟩
 have tI:=FI (C:=⟨P,w,w.heap.size,false⟩) (bh:=bh) (f0:=f) F (LW P) (hF.c rfl) (LX hN) n arg;rw[cJ]at tI;obtain⟨dQ,w',c,aA,dh,pm,I,J,h3,h4,h5⟩:=tI;cases h5;exact⟨.returned (.bool true),w',dQ,⟨rfl,h4.size,fun i hi=>h4.low i hi,h4.still.1,h4.still.2.1⟩,I,J,h3⟩
end
theorem aP.start (P:Program) (w:World):aP ⟨P,w,w.heap.size,false⟩ (fun _=>none) (fun _=>False) jO [] w:=by
 have no:∀(a:Pa) (L:Loc),(fun _=>none:AM) a=some L→False:=fun a L h=>by cases h
 exact{ia:=fun a L h=>(no a L h).elim,aw:=fun a L h=>(no a L h).elim,inj:=fun a _ L _ h=>(no a L h).elim,live:=fun a L _ h=>(no a L h).elim,wr:=fun a L _ h=>(no a L h).elim,
       low:=fun i _=>rfl,size:=B5 _,still:=pq.refl _ w,fresh:=fun a _=>by(show T.E.get a=none);cases a<;>rfl,jj:=fun a x h=>by(simp[gb]at h)}
theorem aP.S9 {C:Cx} {U:AM} {Λ:Pa→Prop} {h:Hp} {ls:List LE} {w:World} (s:aP C U Λ h ls w) {L:Loc} {l:List V} (hL:L.aw<C.N0) {cs:Array Value} {el:TypeId} {fr:Nat×Nat} (hb:w.heap[L.aw]? =some (.cells cs el fr)) (ht:cs.size=L.top)
 (hc:po (U.put h.next L) l cs L.base):aP C (U.put h.next L) (fun x=>Λ x∨x=h.next) (h.alloc (.ro l)) ls w:=by
 have vr:=s.lB;have ac:=AM.lA (U:=U) (a:=h.next) (L:=L) vr;have bE:∀x,(h.alloc (.ro l)).get x=if h.next=x then some (.ro l)else h.get x:=fun x=>by simp[bm.alloc,bm.get,T.gX]
 have b3:(h.alloc (.ro l)).next.toNat=h.next.toNat+1:=Pa.iB _;have aD:∀x M,(U.put h.next L) x=some M→x≠h.next→U x=some M:=fun x M hx bM=>by simpa[AM.put,bM]using hx
 have new:∀M,(U.put h.next L) h.next=some M→M=L:=fun M hM=>by simp[AM.put]at hM;exact hM.symm
 refine⟨fun x M hx=>?_,fun x M hx fd=>?_,fun x y M K hx hy fd vm e tt=>?_,fun x M c hx cZ=>?_,fun x M c hx fd cZ hr=>?_,s.low,s.size,s.still,fun x hx=>?_,fun x y hx=>?_⟩
 ·rw[b3];by_cases b9:x=h.next
  ·subst b9;omega
  ·exact aq2 (s.ia x M (aD x M hx b9))
 ·by_cases b9:x=h.next
  ·subst b9;rw[new M hx];exact⟨.ro l,by rw[bE];simp,cs,el,fr,hb,ht,hc⟩
  ·have I:=fd.resolve_right b9;obtain⟨c,h3,h4⟩:=s.aw x M (aD x M hx b9) I;exact⟨c,by rw[bE,pg (Ne.symm b9)];exact h3,h4.mono ac (fun _ _ h=>h) rfl⟩
 ·by_cases b9:x=h.next
  ·by_cases l7:y=h.next
   ·rw[b9,l7]
   ·exfalso;subst b9;rw[new M hx]at tt;omega
  ·by_cases l7:y=h.next
   ·exfalso;subst l7;rw[new K hy]at e;omega
   ·exact s.inj x y M K (aD x M hx b9) (aD y K hy l7) (fd.resolve_right b9) (vm.resolve_right l7) e tt
 ·by_cases b9:x=h.next
  ·exact .inl (.inr b9)
  ·rw[bE,pg (Ne.symm b9)]at cZ;rcases s.live x M c (aD x M hx b9) cZ with I|I
   ·exact .inl (.inl I)
   ·exact .inr I
 ·by_cases b9:x=h.next
  ·subst b9;rw[bE,B4 rfl]at cZ;cases cZ;cases hr
  ·have I:=fd.resolve_right b9;rw[bE,pg (Ne.symm b9)]at cZ;exact s.wr x M c (aD x M hx b9) I cZ hr
 ·rw[b3]at hx;have e1:h.next≠x:=fun e=>by subst e;omega
  rw[bE,pg e1];exact s.fresh x (by omega)
 ·rw[b3];exact aq2 (s.jj x y hx)
end Go.Ev
namespace Go.Ev
inductive pA (E:Env):List (Nat×Nat×Od)→List V→List V→Prop
 |nil {z:List V}:pA E [] z z
 |cons {o n:Nat} {x:Od} {a:V} {r:List (Nat×Nat×Od)} {z z' l:List V} (hx:ax E x a) (hn:Nat.beq a.cells.length n=true) (hs:aY a.cells=true) (hz:dk o z a.cells=some z') (hr:pA E r z' l):pA E ((o,n,x)::r) z l
theorem pA.ev {E:Env} {ps:List (Nat×Nat×Od)} {z l:List V} (h:pA E ps z l) {e:T V} (he:ch e E):jd e ps z=some l:=by
 induction h with
 |nil=>rfl
 |cons hx hn hs hz _ ih=>simp only[jd,hx e he,hn,hs,hz,E7,ih]
def jl (E:Env) (x:Option Od) (a:Option V):Prop:=∀e,ch e E→aZ e x=a
theorem jl.none {E:Env}:jl E none none:=fun _ _=>rfl
theorem jl.some {E:Env} {x:Od} {a:V} (h:ax E x a):jl E (some x) (some a):=fun e he=>by simp only[aZ,h e he]
namespace ad
variable{F:Nat→Option aN} {K:KX} {E:Env} {h:Hp} {Q:fu} {rs:List (RS al)} {d:Nat} {g:Option (Pa×Bool)}
theorem pu {f:T V→Hp→Option V} {v:V} (hw:az E g .yes) (hf:∀e,ch e E→f e h=some v) (hn:WR F K rs ((d,v)::E) h Q):WR F K (.op ⟨some (pa d),.pu f,g⟩::rs) E h Q:=WR.pu (d:=some d) hw hf hn
theorem dw {f:T V→Option (al×(Pa→V))} {b:al} {mk:Pa→V} (hw:az E g .yes) (hf:∀e,ch e E→f e=some (b,mk)) (hn:WR F K rs ((d,mk h.next)::E) (h.alloc b) Q):WR F K (.op ⟨some (pa d),.dw f,g⟩::rs) E h Q:=WR.dw (d:=some d) hw hf hn
theorem st {f:T V→Hp→Option (V×Hp)} {v:V} {h':Hp} (hw:az E g .yes) (hf:∀e,ch e E→f e h=some (v,h')) (hn:WR F K rs ((d,v)::E) h' Q):WR F K (.op ⟨some (pa d),.st f,g⟩::rs) E h Q:=WR.st (d:=some d) hw hf hn
theorem FR {f:T V→Hp→Option (V×Hp)} {v:V} {h':Hp} (hw:az E g .yes) (hf:∀e,ch e E→f e h=some (v,h')) (hn:WR F K rs E h' Q):WR F K (.op ⟨none,.st f,g⟩::rs) E h Q:=WR.st (d:=none) hw hf hn
theorem no {sm:bz} (hw:az E g .no) (hn:WR F K rs ((d,dm)::E) h Q):WR F K (.op ⟨some (pa d),sm,g⟩::rs) E h Q:=WR.no (d:=some d) hw hn
theorem mv {x:Od} {a:V} (hw:az E g .yes) (hx:ax E x a) (hn:WR F K rs ((d,a)::E) h Q):WR F K (.op ⟨some (pa d),qA x,g⟩::rs) E h Q:=
 pu hw (fun e he=>by simp only[hx e he]) hn
theorem build {z l:List V} {ps:List (Nat×Nat×Od)} (hw:az E g .yes) (hf:pA E ps z l) (hn:WR F K rs ((d,.agg l)::E) h Q):WR F K (.op ⟨some (pa d),aL z ps,g⟩::rs) E h Q:=
 pu hw (fun e he=>by simp only[hf.ev he]) hn
theorem load {n:Option Nat} {x:Od} {a v:V} (hw:az E g .yes) (hx:ax E x a) (hl:fH h n a=some v) (hn:WR F K rs ((d,v)::E) h Q):WR F K (.op ⟨some (pa d),bY n x,g⟩::rs) E h Q:=
 pu hw (fun e he=>by simp only[hx e he,hl]) hn
theorem nil? {x:Od} {a:Pa} {o:Nat} (hw:az E g .yes) (hx:ax E x (.ptr a o)) (hn:WR F K rs ((d,.ptr a o)::E) h Q):WR F K (.op ⟨some (pa d),jf x,g⟩::rs) E h Q:=
 pu hw (fun e he=>by simp only[hx e he]) hn
theorem bin {op:BinOp} {q:cV} {x y:Od} {a b v:V} (hw:az E g .yes) (hx:ax E x a) (hy:ax E y b) (hv:cg op q a b=some v) (hn:WR F K rs ((d,v)::E) h Q):WR F K (.op ⟨some (pa d),a1 op q x y,g⟩::rs) E h Q:=
 pu hw (fun e he=>by simp only[hx e he,hy e he,hv]) hn
theorem un {op:UnOp} {x:Od} {a v:V} (hw:az E g .yes) (hx:ax E x a) (hv:yX op a=some v) (hn:WR F K rs ((d,v)::E) h Q):WR F K (.op ⟨some (pa d),dS op x,g⟩::rs) E h Q:=
 pu hw (fun e he=>by simp only[hx e he,hv]) hn
theorem qV {k j:IntKind} {x:Od} {n:Int} (hw:az E g .yes) (hx:ax E x (.int j n)) (hn:WR F K rs ((d,.int k (e6 k n))::E) h Q):WR F K (.op ⟨some (pa d),cH k x,g⟩::rs) E h Q:=
 pu hw (fun e he=>by simp only[hx e he]) hn
theorem FW {x:Od} {a:Pa} {o n:Nat} {c:hW} {l:List V} {s:List UInt8} (hw:az E g .yes) (hx:ax E x (.sl a o n c)) (hl:h.cl a o n=some l) (hs:bytesOf l=some s) (hn:WR F K rs ((d,.str s)::E) h Q):
 WR F K (.op ⟨some (pa d),dT x,g⟩::rs) E h Q:=
 pu hw (fun e he=>by simp only[hx e he,hl,hs]) hn
theorem aeX {x:Od} (hw:az E g .yes) (hx:ax E x (.no .sl)) (hn:WR F K rs ((d,.str [])::E) h Q):WR F K (.op ⟨some (pa d),dT x,g⟩::rs) E h Q:=
 pu hw (fun e he=>by simp only[hx e he]) hn
theorem L0 {t:Nat} {x:Od} {a:V} (hw:az E g .yes) (hx:ax E x a) (hn:WR F K rs ((d,.iface t a)::E) h Q):WR F K (.op ⟨some (pa d),Ca t x,g⟩::rs) E h Q:=
 pu hw (fun e he=>by simp only[hx e he]) hn
theorem FX {f:Nat} {xs:List Od} {vs:List V} (hw:az E g .yes) (hx:py E xs vs) (hn:WR F K rs ((d,.fn f vs)::E) h Q):WR F K (.op ⟨some (pa d),qB f xs,g⟩::rs) E h Q:=
 pu hw (fun e he=>by simp only[hx.ev he]) hn
theorem slice {s:Nat} {x:Od} {lo hi mx:Option Od} {a v:V} {kU b8 p5:Option V} (hw:az E g .yes) (hx:ax E x a) (I:jl E lo kU) (J:jl E hi b8) (h3:jl E mx p5) (hv:ef s a kU b8 p5=some v) (hn:WR F K rs ((d,v)::E) h Q):
 WR F K (.op ⟨some (pa d),eE s x lo hi mx,g⟩::rs) E h Q:=
 pu hw (fun e he=>by simp only[hx e he,I e he,J e he,h3 e he,hv];cases p5<;>rfl) hn
theorem je {x:Od} {lo hi:Option Od} {a v:V} {kU b8:Option V} (hw:az E g .yes) (hx:ax E x a) (I:jl E lo kU) (J:jl E hi b8) (hv:Go.Ev.je a kU b8=some v) (hn:WR F K rs ((d,v)::E) h Q):
 WR F K (.op ⟨some (pa d),sD x lo hi,g⟩::rs) E h Q:=
 pu hw (fun e he=>by simp only[hx e he,I e he,J e he,hv]) hn
theorem aE {off:Nat} {x:Od} {a:Pa} {o:Nat} (hw:az E g .yes) (hx:ax E x (.ptr a o)) (hn:WR F K rs ((d,.ptr a (o+off))::E) h Q):WR F K (.op ⟨some (pa d),qC off x,g⟩::rs) E h Q:=
 pu hw (fun e he=>by simp only[hx e he]) hn
theorem zk {s:Nat} {x i:Od} {a:Pa} {o n j:Nat} {c:hW} {k:IntKind} (hw:az E g .yes) (hx:ax E x (.sl a o n c)) (hi:ax E i (.int k (j:Int))) (hj:j<n) (hn:WR F K rs ((d,.ptr a (o+j*s))::E) h Q):
 WR F K (.op ⟨some (pa d),bA none s x i,g⟩::rs) E h Q:=
 pu hw (fun e he=>by
  have hb:Nat.blt j n=true:=by simpa[ari]using hj
  have b8:i.ev e=.int k (.ofNat j):=hi e he;simp only[hx e he,b8,hb,E7]) hn
theorem zl {s len:Nat} {x i:Od} {a:Pa} {o j:Nat} {k:IntKind} (hw:az E g .yes) (hx:ax E x (.ptr a o)) (hi:ax E i (.int k (j:Int))) (hj:j<len) (hn:WR F K rs ((d,.ptr a (o+j*s))::E) h Q):
 WR F K (.op ⟨some (pa d),bA (some len) s x i,g⟩::rs) E h Q:=
 pu hw (fun e he=>by
  have hb:Nat.blt j len=true:=by simpa[ari]using hj
  have b8:i.ev e=.int k (.ofNat j):=hi e he;simp only[hx e he,b8,hb,E7]) hn
theorem iS {x i:Od} {s:List UInt8} {j:Nat} {k:IntKind} {b:UInt8} (hw:az E g .yes) (hx:ax E x (.str s)) (hi:ax E i (.int k (j:Int))) (hj:s[j]? =some b) (hn:WR F K rs ((d,.int .u8 (b.toNat:Int))::E) h Q):
 WR F K (.op ⟨some (pa d),iy x i,g⟩::rs) E h Q:=
 pu hw (fun e he=>by
  have b8:i.ev e=.int k (.ofNat j):=hi e he;simp only[hx e he,b8,qH,hj];rfl) hn
theorem ext {x:Od} {i:Nat} {l:List V} {v:V} (hw:az E g .yes) (hx:ax E x (.aM l)) (hv:nth l i=some v) (hn:WR F K rs ((d,v)::E) h Q):WR F K (.op ⟨some (pa d),KU x i,g⟩::rs) E h Q:=
 pu hw (fun e he=>by simp only[hx e he,hv]) hn
theorem cD {x:Od} {s:List UInt8} (hw:az E g .yes) (hx:ax E x (.str s)) (hn:WR F K rs ((d,.int .i64 (s.length:Int))::E) h Q):WR F K (.op ⟨some (pa d),cq x,g⟩::rs) E h Q:=
 pu hw (fun e he=>by simp only[hx e he];rfl) hn
theorem pB {m:Bool} {x y:Od} {a b:V} {v:V} (hw:az E g .yes) (hx:ax E x a) (hy:ax E y b) (hv:mm m a b=some v) (hn:WR F K rs ((d,v)::E) h Q):WR F K (.op ⟨some (pa d),ll m x [y],g⟩::rs) E h Q:=
 pu hw (fun e he=>by simp only[qz,hx e he,hy e he,hv]) hn
theorem look {q:cV} {z:V} {x i:Od} {ok:Bool} {a b v:V} (hw:az E g .yes) (hx:ax E x a) (hi:ax E i b) (hv:yY h q z a b ok=some v) (hn:WR F K rs ((d,v)::E) h Q):WR F K (.op ⟨some (pa d),Cb q z x i ok,g⟩::rs) E h Q:=
 pu hw (fun e he=>by simp only[hx e he,hi e he,hv]) hn
theorem alloc {z:List V} (hw:az E g .yes) (hn:WR F K rs ((d,.ptr h.next 0)::E) (h.alloc (.cells z false)) Q):WR F K (.op ⟨some (pa d),ar z,g⟩::rs) E h Q:=
 dw (mk:=fun a=>.ptr a 0) hw (fun _ _=>rfl) hn
theorem box {x:Od} {a:V} (hw:az E g .yes) (hx:ax E x a) (hs:aY a.cells=true) (hn:WR F K rs ((d,.ptr h.next 0)::E) (h.alloc (.cells a.cells false)) Q):WR F K (.op ⟨some (pa d),Fc x,g⟩::rs) E h Q:=
 dw (mk:=fun a=>.ptr a 0) hw (fun e he=>by simp only[hx e he,hs,E7]) hn
theorem a8 {z l:List V} {n:Nat} {ps:List (Nat×Nat×Od)} (hw:az E g .yes) (hf:pA E ps z l) (hs:aY l=true) (hn:WR F K rs ((d,.sl h.next 0 n (.ex n))::E) (h.alloc (.cells l false)) Q):
 WR F K (.op ⟨some (pa d),aG z n ps,g⟩::rs) E h Q:=
 dw (mk:=fun a=>.sl a 0 n (.ex n)) hw (fun e he=>by simp only[hf.ev he,hs,E7]) hn
theorem FY {x:Od} {s:List UInt8} (hw:az E g .yes) (hx:ax E x (.str s)) (hn:WR F K rs ((d,.sl h.next 0 s.length (.un 1))::E) (h.alloc (.cells (s.map c5) false)) Q):WR F K (.op ⟨some (pa d),gx x,g⟩::rs) E h Q:=
 dw (mk:=fun a=>.sl a 0 s.length (.un 1)) hw (fun e he=>by simp only[hx e he]) hn
theorem xh {z:List V} {tJ:Nat} {l c:Od} {n m:Nat} {k j:IntKind} (hw:az E g .yes) (hl:ax E l (.int k (n:Int))) (hc:ax E c (.int j (m:Int))) (rJ:n≤m) (hm:m≤281474976710656) (hb:tJ*m≤281474976710656)
 (hn:WR F K rs ((d,.sl h.next 0 n (.ex m))::E) (h.alloc (.cells (dI z m) false)) Q):WR F K (.op ⟨some (pa d),jg z tJ l c,g⟩::rs) E h Q:=
 dw (mk:=fun a=>.sl a 0 n (.ex m)) hw (fun e he=>by
  have I:l.ev e=.int k (.ofNat n):=hl e he;have J:c.ev e=.int j (.ofNat m):=hc e he;simp only[I,J,iz,aqm rJ,aqm hm,aqm hb,aqK,E7]) hn
theorem store {n:Nat} {a x:Od} {b:Pa} {o:Nat} {v:V} {h':Hp} (hw:az E g .yes) (ha:ax E a (.ptr b o)) (hx:ax E x v) (hl:Nat.beq v.cells.length n=true) (hs:h.db b o v.cells=some h') (hn:WR F K rs E h' Q):
 WR F K (.op ⟨none,gy n a x,g⟩::rs) E h Q:=
 FR (v:=dm) hw (fun e he=>by simp only[ha e he,hx e he,hl,hs,E7,oH]) hn
theorem app {ba:Nat} {s x:Od} {a b v:V} {h':Hp} (hw:az E g .yes) (hs:ax E s a) (hx:ax E x b) (hv:yZ h ba a b=some (v,h')) (hn:WR F K rs ((d,v)::E) h' Q):WR F K (.op ⟨some (pa d),Cc ba s x,g⟩::rs) E h Q:=
 st hw (fun e he=>by simp only[hs e he,hx e he,hv]) hn
theorem copy {ba:Nat} {s x:Od} {a b v:V} {h':Hp} (hw:az E g .yes) (hs:ax E s a) (hx:ax E x b) (hv:Cd h ba a b=some (v,h')) (hn:WR F K rs ((d,v)::E) h' Q):WR F K (.op ⟨some (pa d),Ce ba s x,g⟩::rs) E h Q:=
 st hw (fun e he=>by simp only[hs e he,hx e he,hv]) hn
theorem call [gd K] {n:Nat} {xs:List Od} {vs:List V} {v:V} {h':Hp} (hw:az E g .yes) (hx:py E xs vs) (hc:CB F n vs h v h') (hn:WR F K rs ((d,v)::E) h' Q):WR F K (.op ⟨some (pa d),aC n xs,g⟩::rs) E h Q:=
 WR.call (d:=some d) hw (fun e he=>by simp only[hx.ev he]) hc hn
theorem aeY [gd K] {n:Nat} {f:Od} {xs:List Od} {vs bf:List V} {v:V} {h':Hp} (hw:az E g .yes) (hf:ax E f (.fn n bf)) (hx:py E xs vs) (hc:CB F n (vs++bf) h v h') (hn:WR F K rs ((d,v)::E) h' Q):
 WR F K (.op ⟨some (pa d),wW f xs,g⟩::rs) E h Q:=
 WR.call (d:=some d) hw (fun e he=>by simp only[hf e he,hx.ev he]) hc hn
end ad
end Go.Ev
namespace Go.Ev
def WF (h:Hp):Prop:=∀a:Pa,h.next.toNat≤a.toNat→h.get a=none
theorem FZ (h:Hp) (b:al) (a:Pa):(h.alloc b).get a=if h.next=a then some b else h.get a:=by simp[bm.alloc,bm.get,T.gX]
theorem F0 (h:Hp) (b:al) (a x:Pa):(h.put a b).get x=if a=x then some b else h.get x:=by simp[bm.put,bm.get,T.gX]
theorem Ta (h:Hp) (b:al):(h.alloc b).next.toNat=h.next.toNat+1:=Pa.iB _
theorem aeZ (h:Hp) (b:al) (a:Pa):(h.put a b).next=h.next:=rfl
theorem WF.lt {h:Hp} (w:WF h) {a:Pa} {b:al} (hg:h.get a=some b):a.toNat<h.next.toNat:=by
 rcases aqE a.toNat h.next.toNat with I|I
 ·exact I
 ·rw[w a I]at hg;cases hg
theorem WF.start:WF jO:=fun a _=>by(show T.E.get a=none);cases a<;>rfl
theorem WF.alloc {h:Hp} (w:WF h) (b:al):WF (h.alloc b):=fun a ha=>by
 rw[Ta]at ha;rw[FZ,pg (fun e=>by subst e;omega)];exact w a (by omega)
theorem WF.put {h:Hp} (w:WF h) {a:Pa} (ha:a.toNat<h.next.toNat) (b:al):WF (h.put a b):=fun x hx=>by
 rw[aeZ]at hx;rw[F0,pg (fun e=>by subst e;omega)];exact w x hx
structure mP (n:Nat) (h h':Hp):Prop where
 next:h.next.toNat≤h'.next.toNat
 aD:∀a:Pa,a.toNat<n→h'.get a=h.get a
 wf:WF h'
theorem mP.refl {n:Nat} {h:Hp} (w:WF h):mP n h h:=⟨B5 _,fun _ _=>rfl,w⟩
theorem mP.alloc {n:Nat} {h h':Hp} (a:mP n h h') (hn:n≤h'.next.toNat) (b:al):mP n h (h'.alloc b):=
 ⟨by rw[Ta];have:=a.next;omega,fun x hx=>by rw[FZ,pg (fun e=>by subst e;omega)];exact a.aD x hx,a.wf.alloc b⟩
def gf (h:Hp) (a:Pa) (o:Nat) (cs:List V):Prop:=∃l,h.cells a=some l∧∀(i:Nat) (v:V),cs[i]? =some v→l[o+i]? =some v
theorem gf.of {h:Hp} {a:Pa} {cs:List V} {fb:Bool} (hg:h.get a=some (.cells cs fb)) (hd:fb=false):gf h a 0 cs:=by
 subst hd;exact⟨cs,by simp[bm.cells,hg],fun i v hv=>by rw[ap7];exact hv⟩
theorem gf.sub {h:Hp} {a:Pa} {o:Nat} {cs:List V} (hc:gf h a o cs) (i n:Nat):gf h a (o+i) ((cs.drop i).take n):=by
 obtain⟨l,I,J⟩:=hc;refine⟨l,I,fun j v hv=>?_⟩;rw[aqt]at hv;split at hv
 ·rw[aqi]at hv;rw[aqf];exact J _ v hv
 ·cases hv
theorem gf.one {h:Hp} {a:Pa} {o:Nat} {cs:List V} (hc:gf h a o cs) {i:Nat} {v:V} (hv:cs[i]? =some v):fH h none (.ptr a (o+i))=some v:=by
 obtain⟨l,I,J⟩:=hc;simp only[fH,I,qH];exact J i v hv
theorem gf.all {h:Hp} {a:Pa} {o:Nat} {cs:List V} (hc:gf h a o cs) {n:Nat} (hn:cs.length=n):h.cl a o n=some cs:=by
 obtain⟨l,I,J⟩:=hc;subst hn;by_cases h0:cs.length=0
 ·have:=ap8 h0;subst this;unfold bm.cl;rw[I];(try rfl)
 ·have hlen:o+cs.length≤l.length:=by
   have ap:cs.length-1<cs.length:=by omega
   have:=J (cs.length-1) _ (KJ ap);have:=(ap1.1 this).1;omega
  rw[S4 I hlen];congr 1;apply aro;intro i;rw[aqt];by_cases hi:i<cs.length
  ·rw[B4 hi,aqi,KJ hi];exact J i _ (KJ hi)
  ·rw[pg hi,aq9 (by omega)]
theorem gf.agg {h:Hp} {a:Pa} {o:Nat} {cs:List V} (hc:gf h a o cs) {i n:Nat} {l:List V} (hl:(cs.drop i).take n=l) (hn:l.length=n):fH h (some n) (.ptr a (o+i))=some (.agg l):=by
 have I:=hc.sub i n;rw[hl]at I;simp only[fH,I.all hn]
def Sl (h:Hp) (v:V) (k n:Nat) (cs:List V):Prop:=cs.length=n*k∧((v=.no .sl∧n=0)∨∃a o c,v=.sl a o n c∧gf h a o cs)
theorem Sl.src {h:Hp} {v:V} {k n:Nat} {cs:List V} (hs:Sl h v k n cs):j9 v=some n∧ln h k n v=some cs:=by
 rcases hs.2 with⟨rfl,rfl⟩|⟨a,o,c,rfl,J⟩
 ·have:cs=[]:=ap8 (by rw[hs.1];simp);subst this;exact⟨rfl,rfl⟩
 ·exact⟨rfl,J.all hs.1⟩
theorem Tc {a b:List V} (ha:aY a=true) (hb:aY b=true):aY (a++b)=true:=by
 induction a with
 |nil=>exact hb
 |cons v a ih=>
  simp only[aqI,aY]at ha⊢;cases hv:isScalar v with
  |false=>simp[hv]at ha
  |true=>simp only[hv,E7]at ha⊢;exact ih ha
theorem F2 {h:Hp} {a:Pa} {l xs l':List V} {o:Nat} (hg:h.get a=some (.cells l false)) (hs:aY xs=true) (cI:dk o l xs=some l'):h.db a o xs=some (h.put a (.cells l' false)):=by
 simp only[bm.db,hg,KL,hs,E7,cI]
theorem ae0 (h:Hp) (b:al) (a:Pa):(h.put a b).get a=some b:=by rw[F0,B4 rfl]
theorem F3 (h:Hp) (b:al):(h.alloc b).get h.next=some b:=by rw[FZ,B4 rfl]
theorem ae1 {h:Hp} {b:al} {x:Pa} (hx:x.toNat<h.next.toNat):(h.alloc b).get x=h.get x:=by rw[FZ,pg (fun e=>by subst e;omega)]
theorem Td (s:List UInt8):bytesOf (s.map c5)=some s:=by
 induction s with
 |nil=>rfl
 |cons b s ih=>
  show(match bytesOf (s.map c5)with|some r=>some (UInt8.ofNat (Int.ofNat b.toNat).toNat::r)|none=>none)=_;rw[ih];simp
theorem L1 (l:List UInt8):aY (l.map c5)=true:=by
 induction l with
 |nil=>rfl
 |cons a l ih=>exact ih
theorem mP.made {h:Hp} (w:WF h) (b:al):mP h.next.toNat h (h.alloc b):=(mP.refl w).alloc (B5 _) b
namespace ad
variable{F:Nat→Option aN} {K:KX} {E:Env} {h:Hp} {Q:fu} {rs:List (RS al)} {d:Nat} {g:Option (Pa×Bool)}
theorem ae2 {x:Od} {v:V} {n:Nat} {s:List UInt8} (hw:az E g .yes) (hx:ax E x v) (hs:Sl h v 1 n (s.map c5)) (hn:WR F K rs ((d,.str s)::E) h Q):WR F K (.op ⟨some (pa d),dT x,g⟩::rs) E h Q:=by
 rcases hs.2 with⟨rfl,rfl⟩|⟨a,o,c,rfl,hc⟩
 ·have:s=[]:=by simpa using hs.1
  subst this;exact aeX hw hx hn
 ·exact FW hw hx (hc.all (by rw[hs.1,Nat.mul_one])) (Td s) hn
end ad
end Go.Ev
namespace Go.Ev
variable{F:Nat→Option aN} {K:KX} {E:Env} {h:Hp} {Q:fu}
theorem F4 (k:IntKind) {a:Nat} (h:a≤qw k):e6 k (a:Int)=a:=by
 show(bif Nat.ble a (qw k)then Int.ofNat a else k.wrap (.ofNat a))=_;rw[aqm h];(try rfl)
theorem zm {n:Int} (h0:-9223372036854775808≤n) (I:n≤9223372036854775807):e6 .i64 n=n:=by
 cases n with
 |ofNat a=>exact F4 .i64 (show a≤9223372036854775807 by have:Int.ofNat a=(a:Int):=rfl;omega)
 |negSucc a=>
  show(bif IntKind.signed .i64&&Nat.ble a 9223372036854775807 then Int.negSucc a else _)=_
  have:a≤9223372036854775807:=by
                               have:Int.negSucc a=-((a:Int)+1):=by omega
                               omega
  rw[aqm this];(try rfl)
theorem ei {q:cV} {a b:Int} (h0:-9223372036854775808≤a+b) (I:a+b≤9223372036854775807):cg .add q (.int .i64 a) (.int .i64 b)=some (.int .i64 (a+b)):=by
 show some (V.int .i64 (e6 .i64 (B6 a b)))=_;rw[Lc,zm h0 I]
theorem ig {q:cV} {a b:Int} (h0:-9223372036854775808≤a-b) (I:a-b≤9223372036854775807):cg .sub q (.int .i64 a) (.int .i64 b)=some (.int .i64 (a-b)):=by
 show some (V.int .i64 (e6 .i64 (B7 a b)))=_;rw[Ld,zm h0 I]
theorem F5 {q:cV} {a b:Int} (h0:-9223372036854775808≤a*b) (I:a*b≤9223372036854775807):cg .mul q (.int .i64 a) (.int .i64 b)=some (.int .i64 (a*b)):=by
 show some (V.int .i64 (e6 .i64 (E9 a b)))=_;rw[RL,zm h0 I]
theorem L2 {q:cV} {k:IntKind} {a b:Int}:cg .lss q (.int k a) (.int k b)=some (.bool (decide (a<b))):=by
 show(bif cW k k then some (V.bool (jc a b))else none)=_;have:cW k k=true:=by cases k<;>rfl
 rw[this,sH];(try rfl)
theorem Te {q:cV} {k:IntKind} {a b:Int}:cg .leq q (.int k a) (.int k b)=some (.bool (decide (a≤b))):=by
 show(bif cW k k then some (V.bool (!jc b a))else none)=_;have:cW k k=true:=by cases k<;>rfl
 rw[this,sH];simp only[E7,E8,V.bool.injEq];by_cases jA:a≤b
 ·simp[jA,Int.not_lt.2 jA]
 ·simp[jA,Int.not_le.1 jA]
theorem Tf {q:cV} {k:IntKind} {a b:Int}:cg .gtr q (.int k a) (.int k b)=some (.bool (decide (b<a))):=by
 show(bif cW k k then some (V.bool (jc b a))else none)=_;have:cW k k=true:=by cases k<;>rfl
 rw[this,sH];(try rfl)
theorem Tg {q:cV} {k:IntKind} {a b:Int}:cg .geq q (.int k a) (.int k b)=some (.bool (decide (b≤a))):=by
 show(bif cW k k then some (V.bool (!jc a b))else none)=_;have:cW k k=true:=by cases k<;>rfl
 rw[this,sH];simp only[E7,E8,V.bool.injEq];by_cases jA:b≤a
 ·simp[jA,Int.not_lt.2 jA]
 ·simp[jA,Int.not_le.1 jA]
theorem Th {k:IntKind} {a b:Int}:cg .eql (.flat .i) (.int k a) (.int k b)=some (.bool (decide (a=b))):=by
 show(fq .i (.int k a) (.int k b)).map V.bool=_;have:cW k k=true:=by cases k<;>rfl
 simp only[fq,this,E7,ap0,ki];rfl
theorem Ti {k:IntKind} {a b:Int}:cg .neq (.flat .i) (.int k a) (.int k b)=some (.bool (!decide (a=b))):=by
 show(fq .i (.int k a) (.int k b)).map (fun b=>V.bool (!b))=_;have:cW k k=true:=by cases k<;>rfl
 simp only[fq,this,E7,ap0,ki];rfl
theorem Tj {a b:List UInt8}:cg .eql (.flat .s) (.str a) (.str b)=some (.bool (decide (a=b))):=by
 show(fq .s (.str a) (.str b)).map V.bool=_;simp only[fq,ap0,qL];congr 2;rw[aqC];simp
theorem Tk {a b:List UInt8}:cg .neq (.flat .s) (.str a) (.str b)=some (.bool (!decide (a=b))):=by
 show(fq .s (.str a) (.str b)).map (fun b=>V.bool (!b))=_;simp only[fq,ap0,qL];congr 3;rw[aqC];simp
theorem sS {q:cV} {a b:List UInt8} (h:a.length+b.length≤9223372036854775807):cg .add q (.str a) (.str b)=some (.str (a++b)):=by
 show(bif Nat.ble (a.length+b.length) 9223372036854775807 then some (V.str (a++b))else none)=_;rw[aqm h];(try rfl)
theorem WC.F6 {c:Od} {a b:IC al} {p:Prop} [Decidable p] (hc:ax E c (.bool (decide p))) (ht:p→WC F K a E h Q) (hf:¬p→WC F K b E h Q):WC F K (.cond c a b) E h Q:=by
 by_cases hp:p
 ·exact WC.cond (t:=true) (by rw[decide_eq_true hp]at hc;exact hc) (ht hp)
 ·exact WC.cond (t:=false) (by rw[decide_eq_false hp]at hc;exact hc) (hf hp)
theorem WC.L3 {c:Od} {a b:IC al} {t:Bool} (hc:ax E c (.bool t)) (ht:t=true→WC F K a E h Q) (hf:t=false→WC F K b E h Q):WC F K (.cond c a b) E h Q:=by
 cases t with
 |true=>exact WC.cond hc (ht rfl)
 |false=>exact WC.cond hc (hf rfl)
end Go.Ev
namespace Go.Ev
def Tl (v:V) (k:Nat):Prop:=match v with
 |.sl _ _ n c=>match c with
  |.ex c=>n≤c
  |.un s=>s=k
 |_=>True
theorem xi {a b:Nat} (h:a≤b):Nat.ble a b=true:=Nat.ble_eq.mpr h
theorem Tm {n c j:Nat} (hj:j≤c):eD n c none (some (.int .i64 (j:Int))) none=some (0,j,c):=by
 show(match(match Nat.ble j c with|true=>some j|false=>none:Option Nat)with|none=>none|some h=>some (0,h,c):Option (Nat×Nat×Nat))=_;rw[xi hj]
theorem xj {n c j:Nat} (hj:j≤n) (_hn:n≤c):eD n c (some (.int .i64 (j:Int))) none none=some (j,n,c):=by
 show(match(match Nat.ble j n with|true=>some j|false=>none:Option Nat)with|none=>none|some l=>some (l,n,c):Option (Nat×Nat×Nat))=_;rw[xi hj]
theorem eQ (k:Nat):Nat.beq k k=true:=Nat.beq_eq.mpr rfl
theorem L4 (a b:Int):jc a b=decide (a<b):=by
 have h:some (V.bool (jc a b))=some (V.bool (decide (a<b))):=L2 (q:=.flat .i) (k:=.i64) (a:=a) (b:=b);injection h with h
 injection h
theorem CE (a b:Nat):mm false (.int .i64 (a:Int)) (.int .i64 (b:Int))=some (.int .i64 ((min a b:Nat):Int)):=by
 have hk:cW .i64 .i64=true:=rfl;simp only[mm,hk,E7,KL,L4];by_cases h:(b:Int)<(a:Int)
 ·rw[decide_eq_true h,E7,Nat.min_eq_right (by omega)]
 ·rw[decide_eq_false h,KL,aqn (by omega)]
theorem Tn (a b:Nat):mm true (.int .i64 (a:Int)) (.int .i64 (b:Int))=some (.int .i64 ((max a b:Nat):Int)):=by
 have hk:cW .i64 .i64=true:=rfl;simp only[mm,hk,E7,L4];by_cases h:(a:Int)<(b:Int)
 ·rw[decide_eq_true h,E7,Nat.max_eq_right (by omega)]
 ·rw[decide_eq_false h,KL,Nat.max_eq_left (by omega)]
end Go.Ev
namespace Go.Ev
variable{F:Nat→Option aN} {K:KX} {E:Env} {h:Hp} {Q:fu} {rs:List (RS al)} {g:Option (Pa×Bool)} {d:Nat}
theorem fv (k:IntKind) (n:Int):dd (.int k n) (.int k n)=true:=by
 show(cW k k&&iw n n)=true;rw[ki];have:cW k k=true:=by cases k<;>rfl
 simp[this]
theorem hB (s:List UInt8):dd (.str s) (.str s)=true:=by
 show nN s s=true;rw[qL];simp
namespace ad
theorem F7 {sm:bz} (hw:az E g .no) (hd:lk d E=some dm) (hn:WR F K rs E h Q):WR F K (.cf ⟨some (pa d),sm,g⟩::rs) E h Q:=
 WR.cf (fun e he=>by simp only[lu,hw e he];rw[he d _ hd];(try rfl)) hn
theorem F8 {n:Option Nat} {x:Od} {a v w:V} (hw:az E g .yes) (hd:lk d E=some v) (hx:ax E x a) (hl:fH h n a=some w) (hs:same v w=true) (hn:WR F K rs E h Q):WR F K (.cf ⟨some (pa d),bY n x,g⟩::rs) E h Q:=
 WR.cf (fun e he=>by simp only[lu,hw e he,bY];rw[he d _ hd];simp only[hx e he,hl,hs]) hn
theorem To {z l l':List V} {n:Nat} {ps:List (Nat×Nat×Od)} {a:Pa} (hw:az E g .yes) (hd:lk d E=some (.sl a 0 n (.ex n))) (hf:pA E ps z l) (iI:aY l=true) (hg:h.get a=some (.cells l' false)) (hs:cm l l'=true) (hn:WR F K rs E h Q):
 WR F K (.cf ⟨some (pa d),aG z n ps,g⟩::rs) E h Q:=
 WR.cf (fun e he=>by
  have ni:same (.sl a 0 n (.ex n)) (.sl a 0 n (.ex n))=true:=by
   show((a.beq a&&Nat.beq 0 0)&&(Nat.beq n n&&Nat.beq n n))=true;rw[eQ n,(Pa.beq_iff a a).2 rfl];(try rfl)
  simp only[lu,hw e he,aG];rw[he d _ hd];simp only[hf.ev he,iI,E7,qG,hg,ni];exact hs) hn
end ad
theorem F9 (k g k' g':Int) (l l':List UInt8):cg .neq (.agg [(0,.i),(1,.i),(2,.s)]) (.agg [.int .i64 k,.int .i64 g,.str l]) (.agg [.int .i64 k',.int .i64 g',.str l'])=some (.bool (!decide (k=k'∧g=g'∧l=l'))):=by
 show(pj [V.int .i64 k,.int .i64 g,.str l] [.int .i64 k',.int .i64 g',.str l'] [(0,.i),(1,.i),(2,.s)]).map (fun b=>V.bool (!b))=_;have hk:cW .i64 .i64=true:=rfl;have n0:∀(a b c:V),nth [a,b,c] 0=some a:=fun _ _ _=>rfl;have n1:∀(a b c:V),nth [a,b,c] 1=some b:=fun _ _ _=>rfl;have n2:∀(a b c:V),nth [a,b,c] 2=some c:=fun _ _ _=>rfl;simp only[pj,n0,n1,n2,fq,hk,E7,ki,qL];by_cases I:k=k'
 ·have e1:(k==k')=true:=by simpa using I
  by_cases J:g=g'
  ·have e2:(g==g')=true:=by simpa using J
   by_cases h3:l=l'
   ·have e3:(l==l')=true:=by simpa using h3
    rw[e1,e2,e3];simp[I,J,h3]
   ·have e3:(l==l')=false:=by simpa using h3
    rw[e1,e2,e3];simp[h3]
  ·have e2:(g==g')=false:=by simpa using J
   rw[e1,e2];simp[J]
 ·have e1:(k==k')=false:=by simpa using I
  rw[e1];simp[I]
end Go.Ev
namespace Go.Ev
def al.rd:al→Option (List V)
 |.cells l d=>bif d then none else some l
 |.ro l=>some l
 |_=>none
theorem L5 {h:Hp} {a:Pa} {b:al} {l:List V} (hg:h.get a=some b) (hb:b.rd=some l):h.cells a=some l:=by
 unfold bm.cells;rw[hg];cases b with
 |cells c d=>cases d<;>simp[al.rd]at hb⊢;exact hb
 |ro c=>simpa[al.rd]using hb
 |_=>simp[al.rd]at hb
abbrev Fz:=Pa→Option al
def Fz.Le (O ψ:Fz):Prop:=∀a b,O a=some b→ψ a=some b
theorem Fz.Le.refl (O:Fz):O.Le O:=fun _ _ h=>h
theorem Fz.Le.trans {O ψ χ:Fz} (h:O.Le ψ) (k:ψ.Le χ):O.Le χ:=fun a b x=>k a b (h a b x)
def Fz.put (O:Fz) (a:Pa) (b:al):Fz:=fun x=>if x=a then some b else O x
abbrev Ob:=Option Pa×al
structure SH (O:Fz) (h:Hp) (R:List Ob):Prop where
 wf:WF h
 mQ:∀a b,O a=some b→h.get a=some b
 own:∀(i:Nat) (a:Pa) (b:al),R[i]? =some (some a,b)→h.get a=some b∧O a=none
 apart:∀(i j:Nat) (a:Pa) (b c:al),R[i]? =some (some a,b)→R[j]? =some (some a,c)→i=j
theorem SH.less {O ψ:Fz} {h:Hp} {R:List Ob} (s:SH ψ h R) (ac:O.Le ψ):SH O h R:=
 ⟨s.wf,fun a b x=>s.mQ a b (ac a b x),fun i a b x=>⟨(s.own i a b x).1,by
   cases e:O a with
   |none=>rfl
   |some c=>have:=ac a c e;rw[(s.own i a b x).2]at this;cases this⟩,s.apart⟩
theorem SH.pick {O:Fz} {h:Hp} {R O':List Ob} (s:SH O h R) (f:Nat→Nat) (hf:∀(i:Nat) (o:Ob),O'[i]? =some o→R[f i]? =some o) (X1:∀i j:Nat,i<O'.length→j<O'.length→f i=f j→i=j):SH O h O':=
 ⟨s.wf,s.mQ,fun i a b x=>s.own (f i) a b (hf i _ x),fun i j a b c x y=>X1 i j (ap1.1 x).1 (ap1.1 y).1 (s.apart _ _ a b c (hf i _ x) (hf j _ y))⟩
theorem Tq {U:Type} (l:List U) (i j:Nat):(l.eraseIdx i)[j]? =if j<i then l[j]? else l[j+1]? :=List.getElem?_eraseIdx ..
theorem SH.erase {O:Fz} {h:Hp} {R:List Ob} (s:SH O h R) (i:Nat):SH O h (R.eraseIdx i):=
 s.pick (fun j=>if j<i then j else j+1) (fun j o hj=>by rw[Tq]at hj;split<;>simp_all) (fun a b _ _ h=>by split at h<;>split at h<;>omega)
theorem SH.front {O:Fz} {h:Hp} {R ad:List Ob} {i:Nat} {o:Ob} (ho:R[i]? =some o) (s:SH O h (R++ad)):SH O h (o::(R.eraseIdx i++ad)):=by
 have hi:i<R.length:=(ap1.1 ho).1;refine s.pick (fun j=>if j=0 then i else if j-1<i then j-1 else j) (fun j x hj=>?_) (fun a b _ _ e=>by(split at e<;>split at e<;>(try split at e)<;>(try split at e)<;>omega));cases j with
 |zero=>
  simp only[aqe,E8]at hj;subst hj;rw[B4 rfl,apQ hi];exact ho
 |succ j=>
  rw[apX]at hj;rw[pg (by omega),arn];have hlen:(R.eraseIdx i).length=R.length-1:=List.length_eraseIdx_of_lt hi;by_cases I:j<R.length-1
  ·rw[apQ (by omega),Tq]at hj;split
   ·rename_i J;rw[B4 J]at hj;rw[apQ (by omega)];exact hj
   ·rename_i J;rw[pg J]at hj;rw[apQ (by omega)];exact hj
  ·rw[apG (by omega),hlen]at hj;rw[pg (by omega),apG (by omega),←hj];congr 1;omega
theorem SH.back {O:Fz} {h:Hp} {R ad:List Ob} {i:Nat} {o:Ob} (hi:i≤R.length) (s:SH O h (o::(R++ad))):SH O h ((R.take i++o::R.drop i)++ad):=by
 refine s.pick (fun j=>if j<i then j+1 else if j=i then 0 else j) (fun j x hj=>?_) (fun a b _ _ e=>by(split at e<;>split at e<;>(try split at e)<;>(try split at e)<;>omega));have e1:(R.take i++o::R.drop i)++ad=R.take i++(o::(R.drop i++ad)):=by simp
 rw[e1]at hj;have ap:(R.take i).length=i:=by rw[ab7];omega
 by_cases I:j<i
 ·rw[apQ (by omega)]at hj;rw[B4 I,apX,←hj,aqt,B4 I,apQ (by omega)]
 ·rw[apG (by omega),ap]at hj;rw[pg I];by_cases J:j=i
  ·subst J;rw[B4 rfl];rw[aqq]at hj;exact hj
  ·rw[pg J];obtain⟨k,rfl⟩:∃k,j=i+k+1:=⟨j-i-1,by omega⟩
   rw[show i+k+1-i=k+1 by omega,apX]at hj;rw[apX,←hj];by_cases h3:k<R.length-i
   ·rw[apQ (by omega),apQ (by rw[Rn];omega),aqi]
   ·rw[apG (by omega),apG (by rw[Rn];omega),Rn];congr 1;omega
theorem SH.lt {O:Fz} {h:Hp} {R:List Ob} (s:SH O h R) {i:Nat} {a:Pa} {b:al} (hi:R[i]? =some (some a,b)):a.toNat<h.next.toNat:=s.wf.lt (s.own i a b hi).1
theorem SH.alloc {O:Fz} {h:Hp} {R:List Ob} (s:SH O h R) (b:al):SH O (h.alloc b) ((some h.next,b)::R):=by
 have aD:∀a:Pa,a.toNat<h.next.toNat→(h.alloc b).get a=h.get a:=fun a ha=>ae1 ha;refine⟨s.wf.alloc b,fun a c hc=>?_,fun i a c hi=>?_,fun i j a c d hi hj=>?_⟩
 ·have:=s.mQ a c hc;rw[aD a (s.wf.lt this)];exact this
 ·cases i with
  |zero=>
   simp only[aqe,E8,apW]at hi;obtain⟨rfl,rfl⟩:=hi;refine⟨F3 _ _,?_⟩;cases e:O h.next with
   |none=>rfl
   |some c=>have:=s.wf.lt (s.mQ _ _ e);omega
  |succ i=>
   rw[apX]at hi;have:=s.own i a c hi;exact⟨by rw[aD a (s.wf.lt this.1)];exact this.1,this.2⟩
 ·cases i with
  |zero=>
   cases j with
   |zero=>rfl
   |succ j=>
    simp only[aqe,E8,apW]at hi;rw[apX]at hj;have:=s.lt hj;rw[←hi.1]at this;omega
  |succ i=>
   rw[apX]at hi;cases j with
   |zero=>
    simp only[aqe,E8,apW]at hj;have:=s.lt hi;rw[←hj.1]at this;omega
   |succ j=>
    rw[apX]at hj;rw[s.apart i j a c d hi hj]
theorem SH.put {O:Fz} {h:Hp} {R:List Ob} (s:SH O h R) {i:Nat} {a:Pa} {b:al} (hi:R[i]? =some (some a,b)) (b':al):SH O (h.put a b') (R.set i (some a,b')):=by
 have ap:=(ap1.1 hi).1;obtain⟨hg,hf⟩:=s.own i a b hi;have key:∀(j:Nat) (o:Ob),(R.set i (some a,b'))[j]? =some o→(j=i∧o=(some a,b'))∨(j≠i∧R[j]? =some o):=fun j o hj=>by
  rw[aqG]at hj;split at hj
  ·rename_i e;subst e;exact .inl ⟨rfl,by simpa using hj.symm⟩
  ·rename_i e;exact .inr ⟨fun e1=>e e1.symm,hj⟩
 refine⟨s.wf.put (s.wf.lt hg) b',fun x c hx=>?_,fun j x c hj=>?_,fun j k x c d hj hk=>?_⟩
 ·rw[F0,pg (fun e=>by subst e;rw[hf]at hx;cases hx)];exact s.mQ x c hx
 ·rcases key j _ hj with⟨rfl,e⟩|⟨bx,d7⟩
  ·simp only[apW,E8]at e;obtain⟨rfl,rfl⟩:=e;exact⟨ae0 _ _ _,hf⟩
  ·have:=s.own j x c d7;refine⟨?_,this.2⟩;rw[F0,pg (fun e=>by subst e;exact bx (s.apart j i a c b d7 hi))];exact this.1
 ·have f:∀(j:Nat) (c:al),(R.set i (some a,b'))[j]? =some (some x,c)→∃c',R[j]? =some (some x,c'):=fun j c hj=>by
   rcases key j _ hj with⟨rfl,e⟩|⟨_,d7⟩
   ·simp only[apW,E8]at e;obtain⟨rfl,_⟩:=e;exact⟨b,hi⟩
   ·exact⟨c,d7⟩
  obtain⟨c',I⟩:=f j c hj;obtain⟨d',J⟩:=f k d hk;exact s.apart j k x c' d' I J
theorem SH.zn {O:Fz} {h:Hp} {R ad:List Ob} (s:SH O h (R++ad)) {i:Nat} {a:Pa} {b:al} (hi:R[i]? =some (some a,b)) (b':al):SH O (h.put a b') (R.set i (some a,b')++ad):=by
 have ap:=(ap1.1 hi).1;have:=s.put (i:=i) (by rw[apQ ap];exact hi) b'
 rwa [List.set_append,B4 ap]at this
theorem SH.hC {O:Fz} {h:Hp} {R ad:List Ob} (s:SH O h (R++ad)) {i:Nat} {a:Pa} {b:al} (hi:R[i]? =some (some a,b)):h.get a=some b:=
 (s.own i a b (by rw[apQ (ap1.1 hi).1];exact hi)).1
theorem SH.freeze {O:Fz} {h:Hp} {R ad:List Ob} (s:SH O h (R++ad)) {i:Nat} {a:Pa} {b:al} (hi:R[i]? =some (some a,b)):SH (O.put a b) h (R.eraseIdx i++ad)∧O.Le (O.put a b):=by
 have I:=s.front hi;obtain⟨hg,hf⟩:=I.own 0 a b rfl;refine⟨⟨s.wf,fun x c hx=>?_,fun j x c hj=>?_,fun j k x c d hj hk=>?_⟩,fun x c hx=>?_⟩
 ·unfold Fz.put at hx;split at hx
  ·rename_i e;subst e;simp at hx;subst hx;exact hg
  ·exact s.mQ x c hx
 ·have J:=I.own (j+1) x c (by simpa using hj);refine⟨J.1,?_⟩;unfold Fz.put;rw[pg (fun e=>by subst e;have:=I.apart 0 (j+1) x b c rfl (by simpa using hj);omega)];exact J.2
 ·have:=I.apart (j+1) (k+1) x c d (by simpa using hj) (by simpa using hk);omega
 ·unfold Fz.put;rw[pg (fun e=>by subst e;rw[hf]at hx;cases hx)];exact hx
theorem SH.ae7 {O:Fz} {h h':Hp} {R ad:List Ob} {i:Nat} {a:Pa} {b:al} (s:SH O h (R++ad)) (hi:R[i]? =some (some a,b)) (s':SH (O.put a b) h' (R.eraseIdx i++ad)):SH O h' (R++ad):=by
 have ap:=(ap1.1 hi).1;have hf:O a=none:=(s.own i a b (by rw[apQ ap];exact hi)).2;have ac:O.Le (O.put a b):=(s.freeze hi).2;have I:SH O h' ((some a,b)::(R.eraseIdx i++ad)):=by
  have hg:h'.get a=some b:=s'.mQ a b (by simp[Fz.put]);have hn:∀(j:Nat) (c:al),(R.eraseIdx i++ad)[j]?≠some (some a,c):=fun j c hj=>by
   have:=(s'.own j a c hj).2;simp[Fz.put]at this
  refine⟨s'.wf,fun x c hx=>s'.mQ x c (ac x c hx),fun j x c hj=>?_,fun j k x c d hj hk=>?_⟩
  ·cases j with
   |zero=>simp only[aqe,E8,apW]at hj;obtain⟨rfl,rfl⟩:=hj;exact⟨hg,hf⟩
   |succ j=>exact(s'.less ac).own j x c (by simpa using hj)
  ·cases j with
   |zero=>
    simp only[aqe,E8,apW]at hj;obtain⟨rfl,rfl⟩:=hj;cases k with
    |zero=>rfl
    |succ k=>rw[apX]at hk;exact absurd hk (hn k d)
   |succ j=>
    rw[apX]at hj;cases k with
    |zero=>
     simp only[aqe,E8,apW]at hk;obtain⟨rfl,rfl⟩:=hk;exact absurd hj (hn j c)
    |succ k=>rw[apX]at hk;rw[s'.apart j k x c d hj hk]
 have J:=SH.back (i:=i) (by rw[List.length_eraseIdx_of_lt ap];omega) I;have e:(R.eraseIdx i).take i++(some a,b)::(R.eraseIdx i).drop i=R:=by
  have bE:R[i]=(some a,b):=(ap1.1 hi).2;rw[List.eraseIdx_eq_take_drop_succ];have hl:(R.take i).length=i:=by rw[ab7];omega
  rw[List.take_append_of_le_length (by omega),aqz (by omega),List.drop_append_of_le_length (by omega),aqw (by omega),aqa,←bE,arI,aqA]
 rwa [e]at J
end Go.Ev
namespace Go.Ev
def ae8 (n k:Nat):hW→Prop
 |.ex c=>n≤c
 |.un s=>s=k
def FS (O:Fz) (v:V) (k n:Nat) (cs:List V):Prop:=
 cs.length=n*k∧((v=.no .sl∧n=0)∨∃a o c b l,v=.sl a o n c∧O a=some b∧b.rd=some l∧(∀(i:Nat) (u:V),cs[i]? =some u→l[o+i]? =some u)∧ae8 n k c)
def EP (O:Fz) (p:V) (xs:List V):Prop:=∃a o b l,p=.ptr a o∧O a=some b∧b.rd=some l∧∀(i:Nat) (u:V),xs[i]? =some u→l[o+i]? =some u
def OV (v:V) (k n:Nat) (cs:List V) (s:Option Pa):Prop:=
 cs.length=n*k∧aY cs=true∧((v=.no .sl∧n=0∧s=none)∨(∃a,v=.sl a 0 n (.un k)∧s=some a)∨∃a,v=.sl a 0 n (.ex n)∧s=some a)
section
variable{O ψ:Fz} {h:Hp} {R ad:List Ob} {v p x:V} {k n m:Nat} {cs xs:List V} {s:Option Pa}
theorem FS.mono (hs:FS O v k n cs) (ac:O.Le ψ):FS ψ v k n cs:=⟨hs.1,hs.2.imp id fun⟨a,o,c,b,l,I,J,h3⟩=>⟨a,o,c,b,l,I,ac _ _ J,h3⟩⟩
theorem EP.mono (hs:EP O p xs) (ac:O.Le ψ):EP ψ p xs:=let⟨a,o,b,l,I,J,h3⟩:=hs;⟨a,o,b,l,I,ac _ _ J,h3⟩
theorem FS.nil (O:Fz) (k:Nat):FS O (.no .sl) k 0 []:=⟨by simp,.inl ⟨rfl,rfl⟩⟩
theorem OV.nil (k:Nat):OV (.no .sl) k 0 [] none:=⟨by simp,rfl,.inl ⟨rfl,rfl,rfl⟩⟩
theorem FS.sl (hs:FS O v k n cs) (sh:SH O h R):Sl h v k n cs:=⟨hs.1,hs.2.imp id fun⟨a,o,c,_,l,I,J,h3,h4,_⟩=>⟨a,o,c,I,l,L5 (sh.mQ _ _ J) h3,h4⟩⟩
theorem FS.len (hs:FS O v k n cs):sE v=some (.int .i64 (n:Int)):=by
 rcases hs.2 with⟨rfl,rfl⟩|⟨a,o,c,b,l,rfl,_⟩<;>rfl
theorem OV.len (ho:OV v k n cs s):sE v=some (.int .i64 (n:Int)):=by
 rcases ho.2.2 with⟨rfl,rfl,_⟩|⟨a,rfl,_⟩|⟨a,rfl,_⟩<;>rfl
theorem OV.sl (ho:OV v k n cs s) {i:Nat} (hi:R[i]? =some (s,.cells cs false)) (sh:SH O h (R++ad)):Sl h v k n cs:=by
 refine⟨ho.1,?_⟩;rcases ho.2.2 with⟨I,J,_⟩|⟨a,I,rfl⟩|⟨a,I,rfl⟩
 ·exact .inl ⟨I,J⟩
 ·exact .inr ⟨a,0,_,I,.of (sh.hC hi) rfl⟩
 ·exact .inr ⟨a,0,_,I,.of (sh.hC hi) rfl⟩
theorem OV.fs {b:al} (ho:OV v k n cs s) (hb:b=.cells cs false) (hs:∀a,s=some a→O a=some b):FS O v k n cs:=by
 subst hb;refine⟨ho.1,?_⟩;rcases ho.2.2 with⟨I,J,_⟩|⟨a,I,rfl⟩|⟨a,I,rfl⟩
 ·exact .inl ⟨I,J⟩
 ·exact .inr ⟨a,0,_,_,cs,I,hs a rfl,rfl,fun i u hu=>by rw[ap7];exact hu,rfl⟩
 ·exact .inr ⟨a,0,_,_,cs,I,hs a rfl,rfl,fun i u hu=>by rw[ap7];exact hu,B5 n⟩
theorem FS.at (hs:FS O v k n cs) {j:Nat} (hj:j<n):∃a o c,v=.sl a o n c∧EP O (.ptr a (o+j*k)) ((cs.drop (j*k)).take k):=by
 rcases hs.2 with⟨_,rfl⟩|⟨a,o,c,b,l,I,J,h3,h4,_⟩
 ·omega
 ·refine⟨a,o,c,I,a,_,b,l,rfl,J,h3,fun i u hu=>?_⟩;rw[aqt]at hu;split at hu
  ·rw[aqi]at hu;rw[aqf];exact h4 _ _ hu
  ·cases hu
theorem EP.field (hp:EP O p xs) (off:Nat):∃a o,p=.ptr a o∧EP O (.ptr a (o+off)) (xs.drop off):=by
 obtain⟨a,o,b,l,I,J,h3,h4⟩:=hp;exact⟨a,o,I,a,_,b,l,rfl,J,h3,fun i u hu=>by rw[aqi]at hu;rw[aqf];exact h4 _ _ hu⟩
theorem EP.L6 (hp:EP O p xs) {u:V} (hu:xs[0]? =some u) (sh:SH O h R):fH h none p=some u:=by
 obtain⟨a,o,b,l,rfl,J,h3,h4⟩:=hp;simp only[fH,L5 (sh.mQ _ _ J) h3,qH];exact h4 0 u hu
theorem EP.cl (hp:EP O p xs) {n:Nat} {l':List V} (hl:xs.take n=l') (hn:l'.length=n) (sh:SH O h R):fH h (some n) p=some (.agg l'):=by
 obtain⟨a,o,b,l,rfl,J,h3,h4⟩:=hp;have hc:gf h a o (xs.take n):=⟨l,L5 (sh.mQ _ _ J) h3,fun i u hu=>h4 i u (by rw[aqt]at hu;split at hu;exact hu;cases hu)⟩
 rw[hl]at hc;simp only[fH,hc.all hn]
theorem FS.hi (hs:FS O v k n cs) {j:Nat} (hj:j≤n):∃v',ef k v none (some (.int .i64 (j:Int))) none=some v'∧FS O v' k j (cs.take (j*k)):=by
 have hlen:(cs.take (j*k)).length=j*k:=by rw[ab7,hs.1];exact aqn (arb _ hj)
 have eX:∀(i:Nat) (u:V),(cs.take (j*k))[i]? =some u→cs[i]? =some u:=fun i u hu=>by rw[aqt]at hu;split at hu;exact hu;cases hu
 rcases hs.2 with⟨rfl,rfl⟩|⟨a,o,c,b,l,rfl,J,h3,h4,h5⟩
 ·obtain rfl:j=0:=by omega
  exact⟨.no .sl,rfl,hlen,.inl ⟨rfl,rfl⟩⟩
 ·cases c with
  |ex c=>
   have Oj:j≤c:=aqb hj h5;refine⟨.sl a o j (.ex c),?_,hlen,.inr ⟨a,o,_,b,l,rfl,J,h3,fun i u hu=>h4 i u (eX i u hu),Oj⟩⟩;simp only[ef,Tm Oj,Nat.sub_zero,Nat.zero_mul,Nat.add_zero];cases Nat.beq c 0<;>rfl
  |un s=>
   obtain rfl:s=k:=h5;refine⟨.sl a o j (.un s),?_,hlen,.inr ⟨a,o,_,b,l,rfl,J,h3,fun i u hu=>h4 i u (eX i u hu),rfl⟩⟩;simp only[ef,Tm hj,eQ,E7,Nat.sub_zero,Nat.zero_mul,Nat.add_zero]
theorem FS.lo (hs:FS O v k n cs) {j:Nat} (hj:j≤n):∃v',ef k v (some (.int .i64 (j:Int))) none none=some v'∧FS O v' k (n-j) (cs.drop (j*k)):=by
 have hlen:(cs.drop (j*k)).length=(n-j)*k:=by rw[Rn,hs.1,Nat.sub_mul]
 have me:∀(o:Nat) (l:List V),(∀(i:Nat) (u:V),cs[i]? =some u→l[o+i]? =some u)→∀(i:Nat) (u:V),(cs.drop (j*k))[i]? =some u→l[o+j*k+i]? =some u:=fun o l hh i u hu=>by
  rw[aqi]at hu;rw[aqf];exact hh _ _ hu
 rcases hs.2 with⟨rfl,rfl⟩|⟨a,o,c,b,l,rfl,J,h3,h4,h5⟩
 ·obtain rfl:j=0:=by omega
  exact⟨.no .sl,rfl,hlen,.inl ⟨rfl,rfl⟩⟩
 ·cases c with
  |ex c=>
   have An:n≤c:=h5;by_cases Ok:c=j
   ·subst Ok;obtain rfl:n=c:=by omega
    have Ah:cs.drop (n*k)=[]:=arl (by rw[hs.1];exact B5 _);refine⟨.sl a o (n-n) (.ex (n-n)),?_,hlen,.inr ⟨a,o,_,b,l,rfl,J,h3,fun i u hu=>by rw[Ah]at hu;simp at hu,B5 _⟩⟩;simp only[ef,xj (B5 n) (B5 n),eQ,E7]
   ·refine⟨.sl a (o+j*k) (n-j) (.ex (c-j)),?_,hlen,.inr ⟨a,_,_,b,l,rfl,J,h3,me o l h4,by show n-j≤c-j;omega⟩⟩;simp only[ef,xj hj An,xf Ok,KL]
  |un s=>
   obtain rfl:s=k:=h5;refine⟨.sl a (o+j*s) (n-j) (.un s),?_,hlen,.inr ⟨a,_,_,b,l,rfl,J,h3,me o l h4,rfl⟩⟩;simp only[ef,xj hj (B5 _),eQ,E7]
theorem Ga {n c i j:Nat} (dr:i≤j) (hj:j≤c):eD n c (some (.int .i64 (i:Int))) (some (.int .i64 (j:Int))) none=some (i,j,c):=by
 show(match(match Nat.ble j c with|true=>some j|false=>none:Option Nat)with|none=>none|some h=>(match(match Nat.ble i h with|true=>some i|false=>none:Option Nat)with|none=>none|some l=>some (l,h,c)):Option (Nat×Nat×Nat))=_;simp only[xi hj,xi dr]
theorem FS.both (hs:FS O v k n cs) {i j:Nat} (dr:i≤j) (hj:j≤n):∃v',ef k v (some (.int .i64 (i:Int))) (some (.int .i64 (j:Int))) none=some v'∧FS O v' k (j-i) ((cs.drop (i*k)).take ((j-i)*k)):=by
 have hlen:((cs.drop (i*k)).take ((j-i)*k)).length=(j-i)*k:=by
  rw[ab7,Rn,hs.1,←Nat.sub_mul];exact aqn (arb _ (by omega))
 have me:∀(o:Nat) (l:List V),(∀(i:Nat) (u:V),cs[i]? =some u→l[o+i]? =some u)→∀(q:Nat) (u:V),((cs.drop (i*k)).take ((j-i)*k))[q]? =some u→l[o+i*k+q]? =some u:=fun o l hh q u hu=>by
  rw[aqt]at hu;split at hu
  ·rw[aqi]at hu;rw[aqf];exact hh _ _ hu
  ·cases hu
 rcases hs.2 with⟨rfl,rfl⟩|⟨a,o,c,b,l,rfl,J,h3,h4,h5⟩
 ·obtain rfl:j=0:=by omega
  obtain rfl:i=0:=by omega
  exact⟨.no .sl,rfl,hlen,.inl ⟨rfl,rfl⟩⟩
 ·cases c with
  |ex c=>
   have An:n≤c:=h5;by_cases Ol:c=i
   ·subst Ol;obtain rfl:n=c:=by omega
    obtain rfl:n=j:=by omega
    refine⟨.sl a o (n-n) (.ex (n-n)),?_,hlen,.inr ⟨a,o,_,b,l,rfl,J,h3,fun q u hu=>by rw[aqq,Nat.zero_mul,aq5]at hu;simp at hu,B5 _⟩⟩;simp only[ef,Ga (B5 n) (B5 n),eQ,E7]
   ·refine⟨.sl a (o+i*k) (j-i) (.ex (c-i)),?_,hlen,.inr ⟨a,_,_,b,l,rfl,J,h3,me o l h4,by show j-i≤c-i;omega⟩⟩;simp only[ef,Ga dr (aqb hj An),xf Ol,KL]
  |un s=>
   obtain rfl:s=k:=h5;refine⟨.sl a (o+i*s) (j-i) (.un s),?_,hlen,.inr ⟨a,_,_,b,l,rfl,J,h3,me o l h4,rfl⟩⟩;simp only[ef,Ga dr hj,eQ,E7]
theorem FS.src (hs:FS O v k n cs) (sh:SH O h R):j9 v=some n∧ln h k n v=some cs:=(hs.sl sh).src
theorem SH.move {o:Ob} (sh:SH O h (o::(R++ad))) (i:Nat):SH O h (R.set i o++ad):=by
 refine sh.pick (fun j=>if j=i∧i<R.length then 0 else j+1) (fun j x hj=>?_) (fun a b _ _ e=>by split at e<;>split at e<;>omega);by_cases I:j<R.length
 ·rw[apQ (by rw[arw];exact I),aqG]at hj;by_cases J:i=j
  ·subst J;rw[B4 ⟨rfl,I⟩];rw[B4 rfl,B4 I]at hj;exact hj
  ·rw[pg J]at hj;rw[pg (fun e=>J e.1.symm),apX,apQ I];exact hj
 ·rw[apG (by rw[arw];omega),arw]at hj;rw[pg (by omega),apX,apG (by omega)];exact hj
theorem OV.nO (sh:SH O h (R++ad)) {i:Nat} (hi:R[i]? =some (s,.cells cs false)) (ho:OV v k n cs s) (kT:xs.length=m*k) (eV:aY xs=true) (hk:0<k) (hb:n+m≤1073741824):
 ∃v' s' h',nO h k m xs v=some (v',h')∧OV v' k (n+m) (cs++xs) s'∧SH O h' (R.set i (s',.cells (cs++xs) false)++ad):=by
 have hlen:(cs++xs).length=(n+m)*k:=by rw[amv,ho.1,kT,aqr]
 have eK:=Tc ho.2.1 eV;have ap:=(ap1.1 hi).1;cases m with
 |zero=>
  have m5:xs=[]:=ap8 (by rw[kT];simp);subst m5;have he:R.set i (s,.cells (cs++[]) false)=R:=by
   rw[ap9];apply aro;intro j;rw[aqG];split
   ·rename_i e;subst e;rw[hi]
   ·rfl
  refine⟨v,s,h,?_,by simpa using ho,by rw[he];exact sh⟩;rcases ho.2.2 with⟨rfl,rfl,rfl⟩|⟨a,rfl,rfl⟩|⟨a,rfl,rfl⟩<;>simp only[Go.Ev.nO]<;>rfl
 |succ m=>
  have vE:Nat.beq (m+1) 0=false:=rfl;rcases ho.2.2 with⟨rfl,rfl,rfl⟩|⟨a,rfl,rfl⟩|⟨a,rfl,rfl⟩
  ·have tr:cs=[]:=ap8 (by rw[ho.1];simp);subst tr;rw[ap7]at hb⊢;refine⟨.sl h.next 0 (m+1) (.un k),some h.next,h.alloc (.cells xs false),?_,⟨by simpa using kT,eV,.inr (.inl ⟨_,rfl,rfl⟩)⟩,(sh.alloc _).move i⟩;simp only[Go.Ev.nO,vE,KL,sF,aqm hb,E7,eV]
  ·have hg:=sh.hC hi;refine⟨.sl h.next 0 (n+(m+1)) (.un k),some h.next,(h.put a (.cells cs true)).alloc (.cells (cs++xs) false),?_,⟨hlen,eK,.inr (.inl ⟨_,rfl,rfl⟩)⟩,?_⟩
   ·have vw:Nat.ble (0+(n+(m+1))*k) cs.length=false:=by
     cases hq:Nat.ble (0+(n+(m+1))*k) cs.length with
     |false=>rfl
     |true=>
      have:=ap5 hq;have I:0<(m+1)*k:=Nat.mul_pos (by omega) hk;rw[ho.1,aqr]at this;omega
    have eX:takeN (n*k) (qx 0 cs)=some cs:=by
     rw[qI,aqY,zh (by rw[ho.1];exact B5 _),←ho.1,ap2]
    simp only[Go.Ev.nO,vE,KL,eQ,E7,hg,vw,eX,sF,aqm hb,eK];rfl
   ·have I:=(sh.zn hi (.cells cs true)).alloc (.cells (cs++xs) false);have J:=SH.move I i
    rwa [List.set_set]at J
  ·have hg:=sh.hC hi;refine⟨.sl h.next 0 (n+(m+1)) (.un k),some h.next,h.alloc (.cells (cs++xs) false),?_,⟨hlen,eK,.inr (.inl ⟨_,rfl,rfl⟩)⟩,(sh.alloc _).move i⟩;have vw:Nat.ble (n+(m+1)) n=false:=by
    cases hq:Nat.ble (n+(m+1)) n with
    |false=>rfl
    |true=>have:=ap5 hq;omega
   have vv:h.cl a 0 (n*k)=some cs:=(gf.of hg rfl).all ho.1;simp only[Go.Ev.nO,vE,KL,vw,vv,sF,aqm hb,E7,eK]
theorem OV.app (sh:SH O h (R++ad)) {i:Nat} (hi:R[i]? =some (s,.cells cs false)) (ho:OV v k n cs s) (hl:j9 x=some m) (hx:ln h k m x=some xs) (kT:xs.length=m*k) (eV:aY xs=true) (hk:0<k) (hb:n+m≤1073741824):
 ∃v' s' h',yZ h k v x=some (v',h')∧OV v' k (n+m) (cs++xs) s'∧SH O h' (R.set i (s',.cells (cs++xs) false)++ad):=by
 simp only[yZ,hl,hx];exact ho.nO sh hi kT eV hk hb
end
end Go.Ev
namespace Go.Ev
def L7 (E:Env):Od→Option V
 |.t p=>lk p.toNat E
 |.c v=>some v
theorem L8 {E:Env} {x:Od} {a:V} (h:L7 E x=some a):ax E x a:=by
 cases x with
 |t p=>
  intro e he;have I:lk p.toNat E=some a:=h;have J:=he p.toNat a I;show e.val p=a;unfold T.val;have hp:pa p.toNat=p:=Pa.toNat_inj (gY _);rw[hp]at J;rw[J]
 |c v=>cases h;exact .c
def kD (E:Env):List Od→Option (List V)
 |[]=>some []
 |x::xs=>match L7 E x with
  |some a=>match kD E xs with
   |some l=>some (a::l)
   |none=>none
  |none=>none
theorem nV {E:Env}:∀{xs:List Od} {vs:List V},kD E xs=some vs→py E xs vs
 |[],vs,h=>by cases h;exact .nil
 |x::xs,vs,h=>by
  simp only[kD]at h;split at h
  ·rename_i a ha;split at h
   ·rename_i l hl;cases h;exact .cons (L8 ha) (nV hl)
   ·cases h
  ·cases h
def uR (E:Env):List (Nat×Nat×Od)→List V→Option (List V×List V)
 |[],z=>some (z,[])
 |(o,n,x)::r,z=>match L7 E x with
  |none=>none
  |some a=>match n with
   |1=>match dk o z [a]with
    |none=>none
    |some z'=>match uR E r z' with
     |none=>none
     |some p=>some (p.1,a::p.2)
   |n=>match Nat.beq a.cells.length n with
    |false=>none
    |true=>match dk o z a.cells with
     |none=>none
     |some z'=>match uR E r z' with
      |none=>none
      |some p=>some (p.1,a.cells++p.2)
theorem jm {v:V} (h:isScalar v=true):v.cells=[v]:=by cases v<;>first|rfl|cases h
theorem Tr {v:V} {l:List V} (h:aY (v::l)=true):isScalar v=true∧aY l=true:=by
 simp only[aY]at h;cases hv:isScalar v with
 |false=>simp[hv]at h
 |true=>simp only[hv,E7]at h;exact⟨rfl,h⟩
theorem ae9 {a b:List V} (h:aY (a++b)=true):aY a=true∧aY b=true:=by
 induction a with
 |nil=>exact⟨rfl,h⟩
 |cons v a ih=>
  obtain⟨I,J⟩:=Tr h;obtain⟨h3,h4⟩:=ih J;refine⟨?_,h4⟩;simp only[aY,I,E7];exact h3
theorem zo {E:Env}:∀{ps:List (Nat×Nat×Od)} {z l sd:List V},uR E ps z=some (l,sd)→aY sd=true→pA E ps z l
 |[],z,l,sd,h,_=>by cases h;exact .nil
 |(o,n,x)::r,z,l,sd,h,hs=>by
  simp only[uR]at h;split at h
  ·cases h
  ·rename_i a ha;split at h
   ·split at h
    ·cases h
    ·rename_i z' hz;split at h
     ·cases h
     ·rename_i p hp;cases h;obtain⟨I,J⟩:=Tr hs;exact .cons (L8 ha) (by rw[jm I];(try rfl)) (by rw[jm I];simp[aY,I]) (by rw[jm I];exact hz) (zo (sd:=p.2) hp J)
   ·split at h
    ·cases h
    ·rename_i hb;split at h
     ·cases h
     ·rename_i z' hz;split at h
      ·cases h
      ·rename_i p hp;cases h;obtain⟨I,J⟩:=ae9 hs;exact .cons (L8 ha) hb I hz (zo (sd:=p.2) hp J)
structure bB where
 n:Env→Fz→List Ob→Prop
 x:Nat→Env→Fz→List Ob→Prop
 r:Env→Fz→List Ob→Prop
 p:Env→V→Fz→List Ob→Prop
def dL (ms:List Pa):List Ob:=ms.map fun m=>(some m,.dH true)
theorem zp (a b:List Pa):dL (a++b)=dL a++dL b:=by simp[dL]
def bB.at (Q:bB) (O:Fz) (ad:List Ob):fu where
 n:=fun E h ms=>∃ψ R,O.Le ψ∧SH ψ h (R++(dL ms++ad))∧Q.n E ψ R
 x:=fun i E h ms=>∃ψ R,O.Le ψ∧SH ψ h (R++(dL ms++ad))∧Q.x i E ψ R
 r:=fun E h ms=>∃ψ R,O.Le ψ∧SH ψ h (R++(dL ms++ad))∧Q.r E ψ R
 p:=fun E v h ms=>∃ψ R,O.Le ψ∧SH ψ h (R++(dL ms++ad))∧Q.p E v ψ R
abbrev V.j (n:Int):V:=.int .i64 n
theorem Sub.r:∀{L E:Env},(L.map fun p=>lk p.1 E)=(L.map fun p=>some p.2)→Sub L E
 |[],_,_=>.nil _
 |(_,_)::_,_,h=>.cons (List.cons.inj h).1 (Sub.r (List.cons.inj h).2)
def bB.then (Q:bB) (n:Env→Fz→List Ob→Prop):bB:={Q with n:=n}
theorem bB.up {Q:bB} {O ψ:Fz} {ad:List Ob} (ac:O.Le ψ):(∀E h m,(Q.at ψ ad).n E h m→(Q.at O ad).n E h m)∧(∀i E h m,(Q.at ψ ad).x i E h m→(Q.at O ad).x i E h m)∧(∀E h m,(Q.at ψ ad).r E h m→(Q.at O ad).r E h m)∧∀E v h m,(Q.at ψ ad).p E v h m→(Q.at O ad).p E v h m:=
 ⟨fun _ _ _ ⟨χ,R,I,J⟩=>⟨χ,R,ac.trans I,J⟩,fun _ _ _ _ ⟨χ,R,I,J⟩=>⟨χ,R,ac.trans I,J⟩,fun _ _ _ ⟨χ,R,I,J⟩=>⟨χ,R,ac.trans I,J⟩,fun _ _ _ _ ⟨χ,R,I,J⟩=>⟨χ,R,ac.trans I,J⟩⟩
theorem bB.sh {Q:bB} {O ψ:Fz} {ad:List Ob} {ms:List Pa} (ac:O.Le ψ):(∀E h m,(Q.at ψ (dL ms++ad)).n E h m→((Q.at O ad).sh ms).n E h m)∧(∀i E h m,(Q.at ψ (dL ms++ad)).x i E h m→((Q.at O ad).sh ms).x i E h m)∧(∀E h m,(Q.at ψ (dL ms++ad)).r E h m→((Q.at O ad).sh ms).r E h m)∧∀E v h m,(Q.at ψ (dL ms++ad)).p E v h m→((Q.at O ad).sh ms).p E v h m:=
 ⟨fun _ _ m ⟨χ,R,I,J,h3⟩=>⟨χ,R,ac.trans I,by rw[zp,KK];exact J,h3⟩,fun _ _ _ m ⟨χ,R,I,J,h3⟩=>⟨χ,R,ac.trans I,by rw[zp,KK];exact J,h3⟩,fun _ _ m ⟨χ,R,I,J,h3⟩=>⟨χ,R,ac.trans I,by rw[zp,KK];exact J,h3⟩,fun _ _ _ m ⟨χ,R,I,J,h3⟩=>⟨χ,R,ac.trans I,by rw[zp,KK];exact J,h3⟩⟩
section
variable(F:Nat→Option aN) (K:KX)
def SW (c:IC al) (E:Env) (O:Fz) (R:List Ob) (Q:bB):Prop:=∀ad h,SH O h (R++ad)→WC F K c E h (Q.at O ad)
def SR (rs:List (RS al)) (E:Env) (O:Fz) (R:List Ob) (Q:bB):Prop:=∀ad h,SH O h (R++ad)→WR F K rs E h (Q.at O ad)
def ai (f:Nat) (args:List V) (O:Fz) (R:List Ob) (Rt:V→Fz→List Ob→Prop) (Up:V→Fz→List Ob→Prop):Prop:=
 ∀ad h,SH O h (R++ad)→S8 F f args h (fun v h'=>∃ψ O',O.Le ψ∧SH ψ h' (O'++ad)∧Rt v ψ O') (fun v h'=>∃ψ O',O.Le ψ∧SH ψ h' (O'++ad)∧Up v ψ O')
end
def never:V→Fz→List Ob→Prop:=fun _ _ _=>False
def bk (F:Nat→Option aN) (f:Nat) (args:List V) (O:Fz) (v:V):Prop:=ai F f args O [] (fun r ψ R=>r=v∧ψ=O∧R=[]) never
variable{F:Nat→Option aN} {K:KX} {E:Env} {O:Fz} {R:List Ob} {Q:bB}
theorem WC.up {c:IC al} {h:Hp} {ψ:Fz} {ad:List Ob} (ac:O.Le ψ) (hw:WC F K c E h (Q.at ψ ad)):WC F K c E h (Q.at O ad):=let u:=bB.up ac;WC.mono u.1 u.2.1 u.2.2.1 u.2.2.2 hw
theorem WR.mono {rs:List (RS al)} {h:Hp} {Q Q':fu} (hn:∀E h m,Q.n E h m→Q'.n E h m) (hx:∀i E h m,Q.x i E h m→Q'.x i E h m) (hr:∀E h m,Q.r E h m→Q'.r E h m) (hp:∀E v h m,Q.p E v h m→Q'.p E v h m) (hw:WR F K rs E h Q):WR F K rs E h Q':=
 fun e he=>let⟨r,I,J⟩:=hw e he;⟨r,I.mono hn hx hr hp,J⟩
theorem WR.up {rs:List (RS al)} {h:Hp} {ψ:Fz} {ad:List Ob} (ac:O.Le ψ) (hw:WR F K rs E h (Q.at ψ ad)):WR F K rs E h (Q.at O ad):=let u:=bB.up ac;WR.mono u.1 u.2.1 u.2.2.1 u.2.2.2 hw
namespace SW
theorem sub {c:IC al} {E':Env} (hs:Sub E' E) (hw:SW F K c E' O R Q):SW F K c E O R Q:=fun ad h sh=>WC.sub hs (hw ad h sh)
theorem skip (hq:Q.n E O R):SW F K .skip E O R Q:=fun _ _ sh=>WC.skip ⟨O,R,.refl O,sh,hq⟩
theorem region {rs:List (RS al)} (hw:SR F K rs E O R Q):SW F K (.region rs) E O R Q:=fun ad h sh=>WC.region (hw ad h sh)
theorem seq {a b:IC al} (hw:SW F K a E O R (Q.then fun E' ψ O'=>SW F K b E' ψ O' Q)):SW F K (.seq a b) E O R Q:=fun ad h sh=>
 WC.seq (WC.mono (Q:=(Q.then fun E' ψ O'=>SW F K b E' ψ O' Q).at O ad) (fun _ _ m ⟨_,_,I,J,h3⟩=>let u:=bB.sh (Q:=Q) (ms:=m) I;WC.mono u.1 u.2.1 u.2.2.1 u.2.2.2 (h3 _ _ J)) (fun _ _ _ _ h=>h) (fun _ _ _ h=>h) (fun _ _ _ _ h=>h) (hw ad h sh))
theorem «then»{c:IC al} (M:Env→Fz→List Ob→Prop) (hw:SW F K c E O R (Q.then M)) (hm:∀E' ψ O',O.Le ψ→M E' ψ O'→Q.n E' ψ O'):SW F K c E O R Q:=fun ad h sh=>
 WC.mono (Q:=(Q.then M).at O ad) (fun _ _ _ ⟨ψ,O',I,J,h3⟩=>⟨ψ,O',I,J,hm _ _ _ I h3⟩) (fun _ _ _ _ h=>h) (fun _ _ _ h=>h) (fun _ _ _ _ h=>h) (hw ad h sh)
theorem F6 {c:Od} {a b:IC al} {p:Prop} [Decidable p] (hc:ax E c (.bool (decide p))) (ht:p→SW F K a E O R Q) (hf:¬p→SW F K b E O R Q):SW F K (.cond c a b) E O R Q:=fun ad h sh=>WC.F6 hc (fun hp=>ht hp ad h sh) (fun hp=>hf hp ad h sh)
theorem L3 {c:Od} {a b:IC al} {t:Bool} (hc:ax E c (.bool t)) (ht:t=true→SW F K a E O R Q) (hf:t=false→SW F K b E O R Q):SW F K (.cond c a b) E O R Q:=fun ad h sh=>WC.L3 hc (fun hp=>ht hp ad h sh) (fun hp=>hf hp ad h sh)
theorem block {id:Nat} {b:IC al} (hw:SW F K b E O R {Q with x:=fun i E' ψ O'=>if i=id then Q.n E' ψ O' else Q.x i E' ψ O'}):SW F K (.block id b) E O R Q:=fun ad h sh=>
 WC.block (WC.mono (Q:=({Q with x:=fun i E' ψ O'=>if i=id then Q.n E' ψ O' else Q.x i E' ψ O'}:bB).at O ad) (fun _ _ _ h=>h) (fun i E' h' ms hx=>by
  have pU:∃ψ O',O.Le ψ∧SH ψ h' (O'++(dL ms++ad))∧(if i=id then Q.n E' ψ O' else Q.x i E' ψ O'):=hx;obtain⟨ψ,O',I,J,h3⟩:=pU;show if i=id then(Q.at O ad).n _ _ _ else(Q.at O ad).x i _ _ _
  by_cases hi:i=id
  ·rw[B4 hi]at h3⊢;exact⟨ψ,O',I,J,h3⟩
  ·rw[pg hi]at h3⊢;exact⟨ψ,O',I,J,h3⟩) (fun _ _ _ h=>h) (fun _ _ _ _ h=>h) (hw ad h sh))
theorem exit {id:Nat} (hq:Q.x id E O R):SW F K (.exit id) E O R Q:=fun _ _ sh=>WC.exit ⟨O,R,.refl O,sh,hq⟩
theorem ret (hq:Q.r E O R):SW F K .ret E O R Q:=fun _ _ sh=>WC.ret ⟨O,R,.refl O,sh,hq⟩
theorem loop {b:IC al} (d0:Nat→Env→Fz→List Ob→Prop) {m:Nat} (hi:d0 m E O R) (hb:∀m E' ψ O',O.Le ψ→d0 m E' ψ O'→SW F K b E' ψ O' (Q.then fun tL χ kV=>∃m',m'<m∧d0 m' tL χ kV)):SW F K (.loop b) E O R Q:=fun ad h sh=>by
 refine WC.loop (fun m E' h' ms=>∃ψ O',O.Le ψ∧SH ψ h' (O'++(dL ms++ad))∧d0 m E' ψ O') (m:=m) ⟨O,R,.refl O,sh,hi⟩ fun m E' h' ms ⟨ψ,O',I,J,h3⟩=>?_;have u:=bB.sh (Q:=Q) (ad:=ad) (ms:=ms) I;exact WC.mono (Q:=(Q.then fun tL χ kV=>∃m',m'<m∧d0 m' tL χ kV).at ψ (dL ms++ad)) (fun _ _ m2 ⟨χ,kV,k1,k2,m',k3,k4⟩=>⟨m',k3,χ,kV,I.trans k1,by rw[zp,KK];exact k2,k4⟩) u.2.1 u.2.2.1 u.2.2.2 (hb m E' ψ O' I h3 _ h' J)
end SW
def Fin (O:Fz) (R:List Ob) (P:Fz→List Ob→Prop):Prop:=∀ad h,SH O h (R++ad)→∃ψ O',O.Le ψ∧SH ψ h (O'++ad)∧P ψ O'
namespace Fin
variable{P:Fz→List Ob→Prop}
theorem done (hp:P O R):Fin O R P:=fun _ _ sh=>⟨O,R,.refl O,sh,hp⟩
theorem freeze (i:Nat) {a:Pa} {b:al} (hi:R[i]? =some (some a,b)) (hn:∀ψ,O.Le ψ→ψ a=some b→Fin ψ (R.eraseIdx i) P):Fin O R P:=fun ad h sh=>by
 obtain⟨I,J⟩:=sh.freeze hi;obtain⟨χ,O',k1,k2⟩:=hn _ J (by simp[Fz.put]) ad h I;exact⟨χ,O',J.trans k1,k2⟩
theorem bR (i:Nat) {v:V} {k n:Nat} {cs:List V} {s:Option Pa} (hi:R[i]? =some (s,.cells cs false)) (ho:OV v k n cs s) (hn:∀ψ,O.Le ψ→FS ψ v k n cs→Fin ψ (R.eraseIdx i) P):Fin O R P:=by
 cases s with
 |none=>
  intro ad h sh;have I:SH O h (R.eraseIdx i++ad):=by
   have:=(sh.front hi).erase 0;simpa using this
  exact hn O (.refl O) (ho.fs rfl fun a e=>by cases e) ad h I
 |some a=>exact freeze i hi fun ψ I J=>hn ψ I (ho.fs rfl fun b e=>by cases e;exact J)
theorem drop (i:Nat) (hn:Fin O (R.eraseIdx i) P):Fin O R P:=fun ad h sh=>by
 rcases aqE i R.length with hi|hi
 ·have:=(sh.front (KJ hi)).erase 0;exact hn ad h (by simpa using this)
 ·rw[List.eraseIdx_of_length_le hi]at hn;exact hn ad h sh
theorem none (hp:P O []):Fin O R P:=fun ad h sh=>⟨O,[],.refl O,sh.pick (fun j=>R.length+j) (fun i o hi=>by rw[apG (by omega),aqT];exact hi) (fun _ _ _ _ e=>by omega),hp⟩
theorem only(i:Nat) {o:Ob} (hp:P O [o]) (hi:R[i]? =some o:=by rfl):Fin O R P:=fun ad h sh=>⟨O,[o],.refl O,(sh.front hi).pick (fun j=>if j=0 then 0 else(R.eraseIdx i).length+j) (fun j x hx=>by
 cases j with
 |zero=>exact hx
 |succ j=>
  rw[pg (by omega)];simp only[aqI,aqa,apX]at hx;rw[show(R.eraseIdx i).length+(j+1)=(R.eraseIdx i).length+j+1 by omega,apX,apG (by omega),aqT];exact hx) (fun a b _ _ e=>by split at e<;>split at e<;>omega),hp⟩
end Fin
theorem SW.fin {c:IC al} (hf:Fin O R fun ψ O'=>SW F K c E ψ O' Q):SW F K c E O R Q:=fun ad h sh=>let⟨_,_,I,J,h3⟩:=hf ad h sh;WC.up I (h3 ad h J)
theorem SR.fin {rs:List (RS al)} (hf:Fin O R fun ψ O'=>SR F K rs E ψ O' Q):SR F K rs E O R Q:=fun ad h sh=>let⟨_,_,I,J,h3⟩:=hf ad h sh;WR.up I (h3 ad h J)
theorem SW.bG {b:IC al} (d0:Nat→Env→Fz→List Ob→Prop) {m:Nat} (hi:Fin O R (d0 m E)) (hb:∀m E' ψ O',O.Le ψ→d0 m E' ψ O'→SW F K b E' ψ O' (Q.then fun tL χ kV=>∃m',m'<m∧Fin χ kV (d0 m' tL))):SW F K (.loop b) E O R Q:=fun ad h sh=>by
 obtain⟨HQ,O1,g1,g2,l8⟩:=hi ad h sh;refine WC.up g1 ?_;refine WC.loop (fun m E' h' ms=>∃ψ O',HQ.Le ψ∧SH ψ h' (O'++(dL ms++ad))∧d0 m E' ψ O') (m:=m) ⟨HQ,O1,.refl HQ,g2,l8⟩ fun m E' h' ms ⟨ψ,O',I,J,h3⟩=>?_;have u:=bB.sh (Q:=Q) (ad:=ad) (ms:=ms) I;refine WC.mono (Q:=(Q.then fun tL χ kV=>∃m',m'<m∧Fin χ kV (d0 m' tL)).at ψ (dL ms++ad)) ?_ u.2.1 u.2.2.1 u.2.2.2 (hb m E' ψ O' (g1.trans I) h3 _ h' J);rintro tL X2 m2 ⟨χ,kV,k1,k2,m',k3,k4⟩;obtain⟨X3,O3,np,oL,tM⟩:=k4 _ X2 k2;exact⟨m',k3,X3,O3,(I.trans k1).trans np,by rw[zp,KK];exact oL,tM⟩
theorem SW.xk {c:IC al} (M:Env→Fz→List Ob→Prop) (hw:SW F K c E O R (Q.then fun E' ψ O'=>Fin ψ O' (M E'))) (hm:∀E' ψ O',O.Le ψ→M E' ψ O'→Q.n E' ψ O'):SW F K c E O R Q:=fun ad h sh=>
 WC.mono (Q:=(Q.then fun E' ψ O'=>Fin ψ O' (M E')).at O ad) (fun _ h' _ ⟨_,_,I,J,h3⟩=>let⟨χ,O3,np,oL,tM⟩:=h3 _ h' J;⟨χ,O3,I.trans np,oL,hm _ _ _ (I.trans np) tM⟩) (fun _ _ _ _ h=>h) (fun _ _ _ h=>h) (fun _ _ _ _ h=>h) (hw ad h sh)
def kE (E:Env) (O:Fz) (R:List Ob) (res:List (Pa×Option (Option Nat))) (l:List V):Prop:=∀ad h,SH O h (R++ad)→kC E h res l
theorem kE.nil:kE E O R [] []:=fun _ _ _=>.nil
theorem kE.t {n:Nat} {v:V} {r:List (Pa×Option (Option Nat))} {l:List V} (hv:lk n E=some v) (hr:kE E O R r l):kE E O R ((pa n,none)::r) (v::l):=fun ad h sh=>.t hv (hr ad h sh)
theorem kE.fK {n:Nat} {a:Pa} {o:Nat} {v:V} {r:List (Pa×Option (Option Nat))} {l:List V} (i:Nat) {cs:List V} (hv:lk n E=some (.ptr a o)) (hi:R[i]? =some (some a,.cells cs false)) (hx:cs[o]? =some v) (hr:kE E O R r l):kE E O R ((pa n,some none)::r) (v::l):=fun ad h sh=>
 .c hv (by have:=(gf.of (sh.hC hi) rfl).one hx;rwa [ap7]at this) (hr ad h sh)
theorem kE.cN {n m:Nat} {a:Pa} {o:Nat} {l':List V} {r:List (Pa×Option (Option Nat))} {l:List V} (i:Nat) {cs:List V} (hv:lk n E=some (.ptr a o)) (hi:R[i]? =some (some a,.cells cs false)) (hx:(cs.drop o).take m=l') (hl:l'.length=m) (hr:kE E O R r l):kE E O R ((pa n,some (some m))::r) (.agg l'::l):=fun ad h sh=>
 .c hv (by have:=(gf.of (sh.hC hi) rfl).agg (i:=o) hx hl;rwa [ap7]at this) (hr ad h sh)
def sU (res:List (Pa×Option (Option Nat))) (Rt Up:V→Fz→List Ob→Prop):bB where
 n:=fun E O R=>∃l,kE E O R res l∧Fin O R (Rt (oneOf l))
 x:=fun _ _ _ _=>False
 r:=fun E O R=>∃l,kE E O R res l∧Fin O R (Rt (oneOf l))
 p:=fun _=>Up
theorem lG {O:Fz} {R ad:List Ob}:∀(ms:List Pa) {h:Hp},SH O h (R++(dL ms++ad))→mO ms h∧SH O (kill ms h) (R++ad)
 |[],h,sh=>⟨trivial,sh⟩
 |m::ms,h,sh=>by
  have e:R++(dL (m::ms)++ad)=R++((some m,al.dH true)::(dL ms++ad)):=by simp[dL]
  rw[e]at sh;have hi:(R++((some m,al.dH true)::(dL ms++ad)))[R.length]? =some (some m,.dH true):=by rw[apG (B5 _),aqq];(try rfl)
  have I:=(sh.own _ _ _ hi).1;have J:=(sh.put hi (.dH false)).erase R.length;have e2:((R++((some m,al.dH true)::(dL ms++ad))).set R.length (some m,.dH false)).eraseIdx R.length=R++(dL ms++ad):=by
   rw[List.set_append,pg (Nat.lt_irrefl _),aqq,List.set_cons_zero,List.eraseIdx_append_of_length_le (B5 _),aqq,List.eraseIdx_cons_zero]
  rw[e2]at J;obtain⟨k1,k2⟩:=lG ms J;exact⟨⟨I,k1⟩,k2⟩
theorem afa {f:Nat} {fn:hZ} {args:List V} {Rt Up:V→Fz→List Ob→Prop} (hf:F f=some (.code fn)) (hw:SW F ⟨⟨f,fn.nt,false,none⟩,fun _=>True⟩ fn.body (ie 0 args) O R (sU fn.res Rt Up)):ai F f args O R Rt Up:=fun ad h sh=>by
 refine aeU hf (WC.mono (Q:=(sU fn.res Rt Up).at O ad) ?_ ?_ ?_ ?_ (hw ad h sh))
 ·rintro E' h' ms ⟨ψ,O',I,J,l,h3,h4⟩;obtain⟨ka,ks⟩:=lG ms J;obtain⟨χ,kV,k1,k2,k3⟩:=h4 ad _ ks;exact⟨ka,l,h3 ad _ ks,χ,kV,I.trans k1,k2,k3⟩
 ·rintro i E' h' ms ⟨_,_,_,_,h3⟩;exact h3.elim
 ·rintro E' h' ms ⟨ψ,O',I,J,l,h3,h4⟩;obtain⟨ka,ks⟩:=lG ms J;obtain⟨χ,kV,k1,k2,k3⟩:=h4 ad _ ks;exact⟨ka,l,h3 ad _ ks,χ,kV,I.trans k1,k2,k3⟩
 ·rintro E' v h' ms ⟨ψ,O',I,J,h3⟩;obtain⟨ka,ks⟩:=lG ms J;exact⟨ka,ψ,O',I,ks,h3⟩
theorem ai.same {f:Nat} {args:List V} {Rt:V→List Ob→Prop} {Up:V→Fz→List Ob→Prop} (hc:ai F f args O R (fun r _ O'=>Rt r O') Up):ai F f args O R (fun r ψ O'=>ψ=O∧Rt r O') Up:=fun ad h sh=>by
 rcases hc ad h sh with⟨r,h',I,ψ,O',J,h3,h4⟩|h5
 ·exact .inl ⟨r,h',I,O,O',.refl O,h3.less J,rfl,h4⟩
 ·exact .inr h5
theorem ai.ak {f:Nat} {args:List V} {v:V} (hc:ai F f args O [] (fun r _ _=>r=v) never):bk F f args O v:=fun ad h sh=>by
 rcases hc ad h sh with⟨r,h',I,ψ,O',J,h3,rfl⟩|⟨_,_,_,_,_,_,_,h⟩
 ·refine .inl ⟨r,h',I,O,[],.refl O,?_,rfl,rfl,rfl⟩;have:=h3.less J;refine this.pick (fun j=>O'.length+j) (fun i o hi=>?_) (fun _ _ _ _ e=>by omega);rw[apG (by omega),aqT];exact hi
 ·exact h.elim
theorem bk.L9 (i:Nat) {f:Nat} {args:List V} {u v:V} {k n:Nat} {cs:List V} {s:Option Pa} (hi:R[i]? =some (s,.cells cs false)) (ho:OV v k n cs s) (hc:∀ψ,O.Le ψ→FS ψ v k n cs→bk F f args ψ u):ai F f args O R (fun r ψ O'=>r=u∧ψ=O∧O'=R) never:=fun ad h sh=>by
 cases s with
 |none=>
  rcases hc O (.refl O) (ho.fs rfl fun a e=>by cases e) (R++ad) h (by simpa using sh)with⟨r,h',I,_,_,_,h3,rfl,rfl,rfl⟩|⟨_,_,_,_,_,_,_,h⟩
  ·exact .inl ⟨r,h',I,_,_,.refl _,by simpa using h3,rfl,rfl,rfl⟩
  ·exact h.elim
 |some a=>
  obtain⟨s1,s2⟩:=sh.freeze hi;rcases hc _ s2 (ho.fs rfl fun b e=>by cases e;simp[Fz.put]) (R.eraseIdx i++ad) h (by simpa using s1)with⟨r,h',I,_,_,_,h3,rfl,rfl,rfl⟩|⟨_,_,_,_,_,_,_,h⟩
  ·exact .inl ⟨r,h',I,_,_,.refl _,sh.ae7 hi (by simpa using h3),rfl,rfl,rfl⟩
  ·exact h.elim
end Go.Ev
namespace Go.Ev
inductive Op where
 |m (d s:Nat)
 |v (d:Nat) (x:V)
 |f (d n s:Nat)
 |n (d s:Nat)
 |e (d s i:Nat)
 |r (x:RS al)
noncomputable section
abbrev Op.den:Op→RS al
 |.m d s=>.op ⟨some (pa d),qA (.t (pa s)),none⟩
 |.v d y=>.op ⟨some (pa d),qA (.c y),none⟩
 |.f d k s=>.op ⟨some (pa d),qC k (.t (pa s)),none⟩
 |.n d s=>.op ⟨some (pa d),jf (.t (pa s)),none⟩
 |.e d s i=>.op ⟨some (pa d),KU (.t (pa s)) i,none⟩
 |.r x=>x
abbrev Op.aI:List Op→List (RS al)
 |[]=>[]
 |x::l=>x.den::Op.aI l
end
abbrev qW:List Op→Env→(Env→Prop)→(List Op→Env→Prop)→Prop
 |[],E,z,_=>z E
 |.m d s::r,E,z,k=>match lk s E with
  |some v=>qW r ((d,v)::E) z k
  |none=>k (.m d s::r) E
 |.v d y::r,E,z,k=>qW r ((d,y)::E) z k
 |.f d n s::r,E,z,k=>match lk s E with
  |some (.ptr a o)=>qW r ((d,.ptr a (o+n))::E) z k
  |_=>k (.f d n s::r) E
 |.n d s::r,E,z,k=>match lk s E with
  |some (.ptr a o)=>qW r ((d,.ptr a o)::E) z k
  |_=>k (.n d s::r) E
 |.e d s i::r,E,z,k=>match lk s E with
  |some (.aM l)=>match nth l i with
   |some v=>qW r ((d,v)::E) z k
   |none=>k (.e d s i::r) E
  |_=>k (.e d s i::r) E
 |.r x::r,E,_,k=>k (.r x::r) E
abbrev SA (F:Nat→Option aN) (K:KX) (l:List Op) (E:Env) (O:Fz) (R:List Ob) (Q:bB):Prop:=qW l E (fun E'=>Q.n E' O R) fun l' E'=>SR F K (Op.aI l') E' O R Q
variable{F:Nat→Option aN} {K:KX} {O:Fz} {R:List Ob} {Q:bB}
theorem S.r:∀{l:List Op} {E:Env},SA F K l E O R Q→SR F K (Op.aI l) E O R Q
 |[],_,h=>fun _ _ sh=>WR.nil ⟨O,R,.refl O,sh,h⟩
 |.m d s::r,E,h=>by
  rw[SA,qW]at h;split at h
  ·exact fun W y sh=>ad.mv .none (.t ‹_›) (S.r h W y sh)
  ·exact h
 |.v d y::r,E,h=>fun W _ sh=>ad.mv .none .c (S.r (l:=r) (E:=(d,y)::E) h W _ sh)
 |.f d n s::r,E,h=>by
  rw[SA,qW]at h;split at h
  ·exact fun W y sh=>ad.aE .none (.t ‹_›) (S.r h W y sh)
  ·exact h
 |.n d s::r,E,h=>by
  rw[SA,qW]at h;split at h
  ·exact fun W y sh=>ad.nil? .none (.t ‹_›) (S.r h W y sh)
  ·exact h
 |.e d s i::r,E,h=>by
  rw[SA,qW]at h;split at h
  ·split at h
   ·exact fun W y sh=>ad.ext .none (.t ‹_›) ‹_› (S.r h W y sh)
   ·exact h
  ·exact h
 |.r x::r,E,h=>h
end Go.Ev
namespace Go.Ev
def Src (O:Fz) (R:List Ob) (k:Nat) (x:V) (m:Nat) (xs:List V):Prop:=xs.length=m*k∧∀ad h,SH O h (R++ad)→j9 x=some m∧ln h k m x=some xs
theorem Src.f {O:Fz} {R:List Ob} {k m:Nat} {x:V} {xs:List V} (hs:FS O x k m xs):Src O R k x m xs:=⟨hs.1,fun _ _ sh=>hs.src sh⟩
theorem Src.s {O:Fz} {R:List Ob} {l:List UInt8}:Src O R 1 (.str l) l.length (l.map c5):=⟨by simp,fun _ _ _=>⟨rfl,by
 simp only[ln,eQ,E7];rw[zh (B5 _),ap2]⟩⟩
theorem Src.new {O:Fz} {R:List Ob} {k m:Nat} {a:Pa} {l:List V} {c:hW} (i:Nat) (hl:l.length=m*k) (hi:R[i]? =some (some a,.cells l false):=by rfl):Src O R k (.sl a 0 m c) m l:=⟨hl,fun _ _ sh=>⟨rfl,(gf.of (sh.hC hi) rfl).all hl⟩⟩
theorem lH (k:IntKind) (n:Int):isScalar (.int k n)=true:=rfl
theorem pC (s:List UInt8):isScalar (.str s)=true:=rfl
theorem mR (b:Bool):isScalar (.bool b)=true:=rfl
theorem uS (a:Pa) (o:Nat):isScalar (.ptr a o)=true:=rfl
theorem uT (a:Pa) (o n:Nat) (c:hW):isScalar (.sl a o n c)=true:=rfl
theorem pD:isScalar (.no .sl)=true:=rfl
theorem uU (a:Pa):isScalar (.map a)=true:=rfl
theorem uV (f:Nat) (c:List V):isScalar (.fn f c)=true:=rfl
namespace S
variable{F:Nat→Option aN} {K:KX} {E:Env} {O:Fz} {R:List Ob} {Q:bB} {rs:List Op} {d:Nat} {g:Option (Pa×Bool)}
theorem no {sm:bz} (hw:az E g .no) (hn:SA F K rs ((d,dm)::E) O R Q):SR F K (.op ⟨some (pa d),sm,g⟩::Op.aI rs) E O R Q:=fun W h sh=>ad.no hw (S.r hn W h sh)
theorem F7 {sm:bz} (hw:az E g .no) (hd:lk d E=some dm) (hn:SA F K rs E O R Q):SR F K (.cf ⟨some (pa d),sm,g⟩::Op.aI rs) E O R Q:=fun W h sh=>ad.F7 hw hd (S.r hn W h sh)
theorem mv {x:Od} {a:V} (hn:SA F K rs ((d,a)::E) O R Q) (hx:ax E x a:=by first|exact .t rfl|exact .c) (hw:az E g .yes:=by first|exact .none|exact .yes rfl):SR F K (.op ⟨some (pa d),qA x,g⟩::Op.aI rs) E O R Q:=fun W h sh=>ad.mv hw hx (S.r hn W h sh)
theorem build {z l sd:List V} {ps:List (Nat×Nat×Od)} (hn:SA F K rs ((d,.agg l)::E) O R Q) (hf:uR E ps z=some (l,sd):=by rfl) (d3:aY sd=true:=by first|rfl|simp[aY,V.cells,lH,pC,mR,uS,uT,pD,uU,uV, *]) (hw:az E g .yes:=by first|exact .none|exact .yes rfl):
 SR F K (.op ⟨some (pa d),aL z ps,g⟩::Op.aI rs) E O R Q:=fun W h sh=>ad.build hw (zo hf d3) (S.r hn W h sh)
theorem nil? {x:Od} {a:Pa} {o:Nat} (hn:SA F K rs ((d,.ptr a o)::E) O R Q) (hx:ax E x (.ptr a o):=by exact .t rfl) (hw:az E g .yes:=by first|exact .none|exact .yes rfl):SR F K (.op ⟨some (pa d),jf x,g⟩::Op.aI rs) E O R Q:=fun W h sh=>ad.nil? hw hx (S.r hn W h sh)
theorem bin {op:BinOp} {q:cV} {x y:Od} {a b v:V} (hn:SA F K rs ((d,v)::E) O R Q) (hx:ax E x a:=by first|exact .t rfl|exact .c) (hy:ax E y b:=by first|exact .t rfl|exact .c) (hv:cg op q a b=some v:=by first|exact L2|exact Te|exact Tf|exact Tg|exact Th|exact Ti|exact Tj|exact Tk|exact ei (by omega) (by omega)|exact ig (by omega) (by omega)|exact F5 (by omega) (by omega)|exact sS (by omega)|assumption|rfl) (hw:az E g .yes:=by first|exact .none|exact .yes rfl):
 SR F K (.op ⟨some (pa d),a1 op q x y,g⟩::Op.aI rs) E O R Q:=fun W h sh=>ad.bin hw hx hy hv (S.r hn W h sh)
theorem un {op:UnOp} {x:Od} {a v:V} (hn:SA F K rs ((d,v)::E) O R Q) (hx:ax E x a:=by first|exact .t rfl|exact .c) (hv:yX op a=some v:=by rfl) (hw:az E g .yes:=by first|exact .none|exact .yes rfl):
 SR F K (.op ⟨some (pa d),dS op x,g⟩::Op.aI rs) E O R Q:=fun W h sh=>ad.un hw hx hv (S.r hn W h sh)
theorem qV {k j:IntKind} {x:Od} {n:Int} (hn:SA F K rs ((d,.int k (e6 k n))::E) O R Q) (hx:ax E x (.int j n):=by first|exact .t rfl|exact .c) (hw:az E g .yes:=by first|exact .none|exact .yes rfl):
 SR F K (.op ⟨some (pa d),cH k x,g⟩::Op.aI rs) E O R Q:=fun W h sh=>ad.qV hw hx (S.r hn W h sh)
theorem L0 {t:Nat} {x:Od} {a:V} (hn:SA F K rs ((d,.iface t a)::E) O R Q) (hx:ax E x a:=by first|exact .t rfl|exact .c) (hw:az E g .yes:=by first|exact .none|exact .yes rfl):
 SR F K (.op ⟨some (pa d),Ca t x,g⟩::Op.aI rs) E O R Q:=fun W h sh=>ad.L0 hw hx (S.r hn W h sh)
theorem FX {f:Nat} {xs:List Od} {vs:List V} (hn:SA F K rs ((d,.fn f vs)::E) O R Q) (hx:kD E xs=some vs:=by rfl) (hw:az E g .yes:=by first|exact .none|exact .yes rfl):
 SR F K (.op ⟨some (pa d),qB f xs,g⟩::Op.aI rs) E O R Q:=fun W h sh=>ad.FX hw (nV hx) (S.r hn W h sh)
theorem aE {off:Nat} {x:Od} {a:Pa} {o:Nat} (hn:SA F K rs ((d,.ptr a (o+off))::E) O R Q) (hx:ax E x (.ptr a o):=by exact .t rfl) (hw:az E g .yes:=by first|exact .none|exact .yes rfl):
 SR F K (.op ⟨some (pa d),qC off x,g⟩::Op.aI rs) E O R Q:=fun W h sh=>ad.aE hw hx (S.r hn W h sh)
theorem len {x:Od} {a:V} {n:Nat} (hn:SA F K rs ((d,.int .i64 (n:Int))::E) O R Q) (hx:ax E x a:=by first|exact .t rfl|exact .c) (hl:sE a=some (.int .i64 (n:Int)):=by first|exact FS.len (by assumption)|exact OV.len (by assumption)|rfl) (hw:az E g .yes:=by first|exact .none|exact .yes rfl):
 SR F K (.op ⟨some (pa d),c6 x,g⟩::Op.aI rs) E O R Q:=fun W h sh=>ad.pu hw (fun e he=>by rw[hx e he];exact hl) (S.r hn W h sh)
theorem cD {x:Od} {s:List UInt8} (hn:SA F K rs ((d,.int .i64 (s.length:Int))::E) O R Q) (hx:ax E x (.str s):=by first|exact .t rfl|exact .c) (hw:az E g .yes:=by first|exact .none|exact .yes rfl):
 SR F K (.op ⟨some (pa d),cq x,g⟩::Op.aI rs) E O R Q:=fun W h sh=>ad.cD hw hx (S.r hn W h sh)
theorem iS {x i:Od} {s:List UInt8} {j:Nat} {k:IntKind} {b:UInt8} (hj:s[j]? =some b) (hn:SA F K rs ((d,.int .u8 (b.toNat:Int))::E) O R Q) (hx:ax E x (.str s):=by first|exact .t rfl|exact .c) (hi:ax E i (.int k (j:Int)):=by first|exact .t rfl|exact .c) (hw:az E g .yes:=by first|exact .none|exact .yes rfl):
 SR F K (.op ⟨some (pa d),iy x i,g⟩::Op.aI rs) E O R Q:=fun W h sh=>ad.iS hw hx hi hj (S.r hn W h sh)
theorem je {x:Od} {lo hi:Option Od} {a v:V} {kU b8:Option V} (hv:Go.Ev.je a kU b8=some v) (hn:SA F K rs ((d,v)::E) O R Q) (hx:ax E x a:=by first|exact .t rfl|exact .c) (I:jl E lo kU:=by first|exact .none|exact .some (.t rfl)|exact .some .c) (J:jl E hi b8:=by first|exact .none|exact .some (.t rfl)|exact .some .c) (hw:az E g .yes:=by first|exact .none|exact .yes rfl):
 SR F K (.op ⟨some (pa d),sD x lo hi,g⟩::Op.aI rs) E O R Q:=fun W h sh=>ad.je hw hx I J hv (S.r hn W h sh)
theorem slice {s:Nat} {x:Od} {lo hi mx:Option Od} {a v:V} {kU b8 p5:Option V} (hv:ef s a kU b8 p5=some v) (hn:SA F K rs ((d,v)::E) O R Q) (hx:ax E x a:=by first|exact .t rfl|exact .c) (I:jl E lo kU:=by first|exact .none|exact .some (.t rfl)|exact .some .c) (J:jl E hi b8:=by first|exact .none|exact .some (.t rfl)|exact .some .c) (h3:jl E mx p5:=by first|exact .none|exact .some (.t rfl)|exact .some .c) (hw:az E g .yes:=by first|exact .none|exact .yes rfl):
 SR F K (.op ⟨some (pa d),eE s x lo hi mx,g⟩::Op.aI rs) E O R Q:=fun W h sh=>ad.slice hw hx I J h3 hv (S.r hn W h sh)
theorem pB {m:Bool} {x y:Od} {a b:V} {v:V} (hv:mm m a b=some v) (hn:SA F K rs ((d,v)::E) O R Q) (hx:ax E x a:=by first|exact .t rfl|exact .c) (hy:ax E y b:=by first|exact .t rfl|exact .c) (hw:az E g .yes:=by first|exact .none|exact .yes rfl):
 SR F K (.op ⟨some (pa d),ll m x [y],g⟩::Op.aI rs) E O R Q:=fun W h sh=>ad.pB hw hx hy hv (S.r hn W h sh)
theorem aX {x:Od} {p u:V} {xs:List V} (hn:SA F K rs ((d,u)::E) O R Q) (hx:ax E x p:=by exact .t rfl) (hp:EP O p xs:=by assumption) (hu:xs[0]? =some u:=by rfl) (hw:az E g .yes:=by first|exact .none|exact .yes rfl):
 SR F K (.op ⟨some (pa d),bY none x,g⟩::Op.aI rs) E O R Q:=fun W h sh=>ad.load hw hx (hp.L6 hu sh) (S.r hn W h sh)
theorem bP {x:Od} {p:V} {xs l:List V} {n:Nat} (hn:SA F K rs ((d,.agg l)::E) O R Q) (hx:ax E x p:=by exact .t rfl) (hp:EP O p xs:=by assumption) (hl:xs.take n=l:=by rfl) (h1:l.length=n:=by rfl) (hw:az E g .yes:=by first|exact .none|exact .yes rfl):
 SR F K (.op ⟨some (pa d),bY (some n) x,g⟩::Op.aI rs) E O R Q:=fun W h sh=>ad.load hw hx (hp.cl hl h1 sh) (S.r hn W h sh)
theorem ld {x:Od} {a:Pa} {o:Nat} {u:V} {cs:List V} (i:Nat) (hn:SA F K rs ((d,u)::E) O R Q) (hx:ax E x (.ptr a o):=by exact .t rfl) (hi:R[i]? =some (some a,.cells cs false):=by rfl) (hu:cs[o]? =some u:=by rfl) (hw:az E g .yes:=by first|exact .none|exact .yes rfl):
 SR F K (.op ⟨some (pa d),bY none x,g⟩::Op.aI rs) E O R Q:=fun W h sh=>ad.load hw hx (by have:=(gf.of (sh.hC hi) rfl).one hu;rwa [ap7]at this) (S.r hn W h sh)
theorem af {x:Od} {a:Pa} {o n:Nat} {cs l:List V} (i:Nat) (hn:SA F K rs ((d,.agg l)::E) O R Q) (hx:ax E x (.ptr a o):=by exact .t rfl) (hi:R[i]? =some (some a,.cells cs false):=by rfl) (hl:(cs.drop o).take n=l:=by rfl) (h1:l.length=n:=by rfl) (hw:az E g .yes:=by first|exact .none|exact .yes rfl):
 SR F K (.op ⟨some (pa d),bY (some n) x,g⟩::Op.aI rs) E O R Q:=fun W h sh=>ad.load hw hx (by have:=(gf.of (sh.hC hi) rfl).agg hl h1;rwa [ap7]at this) (S.r hn W h sh)
theorem afb {k n j:Nat} {x i:Od} {v:V} {cs:List V} {q:IntKind} (hs:FS O v k n cs) (hj:j<n) (hn:∀p,EP O p ((cs.drop (j*k)).take k)→SA F K rs ((d,p)::E) O R Q) (hx:ax E x v:=by first|exact .t rfl|exact .c) (hi:ax E i (.int q (j:Int)):=by first|exact .t rfl|exact .c) (hw:az E g .yes:=by first|exact .none|exact .yes rfl):
 SR F K (.op ⟨some (pa d),bA none k x i,g⟩::Op.aI rs) E O R Q:=fun W h sh=>by
 obtain⟨a,o,c,rfl,J⟩:=hs.at hj;exact ad.zk hw hx hi hj (S.r (hn _ J) W h sh)
theorem bl {off:Nat} {x:Od} {p:V} {xs:List V} (hp:EP O p xs) (hn:∀q,EP O q (xs.drop off)→SA F K rs ((d,q)::E) O R Q) (hx:ax E x p:=by exact .t rfl) (hw:az E g .yes:=by first|exact .none|exact .yes rfl):
 SR F K (.op ⟨some (pa d),qC off x,g⟩::Op.aI rs) E O R Q:=fun W h sh=>by
 obtain⟨a,o,rfl,J⟩:=hp.field off;exact ad.aE hw hx (S.r (hn _ J) W h sh)
theorem zk {k n j:Nat} {x i:Od} {v:V} {cs:List V} {s:Option Pa} {q:IntKind} (ho:OV v k n cs s) (hj:j<n) (hn:∀a,s=some a→SA F K rs ((d,.ptr a (j*k))::E) O R Q) (hx:ax E x v:=by exact .t rfl) (hi:ax E i (.int q (j:Int)):=by first|exact .t rfl|exact .c) (hw:az E g .yes:=by first|exact .none|exact .yes rfl):
 SR F K (.op ⟨some (pa d),bA none k x i,g⟩::Op.aI rs) E O R Q:=fun W h sh=>by
 rcases ho.2.2 with⟨_,rfl,_⟩|⟨a,rfl,rfl⟩|⟨a,rfl,rfl⟩
 ·omega
 ·exact ad.zk hw hx hi hj (by rw[ap7];exact S.r (hn a rfl) W h sh)
 ·exact ad.zk hw hx hi hj (by rw[ap7];exact S.r (hn a rfl) W h sh)
theorem CF {k n o j:Nat} {x i:Od} {a:Pa} {c:hW} {q:IntKind} (hj:j<n) (hn:SA F K rs ((d,.ptr a (o+j*k))::E) O R Q) (hx:ax E x (.sl a o n c):=by exact .t rfl) (hi:ax E i (.int q (j:Int)):=by first|exact .t rfl|exact .c) (hw:az E g .yes:=by first|exact .none|exact .yes rfl):
 SR F K (.op ⟨some (pa d),bA none k x i,g⟩::Op.aI rs) E O R Q:=fun W h sh=>ad.zk hw hx hi hj (S.r hn W h sh)
theorem zl {k len o j:Nat} {x i:Od} {a:Pa} {q:IntKind} (hj:j<len) (hn:SA F K rs ((d,.ptr a (o+j*k))::E) O R Q) (hx:ax E x (.ptr a o):=by exact .t rfl) (hi:ax E i (.int q (j:Int)):=by first|exact .t rfl|exact .c) (hw:az E g .yes:=by first|exact .none|exact .yes rfl):
 SR F K (.op ⟨some (pa d),bA (some len) k x i,g⟩::Op.aI rs) E O R Q:=fun W h sh=>ad.zl hw hx hi hj (S.r hn W h sh)
theorem FW {x:Od} {v:V} {n:Nat} {s:List UInt8} (hs:∀W h,SH O h (R++W)→Sl h v 1 n (s.map c5)) (hn:SA F K rs ((d,.str s)::E) O R Q) (hx:ax E x v:=by first|exact .t rfl|exact .c) (hw:az E g .yes:=by first|exact .none|exact .yes rfl):
 SR F K (.op ⟨some (pa d),dT x,g⟩::Op.aI rs) E O R Q:=fun W h sh=>ad.ae2 hw hx (hs W h sh) (S.r hn W h sh)
theorem alloc {z:List V} (hn:∀a,SA F K rs ((d,.ptr a 0)::E) O ((some a,.cells z false)::R) Q) (hw:az E g .yes:=by first|exact .none|exact .yes rfl):SR F K (.op ⟨some (pa d),ar z,g⟩::Op.aI rs) E O R Q:=fun W _ sh=>ad.alloc hw (S.r (hn _) W _ (sh.alloc _))
theorem box {x:Od} {v:V} (hn:∀a,SA F K rs ((d,.ptr a 0)::E) O ((some a,.cells v.cells false)::R) Q) (hx:ax E x v:=by first|exact .t rfl|exact .c) (hs:aY v.cells=true:=by first|rfl|simp[aY,V.cells,lH,pC,mR,uS,uT,pD,uU,uV, *]) (hw:az E g .yes:=by first|exact .none|exact .yes rfl):
 SR F K (.op ⟨some (pa d),Fc x,g⟩::Op.aI rs) E O R Q:=fun W _ sh=>ad.box hw hx hs (S.r (hn _) W _ (sh.alloc _))
theorem a8 {z l sd:List V} {n:Nat} {ps:List (Nat×Nat×Od)} (hn:∀a,SA F K rs ((d,.sl a 0 n (.ex n))::E) O ((some a,.cells l false)::R) Q) (hf:uR E ps z=some (l,sd):=by rfl) (d3:aY sd=true:=by first|rfl|simp[aY,V.cells,lH,pC,mR,uS,uT,pD,uU,uV, *]) (hs:aY l=true:=by first|rfl|simp[aY,V.cells,lH,pC,mR,uS,uT,pD,uU,uV, *]) (hw:az E g .yes:=by first|exact .none|exact .yes rfl):
 SR F K (.op ⟨some (pa d),aG z n ps,g⟩::Op.aI rs) E O R Q:=fun W _ sh=>ad.a8 hw (zo hf d3) hs (S.r (hn _) W _ (sh.alloc _))
theorem FY {x:Od} {s:List UInt8} (hn:∀a,OV (.sl a 0 s.length (.un 1)) 1 s.length (s.map c5) (some a)→SA F K rs ((d,.sl a 0 s.length (.un 1))::E) O ((some a,.cells (s.map c5) false)::R) Q) (hx:ax E x (.str s):=by first|exact .t rfl|exact .c) (hw:az E g .yes:=by first|exact .none|exact .yes rfl):
 SR F K (.op ⟨some (pa d),gx x,g⟩::Op.aI rs) E O R Q:=fun W h sh=>ad.FY hw hx (S.r (hn _ ⟨by simp,L1 s,.inr (.inl ⟨_,rfl,rfl⟩)⟩) W _ (sh.alloc _))
theorem xh {z:List V} {tJ:Nat} {l c:Od} {n m:Nat} {k j:IntKind} (rJ:n≤m) (hm:m≤1073741824) (hb:tJ≤65536) (hn:∀a,SA F K rs ((d,.sl a 0 n (.ex m))::E) O ((some a,.cells (dI z m) false)::R) Q) (hl:ax E l (.int k (n:Int)):=by first|exact .t rfl|exact .c) (hc:ax E c (.int j (m:Int)):=by first|exact .t rfl|exact .c) (hw:az E g .yes:=by first|exact .none|exact .yes rfl):
 SR F K (.op ⟨some (pa d),jg z tJ l c,g⟩::Op.aI rs) E O R Q:=fun W h sh=>ad.xh hw hl hc rJ (by omega) (by have:=aq4 hb hm;omega) (S.r (hn _) W _ (sh.alloc _))
theorem store {n:Nat} {y x:Od} {a:Pa} {o:Nat} {v:V} {cs l':List V} (i:Nat) (hn:SA F K rs E O (R.set i (some a,.cells l' false)) Q) (ha:ax E y (.ptr a o):=by exact .t rfl) (hx:ax E x v:=by first|exact .t rfl|exact .c) (hi:R[i]? =some (some a,.cells cs false):=by rfl) (cI:dk o cs v.cells=some l':=by rfl) (hl:Nat.beq v.cells.length n=true:=by rfl) (hs:aY v.cells=true:=by first|rfl|simp[aY,V.cells,lH,pC,mR,uS,uT,pD,uU,uV, *]) (hw:az E g .yes:=by first|exact .none|exact .yes rfl):
 SR F K (.op ⟨none,gy n y x,g⟩::Op.aI rs) E O R Q:=fun W _ sh=>ad.store hw ha hx hl (F2 (sh.hC hi) hs cI) (S.r hn W _ (sh.zn hi _))
theorem app {k n m:Nat} {y x:Od} {v u:V} {cs xs:List V} {s:Option Pa} (i:Nat) (hi:R[i]? =some (s,.cells cs false)) (ho:OV v k n cs s) (hs:Src O R k u m xs) (eV:aY xs=true) (hb:n+m≤1073741824) (hk:0<k) (hn:∀v' s',OV v' k (n+m) (cs++xs) s'→SA F K rs ((d,v')::E) O (R.set i (s',.cells (cs++xs) false)) Q) (hy:ax E y v:=by first|exact .t rfl|exact .c) (hx:ax E x u:=by first|exact .t rfl|exact .c) (hw:az E g .yes:=by first|exact .none|exact .yes rfl):
 SR F K (.op ⟨some (pa d),Cc k y x,g⟩::Op.aI rs) E O R Q:=fun W h sh=>by
 obtain⟨I,J⟩:=hs.2 W h sh;obtain⟨v',s',h',k1,k2,k3⟩:=ho.app sh hi I J hs.1 eV hk hb;exact ad.app hw hy hx k1 (S.r (hn v' s' k2) W h' k3)
theorem call [gd K] {n:Nat} {xs:List Od} {vs:List V} {Rt:V→Fz→List Ob→Prop} (hc:ai F n vs O [] Rt never) (hn:∀v ψ O',O.Le ψ→Rt v ψ O'→SA F K rs ((d,v)::E) ψ (O'++R) Q) (hx:kD E xs=some vs:=by rfl) (hw:az E g .yes:=by first|exact .none|exact .yes rfl):
 SR F K (.op ⟨some (pa d),aC n xs,g⟩::Op.aI rs) E O R Q:=fun W h sh=>by
 rcases hc (R++W) h (by simpa using sh)with⟨v,h',I,ψ,O',J,h3,h4⟩|⟨_,_,_,_,_,_,_,h⟩
 ·exact WR.up J (ad.call hw (nV hx) I (S.r (hn v ψ O' J h4) W h' (by simpa using h3)))
 ·exact h.elim
theorem afc [gd K] {n:Nat} {xs:List Od} {vs:List V} {v:V} (hc:bk F n vs O v) (hn:SA F K rs ((d,v)::E) O R Q) (hx:py E xs vs) (hw:az E g .yes):SR F K (.op ⟨some (pa d),aC n xs,g⟩::Op.aI rs) E O R Q:=fun W h sh=>by
 rcases hc (R++W) h (by simpa using sh)with⟨r,h',I,ψ,O',J,h3,rfl,rfl,rfl⟩|⟨_,_,_,_,_,_,_,h⟩
 ·exact ad.call hw hx I (S.r hn W h' (by simpa using h3))
 ·exact h.elim
theorem ak [gd K] {n:Nat} {xs:List Od} {vs:List V} {v:V} (hc:bk F n vs O v) (hn:SA F K rs ((d,v)::E) O R Q) (hx:kD E xs=some vs:=by rfl) (hw:az E g .yes:=by first|exact .none|exact .yes rfl):
 SR F K (.op ⟨some (pa d),aC n xs,g⟩::Op.aI rs) E O R Q:=call hc (fun _ _ _ _ ⟨I,J,h3⟩=>by subst I;subst J;subst h3;exact hn) hx hw
theorem bb [gd K] {n:Nat} {xs:List Od} {vs:List V} {Rt:V→Fz→List Ob→Prop} (i:Nat) {o:Ob} (hi:R[i]? =some o) (hc:ai F n vs O [o] Rt never) (hn:∀v ψ O',O.Le ψ→Rt v ψ O'→SA F K rs ((d,v)::E) ψ (O'++R.eraseIdx i) Q) (hx:kD E xs=some vs:=by rfl) (hw:az E g .yes:=by first|exact .none|exact .yes rfl):
 SR F K (.op ⟨some (pa d),aC n xs,g⟩::Op.aI rs) E O R Q:=fun W h sh=>by
 rcases hc (R.eraseIdx i++W) h (sh.front hi)with⟨v,h',I,ψ,O',J,h3,h4⟩|⟨_,_,_,_,_,_,_,h⟩
 ·exact WR.up J (ad.call hw (nV hx) I (S.r (hn v ψ O' J h4) W h' (by rw[KK];exact h3)))
 ·exact h.elim
theorem afd [gd K] {n:Nat} {xs:List Od} {vs:List V} {Rt:V→Fz→List Ob→Prop} (hc:ai F n vs O R Rt never) (hn:∀v ψ O',O.Le ψ→Rt v ψ O'→SA F K rs ((d,v)::E) ψ O' Q) (hx:kD E xs=some vs:=by rfl) (hw:az E g .yes:=by first|exact .none|exact .yes rfl):
 SR F K (.op ⟨some (pa d),aC n xs,g⟩::Op.aI rs) E O R Q:=fun W h sh=>by
 rcases hc W h sh with⟨v,h',I,ψ,O',J,h3,h4⟩|⟨_,_,_,_,_,_,_,h⟩
 ·exact WR.up J (ad.call hw (nV hx) I (S.r (hn v ψ O' J h4) W h' h3))
 ·exact h.elim
theorem bR (i:Nat) {v:V} {k n:Nat} {cs:List V} {s:Option Pa} (ho:OV v k n cs s) (hi:R[i]? =some (s,.cells cs false)) (hn:∀ψ,O.Le ψ→FS ψ v k n cs→SA F K rs E ψ (R.eraseIdx i) Q):SR F K (Op.aI rs) E O R Q:=
 SR.fin (Fin.bR i hi ho fun ψ I J=>.done (S.r (hn ψ I J)))
theorem drop (i:Nat) (hn:SA F K rs E O (R.eraseIdx i) Q):SR F K (Op.aI rs) E O R Q:=SR.fin (Fin.drop i (.done (S.r hn)))
end S
end Go.Ev
namespace Go.Ev
inductive Co where
 |k
 |g (l:List Op)
 |s (a b:Co)
 |T (a b:Co)
 |c (x:Od) (a b:Co)
 |b (id:Nat) (a:Co)
 |l (a:Co)
 |x (id:Nat)
 |q
 |H (w:Od) (ps:List Pa) (a b:Co)
 |ad (a:IC al)
noncomputable section
abbrev Co.den:Co→IC al
 |.k=>.skip
 |.g y=>.region (Op.aI y)
 |.s y z=>.seq y.den z.den
 |.T y z=>.seq y.den z.den
 |.c w y z=>.cond w y.den z.den
 |.b id y=>.block id y.den
 |.l y=>.loop y.den
 |.x id=>.exit id
 |.q=>.ret
 |.H w ps y z=>.rangeFunc w ps y.den z.den
 |.ad y=>y
end
abbrev bB.aw (Q:bB) (id:Nat):bB:={Q with x:=fun i E ψ R=>match Nat.beq i id with|true=>Q.n E ψ R|false=>Q.x i E ψ R}
abbrev SC (F:Nat→Option aN) (K:KX):Co→Env→Fz→List Ob→bB→Prop
 |.k,E,O,R,Q=>Q.n E O R
 |.g l,E,O,R,Q=>SA F K l E O R Q
 |.s a b,E,O,R,Q=>SC F K a E O R (Q.then fun E' ψ O'=>SC F K b E' ψ O' Q)
 |.T a b,E,O,R,Q=>SC F K a E O R (Q.then fun E' ψ O'=>SW F K b.den E' ψ O' Q)
 |.b id a,E,O,R,Q=>SC F K a E O R (Q.aw id)
 |.x id,E,O,R,Q=>Q.x id E O R
 |.c x a b,E,O,R,Q=>SW F K (.cond x a.den b.den) E O R Q
 |.l a,E,O,R,Q=>SW F K (.loop a.den) E O R Q
 |.q,E,O,R,Q=>Q.r E O R
 |.H w ps a b,E,O,R,Q=>SW F K (.rangeFunc w ps a.den b.den) E O R Q
 |.ad a,E,O,R,Q=>SW F K a E O R Q
variable{F:Nat→Option aN} {K:KX}
theorem bB.afe {Q:bB} {id:Nat}:Q.aw id={Q with x:=fun i E' ψ O'=>if i=id then Q.n E' ψ O' else Q.x i E' ψ O'}:=by
 unfold bB.aw;congr 1;funext i E ψ R;by_cases h:i=id
 ·subst h;rw[B4 rfl,arz]
 ·rw[pg h];cases hb:Nat.beq i id with
  |false=>rfl
  |true=>exact absurd (apY hb) h
theorem SC.w:∀{c:Co} {E:Env} {O:Fz} {R:List Ob} {Q:bB},SC F K c E O R Q→SW F K c.den E O R Q
 |.k,_,_,_,_,h=>SW.skip h
 |.g _,_,_,_,_,h=>SW.region (S.r h)
 |.s a b,E,O,R,Q,h=>SW.seq (SW.then (fun E' ψ O'=>SC F K b E' ψ O' Q) (SC.w (c:=a) h) fun _ _ _ _ h=>SC.w h)
 |.T a b,E,O,R,Q,h=>SW.seq (SC.w (c:=a) h)
 |.b id a,E,O,R,Q,h=>SW.block (by have:=SC.w (c:=a) h;rw[bB.afe]at this;exact this)
 |.x _,_,_,_,_,h=>SW.exit h
 |.c _ _ _,_,_,_,_,h=>h
 |.l _,_,_,_,_,h=>h
 |.q,_,_,_,_,h=>SW.ret h
 |.H _ _ _ _,_,_,_,_,h=>h
 |.ad _,_,_,_,_,h=>h
namespace C
variable{E:Env} {O:Fz} {R:List Ob} {Q:bB}
theorem B {c:Od} {a b:Co} {t:Bool} (ht:t=true→SC F K a E O R Q) (hf:t=false→SC F K b E O R Q) (hc:ax E c (.bool t):=by exact .t rfl):SW F K (.cond c a.den b.den) E O R Q:=SW.L3 hc (fun h=>(ht h).w) fun h=>(hf h).w
theorem D {c:Od} {a b:Co} {p:Prop} [Decidable p] (ht:p→SC F K a E O R Q) (hf:¬p→SC F K b E O R Q) (hc:ax E c (.bool (decide p)):=by exact .t rfl):SW F K (.cond c a.den b.den) E O R Q:=SW.F6 hc (fun h=>(ht h).w) fun h=>(hf h).w
theorem sub {c:Co} {E':Env} (hs:Sub E' E) (hw:SC F K c E' O R Q):SW F K c.den E O R Q:=SW.sub hs hw.w
end C
end Go.Ev
namespace Go.Ev
abbrev t (n:Nat):Od:=.t (pa n)
abbrev i (n:Int):Od:=.c (.int .i64 n)
abbrev o (d:Nat) (s:bz):Op:=.r (.op ⟨some (pa d),s,none⟩)
abbrev o0 (s:bz):Op:=.r (.op ⟨none,s,none⟩)
abbrev oy (g d:Nat) (s:bz):Op:=.r (.op ⟨some (pa d),s,some (pa g,true)⟩)
abbrev on (g d:Nat) (s:bz):Op:=.r (.op ⟨some (pa d),s,some (pa g,false)⟩)
abbrev ko (d:Nat) (s:bz):Op:=.r (.cf ⟨some (pa d),s,none⟩)
abbrev uW (g d:Nat) (s:bz):Op:=.r (.cf ⟨some (pa d),s,some (pa g,false)⟩)
end Go.Ev
