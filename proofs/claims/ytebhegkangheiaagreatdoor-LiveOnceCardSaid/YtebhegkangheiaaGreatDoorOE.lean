/- A part of the proof of glacislaw13.LiveOnce. -/
import Derived.Test.YtebhegkangheiaaGreatDoorOD
namespace Go.Ev
section
variable(F:Nat->Option aP)
inductive Reach:Nx->Nx->Prop
 |refl (a:Nx):Reach a a
 |step {fr:Fr} {cs:List Fr} {h:Hp} {ls:List LE} {b:Nx}:Reach (step F fr cs h ls) b->Reach (.go fr cs h ls) b
variable{F}
theorem Reach.trans {a b c:Nx} (h:Reach F a b) (k:Reach F b c):Reach F a c:=by
 induction h with
 |refl=>exact k
 |step _ d=>exact .step (d k)
theorem Reach.of_eq {a b:Nx} (h:a=b):Reach F a b:=h▸.refl a
theorem Reach.one {fr:Fr} {cs:List Fr} {h:Hp} {ls:List LE} {b:Nx} (hs:Go.Ev.step F fr cs h ls=b):Reach F (.go fr cs h ls) b:=.step (.of_eq hs)
theorem Reach.run {a:Nx} {v:V} {h':Hp} (hr:Reach F a (.done v h')):∀{fr:Fr} {cs:List Fr} {h:Hp} {ls:List LE},a=.go fr cs h ls->∃n,run F n fr cs h ls=.done v h':=by
 generalize d:Nx.done v h'=b at hr
 induction hr with
 |refl a=>intro fr cs h ls e;subst d;cases e
 | @step fr cs h ls b hs j=>
   intro fr' cs' h0 B e;cases e;cases hx:Go.Ev.step F fr cs h ls with
   |go A o aj D=>
    obtain⟨n,hn⟩:=j d hx;refine⟨n+1,?_⟩;show Nx.rec (motive:=fun _=>Nx) (fun fr cs h ls=>Go.Ev.run F n fr cs h ls) (fun v h=>.done v h) (fun a b=>.bad a b) (Go.Ev.step F fr cs h ls)=_;rw[hx];exact hn
   |done v2 aj=>
    refine⟨1,?_⟩;show Nx.rec (motive:=fun _=>Nx) (fun fr cs h ls=>Go.Ev.run F 0 fr cs h ls) (fun v h=>.done v h) (fun a b=>.bad a b) (Go.Ev.step F fr cs h ls)=_;rw[hx]at hs⊢;subst d;cases hs;rfl
   |bad x y=>
    rw[hx]at hs;subst d;cases hs
abbrev Env:=List (Nat×V)
def lk (n:Nat):Env->Option V
 |[]=>none
 |(m,v)::r=>bif Nat.beq m n then some v else lk n r
def bY (e:T V) (E:Env):Prop:=∀n v,lk n E=some v->e.get (pa n)=some v
theorem FT {a b:Nat} (h:pa a=pa b):a=b:=by have:=congrArg Pa.toNat h;simpa[fu]using this
theorem bY.set {e:T V} {E:Env} (h:bY e E) (d:Nat) (v:V):bY (e.set v (pa d)) ((d,v)::E):=by
 intro n u hn;rw[T.ft];simp only[lk]at hn;by_cases hd:d=n
 ·subst hd;rw[qm]at hn;simpa using hn
 ·have o:Nat.beq d n=false:=by
   cases A:Nat.beq d n with
   |false=>rfl
   |true=>exact absurd (dG A) hd
  rw[o]at hn;rw[ab (fun j=>hd (FT j))];exact h n u hn
def Sub (d E:Env):Prop:=∀n v,lk n d=some v->lk n E=some v
theorem bY.sub {e:T V} {E d:Env} (h:bY e E) (hs:Sub d E):bY e d:=fun n v hn=>h n v (hs n v hn)
theorem Sub.nil (E:Env):Sub [] E:=fun _ _ h=>by cases h
theorem Sub.cons {n:Nat} {v:V} {j E:Env} (h:lk n E=some v) (hs:Sub j E):Sub ((n,v)::j) E:=by
 intro m u hm;simp only[lk]at hm;cases d:Nat.beq n m with
 |true=>
  have:=dG d;subst this;rw[d]at hm;simp at hm;subst hm;exact h
 |false=>rw[d]at hm;exact hs m u hm
def ay (E:Env) (x:Od) (a:V):Prop:=∀e,bY e E->x.ev e=a
theorem ay.c {E:Env} {a:V}:ay E (.c a) a:=fun _ _=>rfl
theorem ay.t {E:Env} {n:Nat} {a:V} (h:lk n E=some a):ay E (.t (pa n)) a:=fun e he=>by
 show e.val (pa n)=a;unfold T.val;rw[he n a h]
inductive kE (E:Env):List Od->List V->Prop
 |nil:kE E [] []
 |cons {x:Od} {a:V} {xs:List Od} {vs:List V} (h:ay E x a) (hs:kE E xs vs):kE E (x::xs) (a::vs)
theorem kE.ev {E:Env} {xs:List Od} {vs:List V} (h:kE E xs vs) {e:T V} (he:bY e E):di e xs=vs:=by
 induction h with
 |nil=>rfl
 |cons h _ d=>rw[di,h e he,d]
structure KX where
 k:FK
 L:List LE->Prop
structure ep where
 n:Env->Hp->List Pa->Prop
 x:Nat->Env->Hp->List Pa->Prop
 r:Env->Hp->List Pa->Prop
 p:Env->V->Hp->List Pa->Prop
def ep.sh (Q:ep) (ms:List Pa):ep where
 n:=fun E h m=>Q.n E h (m++ms)
 x:=fun i E h m=>Q.x i E h (m++ms)
 r:=fun E h m=>Q.r E h (m++ms)
 p:=fun E v h m=>Q.p E v h (m++ms)
def marks (ms:List Pa) (ds:List Def):List Def:=ms.map .mark++ds
theorem sH (a b:List Pa) (ds:List Def):marks a (marks b ds)=marks (a++b) ds:=by simp[marks]
inductive kF where
 |n (e:T V) (h:Hp) (ms:List Pa)
 |x (id:Nat) (e:T V) (h:Hp) (ms:List Pa)
 |r (e:T V) (h:Hp) (ms:List Pa)
 |p (e:T V) (v:V) (h:Hp) (ms:List Pa)
inductive ep.Holds (Q:ep):kF->Prop
 |n {e:T V} {h:Hp} {ms:List Pa} {E:Env} (he:bY e E) (hq:Q.n E h ms):Holds Q (.n e h ms)
 |x {id:Nat} {e:T V} {h:Hp} {ms:List Pa} {E:Env} (he:bY e E) (hq:Q.x id E h ms):Holds Q (.x id e h ms)
 |r {e:T V} {h:Hp} {ms:List Pa} {E:Env} (he:bY e E) (hq:Q.r E h ms):Holds Q (.r e h ms)
 |p {e:T V} {v:V} {h:Hp} {ms:List Pa} {E:Env} (he:bY e E) (hq:Q.p E v h ms):Holds Q (.p e v h ms)
def sI (K:KX) (ms:List Pa) (ls:List LE):Prop:=K.L ls/\(K.k.round≠none->ms=[])
inductive Ends (K:KX) (k:List Item) (ds:List Def) (cs:List Fr) (ls:List LE):kF->Nx->Prop
 |n (e:T V) (h:Hp) (ms:List Pa) (xs:List LE) (hL:sI K ms (xs++ls)):Ends K k ds cs ls (.n e h ms) (.go ⟨K.k,e,k,marks ms ds,.run⟩ cs h (xs++ls))
 |x {id:Nat} {e:T V} {h:Hp} {ms:List Pa} {k':List Item} (xs:List LE) (hL:sI K ms (xs++ls)) (hk:exitTo id k=some k'):Ends K k ds cs ls (.x id e h ms) (.go ⟨K.k,e,k',marks ms ds,.run⟩ cs h (xs++ls))
 |r (e:T V) (h:Hp) (ms:List Pa) (td:List Item) (xs:List LE) (hL:sI K ms (xs++ls)):Ends K k ds cs ls (.r e h ms) (nl ⟨K.k,e,td,marks ms ds,.run⟩ cs h (xs++ls) (some .ret))
 |p (e:T V) (v:V) (h:Hp) (ms:List Pa) (td:List Item) (xs:List LE) (hL:sI K ms (xs++ls)):Ends K k ds cs ls (.p e v h ms) (.go ⟨K.k,e,td,marks ms ds,.panicking v false⟩ cs h (xs++ls))
theorem Ends.more {K:KX} {k:List Item} {ds:List Def} {cs:List Fr} {ls xs:List LE} {r:kF} {x:Nx} (h:Ends K k ds cs (xs++ls) r x):Ends K k ds cs ls r x:=by
 cases h with
 |n e h ms d hL=>rw[<-bp]at hL⊢;exact .n e h ms _ hL
 |x d hL hk=>rw[<-bp]at hL⊢;exact .x _ hL hk
 |r e h ms td d hL=>rw[<-bp]at hL⊢;exact .r e h ms td _ hL
 |p e v h ms td d hL=>rw[<-bp]at hL⊢;exact .p e v h ms td _ hL
def lF (r:kF) (k:List Item):Prop:=∀id e h ms,r=.x id e h ms->∃k',exitTo id k=some k'
variable(F)in
def WC (K:KX) (c:IC ak) (E:Env) (h:Hp) (Q:ep):Prop:=
 ∀e,bY e E->∃r,Q.Holds r/\∀k ds cs ls,K.L ls->lF r k->∃x,Ends K k ds cs ls r x/\Reach F (.go ⟨K.k,e,eF c k,ds,.run⟩ cs h ls) x
variable(F)in
def WR (K:KX) (rs:List (RS ak)) (E:Env) (h:Hp) (Q:ep):Prop:=
 ∀e,bY e E->∃r,Q.Holds r/\∀k ds cs ls,K.L ls->lF r k->∃x,Ends K k ds cs ls r x/\Reach F (hG F K.k e k ds cs h ls (.cI rs)) x
variable(F)in
def qQ (f:Nat) (args:List V) (h:Hp) (v:V) (h':Hp):Prop:=∀fr cs ls,∃xs,Reach F (jx F fr cs h ls f args) (finish fr v cs h' (xs++ls))
variable(F)in
def yO (f:Nat) (args:List V) (h:Hp) (v:V) (h':Hp):Prop:=∀fr cs ls,fr.mode=.run->∃xs,Reach F (jx F fr cs h ls f args) (.go ⟨fr.k,fr.env,fr.todo,fr.defers,.panicking v false⟩ cs h' (xs++ls))
class eY (K:KX):Prop where
 up:∀xs ls,K.L ls->K.L (xs++ls)
instance(k:FK):eY ⟨k,fun _=>True⟩:=⟨fun _ _ _=>trivial⟩
variable{K:KX} {E:Env} {h:Hp} {Q:ep}
theorem WC.sub {c:IC ak} {d:Env} (hs:Sub d E) (hw:WC F K c d h Q):WC F K c E h Q:=fun e he=>hw e (he.sub hs)
theorem ep.Holds.mono {d:ep} (hn:∀E h m,Q.n E h m->d.n E h m) (hx:∀i E h m,Q.x i E h m->d.x i E h m) (hr:∀E h m,Q.r E h m->d.r E h m) (hp:∀E v h m,Q.p E v h m->d.p E v h m) {r:kF} (j:Q.Holds r):d.Holds r:=by
 cases j with
 |n he hq=>exact .n he (hn _ _ _ hq)
 |x he hq=>exact .x he (hx _ _ _ _ hq)
 |r he hq=>exact .r he (hr _ _ _ hq)
 |p he hq=>exact .p he (hp _ _ _ _ hq)
def kF.add (ms:List Pa):kF->kF
 |.n e h m=>.n e h (m++ms)
 |.x i e h m=>.x i e h (m++ms)
 |.r e h m=>.r e h (m++ms)
 |.p e v h m=>.p e v h (m++ms)
theorem ep.Holds.add {ms:List Pa} {r:kF} (d:(Q.sh ms).Holds r):Q.Holds (r.add ms):=by
 cases d with
 |n he hq=>exact .n he hq
 |x he hq=>exact .x he hq
 |r he hq=>exact .r he hq
 |p he hq=>exact .p he hq
theorem Ends.add {K:KX} {k:List Item} {ds:List Def} {cs:List Fr} {ls:List LE} {ms:List Pa} {r:kF} {x:Nx} (h0:K.k.round≠none->ms=[]) (h:Ends K k (marks ms ds) cs ls r x):Ends K k ds cs ls (r.add ms) x:=by
 cases h with
 |n e h m xs hL=>rw[sH];exact .n e h _ xs ⟨hL.1,fun q=>by rw[hL.2 q,h0 q];(try rfl)⟩
 |x xs hL hk=>rw[sH];exact .x xs ⟨hL.1,fun q=>by rw[hL.2 q,h0 q];(try rfl)⟩ hk
 |r e h m td xs hL=>rw[sH];exact .r e h _ td xs ⟨hL.1,fun q=>by rw[hL.2 q,h0 q];(try rfl)⟩
 |p e v h m td xs hL=>rw[sH];exact .p e v h _ td xs ⟨hL.1,fun q=>by rw[hL.2 q,h0 q];(try rfl)⟩
theorem lF.add {ms:List Pa} {r:kF} {k:List Item} (h:lF (r.add ms) k):lF r k:=by
 intro id e h' m d;subst d;exact h id e h' (m++ms) rfl
theorem FU (ds:List Def):marks [] ds=ds:=rfl
theorem WC.mono {c:IC ak} {d:ep} (hn:∀E h m,Q.n E h m->d.n E h m) (hx:∀i E h m,Q.x i E h m->d.x i E h m) (hr:∀E h m,Q.r E h m->d.r E h m) (hp:∀E v h m,Q.p E v h m->d.p E v h m) (hw:WC F K c E h Q):WC F K c E h d:=
 fun e he=>let⟨r,o,aj⟩:=hw e he;⟨r,o.mono hn hx hr hp,aj⟩
theorem WC.skip (hq:Q.n E h []):WC F K .skip E h Q:=fun e he=>⟨.n e h [],.n he hq,fun _ _ _ _ hL _=>⟨_,.n e h [] [] ⟨hL,fun _=>rfl⟩,.refl _⟩⟩
theorem WC.region {rs:List (RS ak)} (hw:WR F K rs E h Q):WC F K (.region rs) E h Q:=fun e he=>
 let⟨r,o,aj⟩:=hw e he
 ⟨r,o,fun k ds cs ls hL ho=>let⟨x,hx,hr⟩:=aj k ds cs ls hL ho;⟨x,hx,.step hr⟩⟩
theorem lG (K:FK) (c:IC ak) (e:T V) (k:List Item) (ds:List Def) (cs:List Fr) (h:Hp) (ls:List LE):
 Reach F (.go ⟨K,e,.code c::k,ds,.run⟩ cs h ls) (.go ⟨K,e,eF c k,ds,.run⟩ cs h ls):=by
 cases c<;>first|exact .refl _|exact .one rfl
def ep.then (Q:ep) (n:Env->Hp->List Pa->Prop):ep:={Q with n:=n}
theorem WC.seq {a b:IC ak} (hw:WC F K a E h (Q.then fun B h' m=>WC F K b B h' (Q.sh m))):WC F K (.seq a b) E h Q:=by
 intro e he;obtain⟨r,o,aj⟩:=hw e he;have D:∀k,eF (.seq a b) k=eF a (.code b::k):=fun _=>rfl;cases o with
 | @n e' h' m B A hq=>
   obtain⟨S,G,I⟩:=hq _ A;refine⟨S.add m,G.add,fun k ds cs ls hL ho=>?_⟩;obtain⟨x,hx,hr⟩:=aj (.code b::k) ds cs ls hL (fun _ _ _ _ j=>by cases j);cases hx with|n _ _ _ xs d=>
   obtain⟨y,R,O⟩:=I k (marks m ds) cs (xs++ls) d.1 ho.add;exact⟨y,.add d.2 R.more,by rw[D];exact hr.trans ((lG _ _ _ _ _ _ _ _).trans O)⟩
 | @x id e' h' m B A hq=>
   refine⟨_,.x A hq,fun k ds cs ls hL ho=>?_⟩;obtain⟨x,hx,hr⟩:=aj (.code b::k) ds cs ls hL (fun _ _ _ _ j=>by cases j;obtain⟨k',M⟩:=ho _ _ _ _ rfl;exact⟨k',by simpa[exitTo]using M⟩);cases hx with
   |x xs d hk=>exact⟨_,.x xs d (by simpa[exitTo]using hk),by rw[D];exact hr⟩
 | @r e' h' m B A hq=>
   refine⟨_,.r A hq,fun k ds cs ls hL ho=>?_⟩;obtain⟨x,hx,hr⟩:=aj (.code b::k) ds cs ls hL (fun _ _ _ _ j=>by cases j);cases hx with
   |r _ _ _ td xs d=>exact⟨_,.r _ _ _ td xs d,by rw[D];exact hr⟩
 | @p W v h' m U L hq=>
   refine⟨_,.p L hq,fun k ds cs ls hL ho=>?_⟩;obtain⟨x,hx,hr⟩:=aj (.code b::k) ds cs ls hL (fun _ _ _ _ j=>by cases j);cases hx with
   |p _ _ _ _ td xs d=>exact⟨_,.p _ _ _ _ td xs d,by rw[D];exact hr⟩
theorem WC.cond {c:Od} {a b:IC ak} {t:Bool} (hc:ay E c (.bool t)) (hw:WC F K (bif t then a else b) E h Q):WC F K (.cond c a b) E h Q:=by
 intro e he;obtain⟨r,o,aj⟩:=hw e he;refine⟨r,o,fun k ds cs ls hL ho=>?_⟩;obtain⟨x,hx,hr⟩:=aj k ds cs ls hL ho;refine⟨x,hx,.trans (.one ?_) hr⟩;show hZ F K.k e k ds cs h ls (.cond c a b)=_;simp only[hZ,hc e he]
theorem ov {a b:Nat} (h:a≠b):Nat.beq a b=false:=by
 cases d:Nat.beq a b with
 |false=>rfl
 |true=>exact absurd (dG d) h
theorem WC.block {id:Nat} {b:IC ak} (hw:WC F K b E h {Q with x:=fun i B h' m=>if i=id then Q.n B h' m else Q.x i B h' m}):WC F K (.block id b) E h Q:=by
 intro e he;obtain⟨r,o,aj⟩:=hw e he;have h0:∀k ds cs ls,Reach F (.go ⟨K.k,e,eF (.block id b) k,ds,.run⟩ cs h ls) (.go ⟨K.k,e,eF b (.inBlock id::k),ds,.run⟩ cs h ls):=fun _ _ _ _=>.one rfl;cases o with
 | @n e' h' m B A hq=>
   refine⟨_,.n A hq,fun k ds cs ls hL ho=>?_⟩;obtain⟨x,hx,hr⟩:=aj (.inBlock id::k) ds cs ls hL (fun _ _ _ _ d=>by cases d);cases hx with|n _ _ _ xs j=>
   exact⟨_,.n _ _ _ xs j,(h0 k ds cs ls).trans (hr.trans (.one rfl))⟩
 | @x i e' h' m B A hq=>
   by_cases hi:i=id
   ·subst hi;simp only[if_true]at hq;refine⟨_,.n A hq,fun k ds cs ls hL ho=>?_⟩;obtain⟨x,hx,hr⟩:=aj (.inBlock i::k) ds cs ls hL (fun _ _ _ _ d=>by cases d;exact⟨k,by simp[exitTo]⟩);cases hx with
    |x xs j hk=>
     simp[exitTo]at hk;subst hk;exact⟨_,.n _ _ _ xs j,(h0 k ds cs ls).trans hr⟩
   ·simp only[hi,if_false]at hq;refine⟨_,.x A hq,fun k ds cs ls hL ho=>?_⟩;obtain⟨k',G⟩:=ho _ _ _ _ rfl;obtain⟨x,hx,hr⟩:=aj (.inBlock id::k) ds cs ls hL (fun _ _ _ _ d=>by cases d;exact⟨k',by simp only[exitTo,ov (Ne.symm hi),bw];exact G⟩);cases hx with
    |x xs j hk=>
     simp only[exitTo,ov (Ne.symm hi),bw]at hk;exact⟨_,.x xs j hk,(h0 k ds cs ls).trans hr⟩
 | @r e' h' m B A hq=>
   refine⟨_,.r A hq,fun k ds cs ls hL ho=>?_⟩;obtain⟨x,hx,hr⟩:=aj (.inBlock id::k) ds cs ls hL (fun _ _ _ _ d=>by cases d);cases hx with
   |r _ _ _ td xs j=>exact⟨_,.r _ _ _ td xs j,(h0 k ds cs ls).trans hr⟩
 | @p L v h' m I D hq=>
   refine⟨_,.p D hq,fun k ds cs ls hL ho=>?_⟩;obtain⟨x,hx,hr⟩:=aj (.inBlock id::k) ds cs ls hL (fun _ _ _ _ d=>by cases d);cases hx with
   |p _ _ _ _ td xs j=>exact⟨_,.p _ _ _ _ td xs j,(h0 k ds cs ls).trans hr⟩
theorem WC.exit {id:Nat} (hq:Q.x id E h []):WC F K (.exit id) E h Q:=by
 intro e he;refine⟨_,.x he hq,fun k ds cs ls hL ho=>?_⟩;obtain⟨k',d⟩:=ho _ _ _ _ rfl;refine⟨_,.x [] ⟨hL,fun _=>rfl⟩ d,.one ?_⟩;show hZ F K.k e k ds cs h ls (.exit id)=_;simp only[hZ,d,FU];rfl
theorem WC.ret (hq:Q.r E h []):WC F K .ret E h Q:=by
 intro e he;refine⟨_,.r he hq,fun k ds cs ls hL ho=>⟨_,.r e h [] k [] ⟨hL,fun _=>rfl⟩,.one ?_⟩⟩;rfl
theorem WC.loop {b:IC ak} (G:Nat->Env->Hp->List Pa->Prop) {m:Nat} (hi:G m E h []) (R:∀m E h ms,G m E h ms->WC F K b E h ((Q.sh ms).then fun D h' j=>∃m',m'<m/\G m' D h' (j++ms))):WC F K (.loop b) E h Q:=by
 suffices hs:∀m E h ms,G m E h ms->∀e,bY e E->∃r,(Q.sh ms).Holds r/\∀k ds cs ls,K.L ls->lF r k->∃x,Ends K k ds cs ls r x/\Reach F (.go ⟨K.k,e,eF b (.inLoop b::k),ds,.run⟩ cs h ls) x by
  intro e he;obtain⟨r,o,aj⟩:=hs m E h [] hi e he;have M:Q.sh []=Q:=by simp[ep.sh]
  rw[M]at o;exact⟨r,o,fun k ds cs ls hL ho=>let⟨x,hx,hr⟩:=aj k ds cs ls hL ho;⟨x,hx,.trans (.one rfl) hr⟩⟩
 intro m
 induction m using Nat.strongRecOn with
 |ind m ac=>
  intro E h ms hi e he;obtain⟨r,o,aj⟩:=R m E h ms hi e he;cases o with
  | @n e' h' j D B hq=>
    obtain⟨m',Y,U⟩:=hq;obtain⟨ae,I,O⟩:=ac m' Y _ _ _ U _ B;have d:Q.sh (j++ms)=(Q.sh ms).sh j:=by simp[ep.sh]
    rw[d]at I;refine⟨ae.add j,I.add,fun k ds cs ls hL ho=>?_⟩;obtain⟨x,hx,hr⟩:=aj (.inLoop b::k) ds cs ls hL (fun _ _ _ _ d=>by cases d);cases hx with|n _ _ _ xs A=>
    obtain⟨y,ab,Z⟩:=O k (marks j ds) cs (xs++ls) A.1 ho.add;exact⟨y,.add A.2 ab.more,hr.trans (.trans (.one rfl) Z)⟩
  | @x id e' h' j D B hq=>
    refine⟨_,.x B hq,fun k ds cs ls hL ho=>?_⟩;obtain⟨x,hx,hr⟩:=aj (.inLoop b::k) ds cs ls hL (fun _ _ _ _ d=>by cases d;obtain⟨k',W⟩:=ho _ _ _ _ rfl;exact⟨k',by simpa[exitTo]using W⟩);cases hx with
    |x xs A hk=>exact⟨_,.x xs A (by simpa[exitTo]using hk),hr⟩
  | @r e' h' j D B hq=>
    refine⟨_,.r B hq,fun k ds cs ls hL ho=>?_⟩;obtain⟨x,hx,hr⟩:=aj (.inLoop b::k) ds cs ls hL (fun _ _ _ _ d=>by cases d);cases hx with
    |r _ _ _ td xs A=>exact⟨_,.r _ _ _ td xs A,hr⟩
  | @p ah v h' j ag S hq=>
    refine⟨_,.p S hq,fun k ds cs ls hL ho=>?_⟩;obtain⟨x,hx,hr⟩:=aj (.inLoop b::k) ds cs ls hL (fun _ _ _ _ d=>by cases d);cases hx with
    |p _ _ _ _ td xs A=>exact⟨_,.p _ _ _ _ td xs A,hr⟩
theorem WR.nil (hq:Q.n E h []):WR F K [] E h Q:=fun e he=>⟨_,.n he hq,fun _ _ _ _ hL _=>⟨_,.n e h [] [] ⟨hL,fun _=>rfl⟩,.refl _⟩⟩
def aA (E:Env):Option (Pa×Bool)->W3->Prop:=fun g w=>∀e,bY e E->eb e g=w
theorem aA.none:aA E none .yes:=fun _ _=>rfl
theorem aA.yes {n:Nat} {b:Bool} (h:lk n E=some (.bool b)):aA E (some (pa n,b)) .yes:=fun e he=>by
 simp only[eb,he n _ h];cases b<;>rfl
theorem aA.no {n:Nat} {b c:Bool} (h:lk n E=some (.bool c)) (d:c=!b):aA E (some (pa n,b)) .no:=fun e he=>by
 simp only[eb,he n _ h,d];cases b<;>rfl
theorem aA.yP {n:Nat} {b:Bool} {l:List V} (h:lk n E=some (.aN l)):aA E (some (pa n,b)) .no:=fun e he=>by
 simp only[eb,he n _ h]
def ow (E:Env) (v:V):Option Nat->Env
 |none=>E
 |some d=>(d,v)::E
theorem bY.put {e:T V} (he:bY e E) (v:V) (d:Option Nat):bY (e.put v (d.map pa)) (ow E v d):=by
 cases d with
 |none=>exact he
 |some d=>exact he.set d v
theorem pE {rs d0:List (RS ak)} {e e':T V} {h h':Hp} (d:fq rs e h=fq d0 e' h') (k:List Item) (ds:List Def) (cs:List Fr) (ls:List LE):
 hG F K.k e k ds cs h ls (.cI rs)=hG F K.k e' k ds cs h' ls (.cI d0):=by
 simp only[hG,d]
theorem WR.pu {d:Option Nat} {g:Option (Pa×Bool)} {f:T V->Hp->Option V} {rs:List (RS ak)} {v:V} (hw:aA E g .yes) (j:∀e,bY e E->f e h=some v) (hn:WR F K rs (ow E v d) h Q):
 WR F K (.op ⟨d.map pa,.pu f,g⟩::rs) E h Q:=by
 intro e he;obtain⟨r,o,aj⟩:=hn _ (he.put v d);refine⟨r,o,fun k ds cs ls hL ho=>?_⟩;obtain⟨x,hx,hr⟩:=aj k ds cs ls hL ho;refine⟨x,hx,?_⟩;rw[pE (d0:=rs) (e':=e.put v (d.map pa)) (h':=h) ?_]
 ·exact hr
 ·rw[mn (hw e he)];simp only[j e he]
theorem WR.cY {d:Option Nat} {g:Option (Pa×Bool)} {f:T V->Option (ak×(Pa->V))} {rs:List (RS ak)} {b:ak} {mk:Pa->V} (hw:aA E g .yes) (j:∀e,bY e E->f e=some (b,mk)) (hn:WR F K rs (ow E (mk h.next) d) (h.alloc b) Q):
 WR F K (.op ⟨d.map pa,.cY f,g⟩::rs) E h Q:=by
 intro e he;obtain⟨r,o,aj⟩:=hn _ (he.put _ d);refine⟨r,o,fun k ds cs ls hL ho=>?_⟩;obtain⟨x,hx,hr⟩:=aj k ds cs ls hL ho;refine⟨x,hx,?_⟩;rw[pE (d0:=rs) (e':=e.put (mk h.next) (d.map pa)) (h':=h.alloc b) ?_]
 ·exact hr
 ·rw[mn (hw e he)];simp only[j e he]
theorem WR.st {d:Option Nat} {g:Option (Pa×Bool)} {f:T V->Hp->Option (V×Hp)} {rs:List (RS ak)} {v:V} {h':Hp} (hw:aA E g .yes) (j:∀e,bY e E->f e h=some (v,h')) (hn:WR F K rs (ow E v d) h' Q):
 WR F K (.op ⟨d.map pa,.st f,g⟩::rs) E h Q:=by
 intro e he;obtain⟨r,o,aj⟩:=hn _ (he.put v d);refine⟨r,o,fun k ds cs ls hL ho=>?_⟩;obtain⟨x,hx,hr⟩:=aj k ds cs ls hL ho;refine⟨x,hx,?_⟩;rw[pE (d0:=rs) (e':=e.put v (d.map pa)) (h':=h') ?_]
 ·exact hr
 ·rw[mn (hw e he)];simp only[j e he]
theorem WR.no {d:Option Nat} {g:Option (Pa×Bool)} {j:bx} {rs:List (RS ak)} (hw:aA E g .no) (hn:WR F K rs (ow E cV d) h Q):
 WR F K (.op ⟨d.map pa,j,g⟩::rs) E h Q:=by
 intro e he;obtain⟨r,o,aj⟩:=hn _ (he.put cV d);refine⟨r,o,fun k ds cs ls hL ho=>?_⟩;obtain⟨x,hx,hr⟩:=aj k ds cs ls hL ho;refine⟨x,hx,?_⟩;rw[pE (d0:=rs) (e':=e.put cV (d.map pa)) (h':=h) (va (hw e he))];exact hr
theorem WR.bX {I:RO ak} {rs:List (RS ak)} (hc:∀e,bY e E->iM e h I=true) (hn:WR F K rs E h Q):WR F K (.bX I::rs) E h Q:=by
 intro e he;obtain⟨r,o,aj⟩:=hn _ he;refine⟨r,o,fun k ds cs ls hL ho=>?_⟩;obtain⟨x,hx,hr⟩:=aj k ds cs ls hL ho;refine⟨x,hx,?_⟩;rw[pE (d0:=rs) (e':=e) (h':=h) ?_]
 ·exact hr
 ·show Bool.rec (motive:=fun _=>OR) (.bad 92) (fq rs e h) (iM e h I)=_;rw[hc e he]
theorem qR {d:Option Nat} {g:Option (Pa×Bool)} {f:T V->iI} {c:iI} {rs:List (RS ak)} {e:T V} (hw:eb e g=.yes) (j:f e=c) (k:List Item) (ds:List Def) (cs:List Fr) (ls:List LE):
 hG F K.k e k ds cs h ls (.cI (.op ⟨d.map pa,.dv f,g⟩::rs))=nk F K.k e ⟨d.map pa,.dv f,g⟩ rs k ds cs h ls c:=by
 have:fq (.op ⟨d.map pa,.dv f,g⟩::rs) e h=.nj c ⟨d.map pa,.dv f,g⟩ rs e h:=by
  rw[mn hw];simp only[j]
 simp only[hG,this]
theorem WR.call [eY K] {d:Option Nat} {g:Option (Pa×Bool)} {f:T V->iI} {n:Nat} {args:List V} {rs:List (RS ak)} {v:V} {h':Hp} (hw:aA E g .yes) (A:∀e,bY e E->f e=.call n args) (hc:qQ F n args h v h')
 (hn:WR F K rs (ow E v d) h' Q):WR F K (.op ⟨d.map pa,.dv f,g⟩::rs) E h Q:=by
 intro e he;obtain⟨r,o,aj⟩:=hn _ (he.put v d);refine⟨r,o,fun k ds cs ls hL ho=>?_⟩;obtain⟨xs,j⟩:=hc ⟨K.k,e,.cI (.op ⟨d.map pa,.dv f,g⟩::rs)::k,ds,.run⟩ cs ls;obtain⟨x,hx,hr⟩:=aj k ds cs (xs++ls) (eY.up xs ls hL) ho;refine⟨x,hx.more,?_⟩;rw[qR (hw e he) (A e he)];exact j.trans (.step hr)
theorem WR.FV [eY K] {d:Option Nat} {g:Option (Pa×Bool)} {f:T V->iI} {n:Nat} {args:List V} {rs:List (RS ak)} {v:V} {h':Hp} (hw:aA E g .yes) (o:∀e,bY e E->f e=.call n args) (hc:yO F n args h v h') (hq:Q.p E v h' []):
 WR F K (.op ⟨d.map pa,.dv f,g⟩::rs) E h Q:=by
 intro e he;refine⟨_,.p he hq,fun k ds cs ls hL ho=>?_⟩;obtain⟨xs,j⟩:=hc ⟨K.k,e,.cI (.op ⟨d.map pa,.dv f,g⟩::rs)::k,ds,.run⟩ cs ls rfl;refine⟨_,.p e v h' [] (.cI (.op ⟨d.map pa,.dv f,g⟩::rs)::k) xs ⟨eY.up xs ls hL,fun _=>rfl⟩,?_⟩;rw[qR (hw e he) (o e he)];exact j
theorem WR.panic {d:Option Nat} {g:Option (Pa×Bool)} {f:T V->iI} {v:V} {rs:List (RS ak)} (hw:aA E g .yes) (j:∀e,bY e E->f e=.panic v) (hq:Q.p E v h []):WR F K (.op ⟨d.map pa,.dv f,g⟩::rs) E h Q:=by
 intro e he;refine⟨_,.p he hq,fun k ds cs ls hL ho=>⟨_,.p e v h [] (.cI (.op ⟨d.map pa,.dv f,g⟩::rs)::k) [] ⟨hL,fun _=>rfl⟩,?_⟩⟩;rw[qR (hw e he) (j e he)];exact .refl _
def fT:Nat->List V->Env
 |_,[]=>[]
 |n,v::r=>(n,v)::fT (n+1) r
theorem yQ:∀(l:List V) (i:Pa) (e:T V),(∀n v,lk n (fT i.toNat l)=some v->(fP l i e).get (pa n)=some v)/\(∀p:Pa,p.toNat<i.toNat->(fP l i e).get p=e.get p)
 |[],i,e=>⟨(fun n v h=>by cases h),fun p _=>rfl⟩
 |v::r,i,e=>by
  obtain⟨o,aj⟩:=yQ r i.succ (e.set v i);have hs:i.succ.toNat=i.toNat+1:=Pa.gm i;refine⟨fun n u hn=>?_,fun p hp=>?_⟩
  ·simp only[fT,lk]at hn;show(fP r i.succ (e.set v i)).get (pa n)=some u;cases d:Nat.beq i.toNat n with
   |true=>
    have:=dG d;rw[d]at hn;simp at hn;subst hn;rw[aj (pa n) (by rw[fu,hs];omega),T.ft,ae (Pa.toNat_inj (by rw[fu];exact this))]
   |false=>
    rw[d]at hn;exact o n u (by rw[hs];exact hn)
  ·show(fP r i.succ (e.set v i)).get p=e.get p;rw[aj p (by rw[hs];omega),T.ft,ab (fun j=>by subst j;omega)]
theorem pF (l:List V):bY (fP l .z .E) (fT 0 l):=fun n v hn=>(yQ l .z .E).1 n v hn
def il (E:Env) (h:Hp) (res:List (Pa×Option (Option Nat))) (l:List V):Prop:=∀e,bY e E->hY e h res=some l
theorem il.nil:il E h [] []:=fun _ _=>rfl
theorem il.t {n:Nat} {v:V} {r:List (Pa×Option (Option Nat))} {l:List V} (hv:lk n E=some v) (hr:il E h r l):il E h ((pa n,none)::r) (v::l):=fun e he=>by
 simp only[hY,T.val,he n v hv,hr e he]
theorem il.c {n:Nat} {a v:V} {sh:Option Nat} {r:List (Pa×Option (Option Nat))} {l:List V} (hv:lk n E=some a) (hl:eE h sh a=some v) (hr:il E h r l):il E h ((pa n,some sh)::r) (v::l):=fun e he=>by
 simp only[hY,T.val,he n a hv,hl,hr e he]
noncomputable def kill:List Pa->Hp->Hp
 |[],h=>h
 |m::ms,h=>kill ms (h.put m (.c4 false))
def jC:List Pa->Hp->Prop
 |[],_=>True
 |m::ms,h=>h.get m=some (.c4 true)/\jC ms (h.put m (.c4 false))
theorem mu {fr:Fr}:∀(ms:List Pa) {h:Hp} {ds:List Def} {cs:List Fr} {ls:List LE},jC ms h->fr.mode≠.run->Reach F (.go ⟨fr.k,fr.env,fr.todo,marks ms ds,fr.mode⟩ cs h ls) (.go ⟨fr.k,fr.env,fr.todo,ds,fr.mode⟩ cs (kill ms h) ls)
 |[],h,ds,cs,ls,_,_=>.refl _
 |m::ms,h,ds,cs,ls,ha,hm=>by
  refine .trans (.one ?_) (mu ms ha.2 hm);obtain⟨k,e,td,d,md⟩:=fr;cases md with
  |run=>exact absurd rfl hm
  |returning=>
   show unwind F ⟨k,e,td,.mark m::marks ms ds,.returning⟩ cs h ls=_;simp only[unwind,ha.1,aE]
  |panicking v r=>
   show unwind F ⟨k,e,td,.mark m::marks ms ds,.panicking v r⟩ cs h ls=_;simp only[unwind,ha.1,aE]
def qS (res:List (Pa×Option (Option Nat))) (ad:V->Hp->Prop) (d:V->Hp->Prop):ep where
 n:=fun E h ms=>jC ms h/\∃l,il E (kill ms h) res l/\ad (oneOf l) (kill ms h)
 x:=fun _ _ _ _=>False
 r:=fun E h ms=>jC ms h/\∃l,il E (kill ms h) res l/\ad (oneOf l) (kill ms h)
 p:=fun _ v h ms=>jC ms h/\d v (kill ms h)
variable(F)in
def yR (f:Nat) (args:List V) (h:Hp) (ad:V->Hp->Prop) (d:V->Hp->Prop):Prop:=
 (∃v h',qQ F f args h v h'/\ad v h')\/∃v h',yO F f args h v h'/\d v h'
theorem FW {f:Nat} {fn:fO} {args:List V} {ad D:V->Hp->Prop} (B:F f=some (.code fn)) (hw:WC F ⟨⟨f,fn.nt,false,none⟩,fun _=>True⟩ fn.body (fT 0 args) h (qS fn.res ad D)):yR F f args h ad D:=by
 obtain⟨r,o,aj⟩:=hw _ (pF args);have h0:∀fr cs ls,jx F fr cs h ls f args=.go ⟨⟨f,fn.nt,false,none⟩,fP args .z .E,[.code fn.body],[],.run⟩ (fr::cs) h ls:=fun fr cs ls=>by simp only[jx,B,enter]
 have go:∀fr cs ls,lF r []->∃x,Ends ⟨⟨f,fn.nt,false,none⟩,fun _=>True⟩ [] [] (fr::cs) ls r x/\Reach F (jx F fr cs h ls f args) x:=by
  intro fr cs ls ho;obtain⟨x,hx,hr⟩:=aj [] [] (fr::cs) ls trivial ho;exact⟨x,hx,by rw[h0];exact(lG _ _ _ _ _ _ _ _).trans hr⟩
 have back:∀(e:T V) (E:Env) (h':Hp) (ms:List Pa) (l:List V) (td:List Item),bY e E->jC ms h'->il E (kill ms h') fn.res l->∀fr cs ls,Reach F (.go ⟨⟨f,fn.nt,false,none⟩,e,td,marks ms [],.returning⟩ (fr::cs) h' ls) (finish fr (oneOf l) cs (kill ms h') ls):=by
  intro e E h' ms l td he ha hl fr cs ls;refine(mu (fr:=⟨⟨f,fn.nt,false,none⟩,e,td,[],.returning⟩) ms ha (by intro e;cases e)).trans (.one ?_);show unwind F ⟨⟨f,fn.nt,false,none⟩,e,td,[],.returning⟩ (fr::cs) (kill ms h') ls=_;simp only[unwind,B,hl e he,doReturn,bw]
 cases o with
 | @n e' h' ms I A hq=>
   obtain⟨ha,l,hl,j⟩:=hq;refine .inl ⟨_,kill ms h',fun fr cs ls=>?_,j⟩;obtain⟨x,hx,hr⟩:=go fr cs ls (fun _ _ _ _ d=>by cases d);cases hx with|n _ _ _ xs _=>
   exact⟨xs,hr.trans (.trans (.one rfl) (back _ _ _ _ _ _ A ha hl fr cs _))⟩
 |x _ hq=>exact hq.elim
 | @r e' h' ms I A hq=>
   obtain⟨ha,l,hl,j⟩:=hq;refine .inl ⟨_,kill ms h',fun fr cs ls=>?_,j⟩;obtain⟨x,hx,hr⟩:=go fr cs ls (fun _ _ _ _ d=>by cases d);cases hx with
   |r _ _ _ td xs _=>exact⟨xs,hr.trans (back _ _ _ _ _ _ A ha hl fr cs _)⟩
 | @p G v h' ms L M hq=>
   refine .inr ⟨v,kill ms h',fun fr cs ls hm=>?_,hq.2⟩;obtain⟨x,hx,hr⟩:=go fr cs ls (fun _ _ _ _ d=>by cases d);cases hx with
   |p _ _ _ _ td xs _=>
    refine⟨xs,hr.trans ((mu (fr:=⟨⟨f,fn.nt,false,none⟩,G,td,[],.panicking v false⟩) ms hq.1 (by intro e;cases e)).trans (.one ?_))⟩;show unwind F ⟨⟨f,fn.nt,false,none⟩,G,td,[],.panicking v false⟩ (fr::cs) (kill ms h') (xs++ls)=_;simp only[unwind,bw,B,hm]
theorem vr {f:Nat} {g:List V->Hp->Option (V×Hp)} {args:List V} {v:V} {h':Hp} (d:F f=some (.cA g)) (j:g args h=some (v,h')):qQ F f args h v h':=fun fr cs ls=>by
 have:jx F fr cs h ls f args=finish fr v cs h' ls:=by simp only[jx,d,j]
 rw[this];exact⟨[],.refl _⟩
theorem FX {f:Nat} {fn:fO} {args:List V} (G:F f=some (.code fn)) (hw:WC F ⟨⟨f,fn.nt,false,none⟩,fun _=>True⟩ fn.body (fT 0 args) h (qS fn.res (fun v _=>v=.bool true) (fun _ _=>False))):
 ∃n h',run F n (enter fn f args false) [] h []=.done (.bool true) h':=by
 obtain⟨r,o,aj⟩:=hw _ (pF args);have D:enter fn f args false=⟨⟨f,fn.nt,false,none⟩,fP args .z .E,[.code fn.body],[],.run⟩:=rfl;have back:∀(e:T V) (E:Env) (h':Hp) (ms:List Pa) (l:List V) (td:List Item),bY e E->jC ms h'->il E (kill ms h') fn.res l->∀ls,Reach F (.go ⟨⟨f,fn.nt,false,none⟩,e,td,marks ms [],.returning⟩ [] h' ls) (.done (oneOf l) (kill ms h')):=by
  intro e E h' ms l td he ha hl ls;refine(mu (fr:=⟨⟨f,fn.nt,false,none⟩,e,td,[],.returning⟩) ms ha (by intro e;cases e)).trans (.one ?_);show unwind F ⟨⟨f,fn.nt,false,none⟩,e,td,[],.returning⟩ [] (kill ms h') ls=_;simp only[unwind,G,hl e he,doReturn,bw]
 have go:lF r []->∃x,Ends ⟨⟨f,fn.nt,false,none⟩,fun _=>True⟩ [] [] [] [] r x/\Reach F (.go (enter fn f args false) [] h []) x:=fun ho=>by
  obtain⟨x,hx,hr⟩:=aj [] [] [] [] trivial ho;exact⟨x,hx,by rw[D];exact(lG _ _ _ _ _ _ _ _).trans hr⟩
 have fin:∀v h',Reach F (.go (enter fn f args false) [] h []) (.done v h')->v=.bool true->∃n h',run F n (enter fn f args false) [] h []=.done (.bool true) h':=fun v h' hr hv=>by
  subst hv;obtain⟨n,hn⟩:=hr.run rfl;exact⟨n,h',hn⟩
 cases o with
 | @n e' h' ms B A hq=>
   obtain⟨ha,l,hl,j⟩:=hq;obtain⟨x,hx,hr⟩:=go (fun _ _ _ _ d=>by cases d);cases hx with|n _ _ _ xs _=>
   exact fin _ _ (hr.trans (.trans (.one rfl) (back _ _ _ _ _ _ A ha hl _))) j
 |x _ hq=>exact hq.elim
 | @r e' h' ms B A hq=>
   obtain⟨ha,l,hl,j⟩:=hq;obtain⟨x,hx,hr⟩:=go (fun _ _ _ _ d=>by cases d);cases hx with
   |r _ _ _ td xs _=>exact fin _ _ (hr.trans (back _ _ _ _ _ _ A ha hl _)) j
 |p _ hq=>exact hq.2.elim
theorem FY {P:Program} (hN:ou P=true) (A:mr P F) {f:Nat} {fn:fO} (B:F f=some (.code fn)) {args:List V} {ce:List Value} {w:World} {U:AM} {Λ:Pa->Prop} {h0:Hp}
 (O:aS ⟨P,w,w.heap.size,false⟩ U Λ h0 [] w) (ha:bd U args ce)
 (hw:WC F ⟨⟨f,fn.nt,false,none⟩,fun _=>True⟩ fn.body (fT 0 args) h0 (qS fn.res (fun v _=>v=.bool true) (fun _ _=>False))):
 Calls P f ce.toArray w fun e w'=>e=.returned (.bool true)/\Kept w w':=by
 intro bh;have hc:=A.code f fn B;obtain⟨n,h',M⟩:=FX B hw;have j:=pA (C:=⟨P,w,w.heap.size,false⟩) (U:=U) (h:=h0) (m:=0) (f:=f) hc (args:=args) (ce:=ce) ha false;have L:Rel ⟨P,w,w.heap.size,false⟩ bh f (enter fn f args false) [] h0 [] (lone (Frame.enter P f ce.toArray .normal) bh w):=
  ⟨_,_,w,0,_,_,rfl,O,cS _,j.1,by rw[j.2.1,j.2.2];exact .nil 0⟩
 have D:=sx (C:=⟨P,w,w.heap.size,false⟩) (bh:=bh) (f0:=f) F (vo P) (A.c rfl) (vp hN) n L;rw[M]at D;obtain⟨co,w',c,ac,R,Q,o,aj,G,d,I⟩:=D;cases I;exact⟨.returned (.bool true),w',co,⟨rfl,d.size,fun i hi=>d.low i hi,d.still.1,d.still.2.1⟩,o,aj,G⟩
end
theorem aS.start (P:Program) (w:World):aS ⟨P,w,w.heap.size,false⟩ (fun _=>none) (fun _=>False) hI [] w:=by
 have no:∀(a:Pa) (L:Loc),(fun _=>none:AM) a=some L->False:=fun a L h=>by cases h
 exact{fQ:=fun a L h=>(no a L h).elim,aw:=fun a L h=>(no a L h).elim,inj:=fun a _ L _ h=>(no a L h).elim,live:=fun a L _ h=>(no a L h).elim,wr:=fun a L _ h=>(no a L h).elim,
       low:=fun i _=>rfl,size:=aB _,still:=kz.refl _ w,fresh:=fun a _=>by(show T.E.get a=none);cases a<;>rfl,gS:=fun a x h=>by(simp[eX]at h)}
theorem aS.yS {C:Cx} {U:AM} {Λ:Pa->Prop} {h:Hp} {ls:List LE} {w:World} (s:aS C U Λ h ls w) {L:Loc} {l:List V} (hL:L.aw<C.N0) {cs:Array Value} {el:TypeId} {fr:Nat×Nat} (W:w.heap[L.aw]? =some (.cells cs el fr)) (ht:cs.size=L.top)
 (hc:ky (U.put h.next L) l cs L.base):aS C (U.put h.next L) (fun x=>Λ x\/x=h.next) (h.alloc (.ro l)) ls w:=by
 have Z:=s.iP;have Y:=AM.iO (U:=U) (a:=h.next) (L:=L) Z;have A:∀x,(h.alloc (.ro l)).get x=if h.next=x then some (.ro l)else h.get x:=fun x=>by simp[bn.alloc,bn.get,T.ft]
 have F:(h.alloc (.ro l)).next.toNat=h.next.toNat+1:=Pa.gm _;have aC:∀x M,(U.put h.next L) x=some M->x≠h.next->U x=some M:=fun x M hx ac=>by simpa[AM.put,ac]using hx
 have new:∀M,(U.put h.next L) h.next=some M->M=L:=fun M G=>by simp[AM.put]at G;exact G.symm
 refine⟨fun x M hx=>?_,fun x M hx D=>?_,fun x y M K hx O D ag e I=>?_,fun x M c hx j=>?_,fun x M c hx D j hr=>?_,s.low,s.size,s.still,fun x hx=>?_,fun x y hx=>?_⟩
 ·rw[F];by_cases d:x=h.next
  ·subst d;omega
  ·exact nT (s.fQ x M (aC x M hx d))
 ·by_cases d:x=h.next
  ·subst d;rw[new M hx];exact⟨.ro l,by rw[A];simp,cs,el,fr,W,ht,hc⟩
  ·have o:=D.resolve_right d;obtain⟨c,R,S⟩:=s.aw x M (aC x M hx d) o;exact⟨c,by rw[A,ab (Ne.symm d)];exact R,S.mono Y (fun _ _ h=>h) rfl⟩
 ·by_cases d:x=h.next
  ·by_cases B:y=h.next
   ·rw[d,B]
   ·exfalso;subst d;rw[new M hx]at I;omega
  ·by_cases B:y=h.next
   ·exfalso;subst B;rw[new K O]at e;omega
   ·exact s.inj x y M K (aC x M hx d) (aC y K O B) (D.resolve_right d) (ag.resolve_right B) e I
 ·by_cases d:x=h.next
  ·exact .inl (.inr d)
  ·rw[A,ab (Ne.symm d)]at j;rcases s.live x M c (aC x M hx d) j with o|o
   ·exact .inl (.inl o)
   ·exact .inr o
 ·by_cases d:x=h.next
  ·subst d;rw[A,ae rfl]at j;cases j;cases hr
  ·have o:=D.resolve_right d;rw[A,ab (Ne.symm d)]at j;exact s.wr x M c (aC x M hx d) o j hr
 ·rw[F]at hx;have Q:h.next≠x:=fun e=>by subst e;omega
  rw[A,ab Q];exact s.fresh x (by omega)
 ·rw[F];exact nT (s.gS x y hx)
inductive kG (E:Env):List (Nat×Nat×Od)->List V->List V->Prop
 |nil {z:List V}:kG E [] z z
 |cons {I n:Nat} {x:Od} {a:V} {r:List (Nat×Nat×Od)} {z z' l:List V} (hx:ay E x a) (hn:Nat.beq a.cells.length n=true) (hs:aY a.cells=true) (hz:cT I z a.cells=some z') (hr:kG E r z' l):kG E ((I,n,x)::r) z l
theorem kG.ev {E:Env} {ps:List (Nat×Nat×Od)} {z l:List V} (h:kG E ps z l) {e:T V} (he:bY e E):gN e ps z=some l:=by
 induction h with
 |nil=>rfl
 |cons hx hn hs hz _ d=>simp only[gN,hx e he,hn,hs,hz,aE,d]
def gU (E:Env) (x:Option Od) (a:Option V):Prop:=∀e,bY e E->aZ e x=a
theorem gU.none {E:Env}:gU E none none:=fun _ _=>rfl
theorem gU.some {E:Env} {x:Od} {a:V} (h:ay E x a):gU E (some x) (some a):=fun e he=>by simp only[aZ,h e he]
namespace ad
variable{F:Nat->Option aP} {K:KX} {E:Env} {h:Hp} {Q:ep} {rs:List (RS ak)} {d:Nat} {g:Option (Pa×Bool)}
theorem pu {f:T V->Hp->Option V} {v:V} (hw:aA E g .yes) (j:∀e,bY e E->f e h=some v) (hn:WR F K rs ((d,v)::E) h Q):WR F K (.op ⟨some (pa d),.pu f,g⟩::rs) E h Q:=WR.pu (d:=some d) hw j hn
theorem cY {f:T V->Option (ak×(Pa->V))} {b:ak} {mk:Pa->V} (hw:aA E g .yes) (j:∀e,bY e E->f e=some (b,mk)) (hn:WR F K rs ((d,mk h.next)::E) (h.alloc b) Q):WR F K (.op ⟨some (pa d),.cY f,g⟩::rs) E h Q:=WR.cY (d:=some d) hw j hn
theorem st {f:T V->Hp->Option (V×Hp)} {v:V} {h':Hp} (hw:aA E g .yes) (j:∀e,bY e E->f e h=some (v,h')) (hn:WR F K rs ((d,v)::E) h' Q):WR F K (.op ⟨some (pa d),.st f,g⟩::rs) E h Q:=WR.st (d:=some d) hw j hn
theorem sF {f:T V->Hp->Option (V×Hp)} {v:V} {h':Hp} (hw:aA E g .yes) (j:∀e,bY e E->f e h=some (v,h')) (hn:WR F K rs E h' Q):WR F K (.op ⟨none,.st f,g⟩::rs) E h Q:=WR.st (d:=none) hw j hn
theorem no {j:bx} (hw:aA E g .no) (hn:WR F K rs ((d,cV)::E) h Q):WR F K (.op ⟨some (pa d),j,g⟩::rs) E h Q:=WR.no (d:=some d) hw hn
theorem mv {x:Od} {a:V} (hw:aA E g .yes) (hx:ay E x a) (hn:WR F K rs ((d,a)::E) h Q):WR F K (.op ⟨some (pa d),lb x,g⟩::rs) E h Q:=
 pu hw (fun e he=>by simp only[hx e he]) hn
theorem pick {c x y:Od} {t:Bool} {a b:V} (hw:aA E g .yes) (hc:ay E c (.bool t)) (hx:ay E x a) (j:ay E y b) (hn:WR F K rs ((d,bif t then a else b)::E) h Q):WR F K (.op ⟨some (pa d),cU c x y,g⟩::rs) E h Q:=
 pu hw (fun e he=>by simp only[hc e he,hx e he,j e he]) hn
theorem build {z l:List V} {ps:List (Nat×Nat×Od)} (hw:aA E g .yes) (j:kG E ps z l) (hn:WR F K rs ((d,.agg l)::E) h Q):WR F K (.op ⟨some (pa d),aO z ps,g⟩::rs) E h Q:=
 pu hw (fun e he=>by simp only[j.ev he]) hn
theorem load {n:Option Nat} {x:Od} {a v:V} (hw:aA E g .yes) (hx:ay E x a) (hl:eE h n a=some v) (hn:WR F K rs ((d,v)::E) h Q):WR F K (.op ⟨some (pa d),b2 n x,g⟩::rs) E h Q:=
 pu hw (fun e he=>by simp only[hx e he,hl]) hn
theorem nil? {x:Od} {a:Pa} {I:Nat} (hw:aA E g .yes) (hx:ay E x (.ptr a I)) (hn:WR F K rs ((d,.ptr a I)::E) h Q):WR F K (.op ⟨some (pa d),gP x,g⟩::rs) E h Q:=
 pu hw (fun e he=>by simp only[hx e he]) hn
theorem bin {op:BinOp} {q:cy} {x y:Od} {a b v:V} (hw:aA E g .yes) (hx:ay E x a) (j:ay E y b) (hv:b0 op q a b=some v) (hn:WR F K rs ((d,v)::E) h Q):WR F K (.op ⟨some (pa d),bc op q x y,g⟩::rs) E h Q:=
 pu hw (fun e he=>by simp only[hx e he,j e he,hv]) hn
theorem un {op:UnOp} {x:Od} {a v:V} (hw:aA E g .yes) (hx:ay E x a) (hv:pg op a=some v) (hn:WR F K rs ((d,v)::E) h Q):WR F K (.op ⟨some (pa d),dj op x,g⟩::rs) E h Q:=
 pu hw (fun e he=>by simp only[hx e he,hv]) hn
theorem mw {k j:IntKind} {x:Od} {n:Int} (hw:aA E g .yes) (hx:ay E x (.int j n)) (hn:WR F K rs ((d,.int k (ek k n))::E) h Q):WR F K (.op ⟨some (pa d),cH k x,g⟩::rs) E h Q:=
 pu hw (fun e he=>by simp only[hx e he]) hn
theorem sJ {x:Od} {a:Pa} {I n:Nat} {c:fM} {l:List V} {s:List UInt8} (hw:aA E g .yes) (hx:ay E x (.sl a I n c)) (hl:h.b1 a I n=some l) (hs:bytesOf l=some s) (hn:WR F K rs ((d,.str s)::E) h Q):
 WR F K (.op ⟨some (pa d),dk x,g⟩::rs) E h Q:=
 pu hw (fun e he=>by simp only[hx e he,hl,hs]) hn
theorem FZ {x:Od} (hw:aA E g .yes) (hx:ay E x (.no .sl)) (hn:WR F K rs ((d,.str [])::E) h Q):WR F K (.op ⟨some (pa d),dk x,g⟩::rs) E h Q:=
 pu hw (fun e he=>by simp only[hx e he]) hn
theorem vt {t:Nat} {x:Od} {a:V} (hw:aA E g .yes) (hx:ay E x a) (hn:WR F K rs ((d,.iface t a)::E) h Q):WR F K (.op ⟨some (pa d),qt t x,g⟩::rs) E h Q:=
 pu hw (fun e he=>by simp only[hx e he]) hn
theorem sK {f:Nat} {xs:List Od} {vs:List V} (hw:aA E g .yes) (hx:kE E xs vs) (hn:WR F K rs ((d,.fn f vs)::E) h Q):WR F K (.op ⟨some (pa d),lf f xs,g⟩::rs) E h Q:=
 pu hw (fun e he=>by simp only[hx.ev he]) hn
theorem slice {s:Nat} {x:Od} {lo hi mx:Option Od} {a v:V} {B A j:Option V} (hw:aA E g .yes) (hx:ay E x a) (o:gU E lo B) (aj:gU E hi A) (D:gU E mx j) (hv:dx s a B A j=some v) (hn:WR F K rs ((d,v)::E) h Q):
 WR F K (.op ⟨some (pa d),dO s x lo hi mx,g⟩::rs) E h Q:=
 pu hw (fun e he=>by simp only[hx e he,o e he,aj e he,D e he,hv];cases j<;>rfl) hn
theorem gO {x:Od} {lo hi:Option Od} {a v:V} {A j:Option V} (hw:aA E g .yes) (hx:ay E x a) (o:gU E lo A) (aj:gU E hi j) (hv:Go.Ev.gO a A j=some v) (hn:WR F K rs ((d,v)::E) h Q):
 WR F K (.op ⟨some (pa d),ma x lo hi,g⟩::rs) E h Q:=
 pu hw (fun e he=>by simp only[hx e he,o e he,aj e he,hv]) hn
theorem uf {n s:Nat} {x:Od} {lo hi:Option Od} {a v:V} {A j:Option V} (hw:aA E g .yes) (hx:ay E x a) (o:gU E lo A) (aj:gU E hi j) (hv:Go.Ev.uf n s a A j=some v) (hn:WR F K rs ((d,v)::E) h Q):
 WR F K (.op ⟨some (pa d),C8 n s x lo hi,g⟩::rs) E h Q:=
 pu hw (fun e he=>by simp only[hx e he,o e he,aj e he,hv]) hn
theorem aD {off:Nat} {x:Od} {a:Pa} {I:Nat} (hw:aA E g .yes) (hx:ay E x (.ptr a I)) (hn:WR F K rs ((d,.ptr a (I+off))::E) h Q):WR F K (.op ⟨some (pa d),lg off x,g⟩::rs) E h Q:=
 pu hw (fun e he=>by simp only[hx e he]) hn
theorem pG {s:Nat} {x i:Od} {a:Pa} {I n j:Nat} {c:fM} {k:IntKind} (hw:aA E g .yes) (hx:ay E x (.sl a I n c)) (hi:ay E i (.int k (j:Int))) (hj:j<n) (hn:WR F K rs ((d,.ptr a (I+j*s))::E) h Q):
 WR F K (.op ⟨some (pa d),bs none s x i,g⟩::rs) E h Q:=
 pu hw (fun e he=>by
  have o:Nat.blt j n=true:=by simpa[pe]using hj
  have A:i.ev e=.int k (.ofNat j):=hi e he;simp only[hx e he,A,o,aE]) hn
theorem pH {s len:Nat} {x i:Od} {a:Pa} {I j:Nat} {k:IntKind} (hw:aA E g .yes) (hx:ay E x (.ptr a I)) (hi:ay E i (.int k (j:Int))) (hj:j<len) (hn:WR F K rs ((d,.ptr a (I+j*s))::E) h Q):
 WR F K (.op ⟨some (pa d),bs (some len) s x i,g⟩::rs) E h Q:=
 pu hw (fun e he=>by
  have o:Nat.blt j len=true:=by simpa[pe]using hj
  have A:i.ev e=.int k (.ofNat j):=hi e he;simp only[hx e he,A,o,aE]) hn
theorem gy {x i:Od} {s:List UInt8} {j:Nat} {k:IntKind} {b:UInt8} (hw:aA E g .yes) (hx:ay E x (.str s)) (hi:ay E i (.int k (j:Int))) (hj:s[j]? =some b) (hn:WR F K rs ((d,.int .u8 (b.toNat:Int))::E) h Q):
 WR F K (.op ⟨some (pa d),gi x i,g⟩::rs) E h Q:=
 pu hw (fun e he=>by
  have o:i.ev e=.int k (.ofNat j):=hi e he;simp only[hx e he,o,lp,hj];rfl) hn
theorem ext {x:Od} {i:Nat} {l:List V} {v:V} (hw:aA E g .yes) (hx:ay E x (.aN l)) (hv:nth l i=some v) (hn:WR F K rs ((d,v)::E) h Q):WR F K (.op ⟨some (pa d),ui x i,g⟩::rs) E h Q:=
 pu hw (fun e he=>by simp only[hx e he,hv]) hn
theorem cb {x:Od} {s:List UInt8} (hw:aA E g .yes) (hx:ay E x (.str s)) (hn:WR F K rs ((d,.int .i64 (s.length:Int))::E) h Q):WR F K (.op ⟨some (pa d),b4 x,g⟩::rs) E h Q:=
 pu hw (fun e he=>by simp only[hx e he];rfl) hn
theorem kH {m:Bool} {x y:Od} {a b:V} {v:V} (hw:aA E g .yes) (hx:ay E x a) (j:ay E y b) (hv:mm m a b=some v) (hn:WR F K rs ((d,v)::E) h Q):WR F K (.op ⟨some (pa d),iJ m x [y],g⟩::rs) E h Q:=
 pu hw (fun e he=>by simp only[la,hx e he,j e he,hv]) hn
theorem look {q:cy} {z:V} {x i:Od} {ok:Bool} {a b v:V} (hw:aA E g .yes) (hx:ay E x a) (hi:ay E i b) (hv:ph h q z a b ok=some v) (hn:WR F K rs ((d,v)::E) h Q):WR F K (.op ⟨some (pa d),qu q z x i ok,g⟩::rs) E h Q:=
 pu hw (fun e he=>by simp only[hx e he,hi e he,hv]) hn
theorem alloc {z:List V} (hw:aA E g .yes) (hn:WR F K rs ((d,.ptr h.next 0)::E) (h.alloc (.cells z false)) Q):WR F K (.op ⟨some (pa d),av z,g⟩::rs) E h Q:=
 cY (mk:=fun a=>.ptr a 0) hw (fun _ _=>rfl) hn
theorem box {x:Od} {a:V} (hw:aA E g .yes) (hx:ay E x a) (hs:aY a.cells=true) (hn:WR F K rs ((d,.ptr h.next 0)::E) (h.alloc (.cells a.cells false)) Q):WR F K (.op ⟨some (pa d),r1 x,g⟩::rs) E h Q:=
 cY (mk:=fun a=>.ptr a 0) hw (fun e he=>by simp only[hx e he,hs,aE]) hn
theorem a8 {z l:List V} {n:Nat} {ps:List (Nat×Nat×Od)} (hw:aA E g .yes) (j:kG E ps z l) (hs:aY l=true) (hn:WR F K rs ((d,.sl h.next 0 n (.ex n))::E) (h.alloc (.cells l false)) Q):
 WR F K (.op ⟨some (pa d),aH z n ps,g⟩::rs) E h Q:=
 cY (mk:=fun a=>.sl a 0 n (.ex n)) hw (fun e he=>by simp only[j.ev he,hs,aE]) hn
theorem sL {x:Od} {s:List UInt8} (hw:aA E g .yes) (hx:ay E x (.str s)) (hn:WR F K rs ((d,.sl h.next 0 s.length (.un 1))::E) (h.alloc (.cells (s.map cz) false)) Q):WR F K (.op ⟨some (pa d),fN x,g⟩::rs) E h Q:=
 cY (mk:=fun a=>.sl a 0 s.length (.un 1)) hw (fun e he=>by simp only[hx e he]) hn
theorem ox {z:List V} {A:Nat} {l c:Od} {n m:Nat} {k j:IntKind} (hw:aA E g .yes) (hl:ay E l (.int k (n:Int))) (hc:ay E c (.int j (m:Int))) (D:n<=m) (hm:m<=281474976710656) (B:A*m<=281474976710656)
 (hn:WR F K rs ((d,.sl h.next 0 n (.ex m))::E) (h.alloc (.cells (c5 z m) false)) Q):WR F K (.op ⟨some (pa d),hT z A l c,g⟩::rs) E h Q:=
 cY (mk:=fun a=>.sl a 0 n (.ex m)) hw (fun e he=>by
  have o:l.ev e=.int k (.ofNat n):=hl e he;have aj:c.ev e=.int j (.ofNat m):=hc e he;simp only[o,aj,gj,hA D,hA hm,hA B,k5,aE]) hn
theorem store {n:Nat} {a x:Od} {b:Pa} {I:Nat} {v:V} {h':Hp} (hw:aA E g .yes) (ha:ay E a (.ptr b I)) (hx:ay E x v) (hl:Nat.beq v.cells.length n=true) (hs:h.cG b I v.cells=some h') (hn:WR F K rs E h' Q):
 WR F K (.op ⟨none,fa n a x,g⟩::rs) E h Q:=
 sF (v:=cV) hw (fun e he=>by simp only[ha e he,hx e he,hl,hs,aE,oH]) hn
theorem app {am:Nat} {s x:Od} {a b v:V} {h':Hp} (hw:aA E g .yes) (hs:ay E s a) (hx:ay E x b) (hv:pj h am a b=some (v,h')) (hn:WR F K rs ((d,v)::E) h' Q):WR F K (.op ⟨some (pa d),qv am s x,g⟩::rs) E h Q:=
 st hw (fun e he=>by simp only[hs e he,hx e he,hv]) hn
theorem copy {am:Nat} {s x:Od} {a b v:V} {h':Hp} (hw:aA E g .yes) (hs:ay E s a) (hx:ay E x b) (hv:qw h am a b=some (v,h')) (hn:WR F K rs ((d,v)::E) h' Q):WR F K (.op ⟨some (pa d),qx am s x,g⟩::rs) E h Q:=
 st hw (fun e he=>by simp only[hs e he,hx e he,hv]) hn
theorem call [eY K] {n:Nat} {xs:List Od} {vs:List V} {v:V} {h':Hp} (hw:aA E g .yes) (hx:kE E xs vs) (hc:qQ F n vs h v h') (hn:WR F K rs ((d,v)::E) h' Q):WR F K (.op ⟨some (pa d),aI n xs,g⟩::rs) E h Q:=
 WR.call (d:=some d) hw (fun e he=>by simp only[hx.ev he]) hc hn
theorem F2 [eY K] {n:Nat} {f:Od} {xs:List Od} {vs a2:List V} {v:V} {h':Hp} (hw:aA E g .yes) (j:ay E f (.fn n a2)) (hx:kE E xs vs) (hc:qQ F n (vs++a2) h v h') (hn:WR F K rs ((d,v)::E) h' Q):
 WR F K (.op ⟨some (pa d),n3 f xs,g⟩::rs) E h Q:=
 WR.call (d:=some d) hw (fun e he=>by simp only[j e he,hx.ev he]) hc hn
end ad
def WF (h:Hp):Prop:=∀a:Pa,h.next.toNat<=a.toNat->h.get a=none
theorem sM (h:Hp) (b:ak) (a:Pa):(h.alloc b).get a=if h.next=a then some b else h.get a:=by simp[bn.alloc,bn.get,T.ft]
theorem sN (h:Hp) (b:ak) (a x:Pa):(h.put a b).get x=if a=x then some b else h.get x:=by simp[bn.put,bn.get,T.ft]
theorem yT (h:Hp) (b:ak):(h.alloc b).next.toNat=h.next.toNat+1:=Pa.gm _
theorem F3 (h:Hp) (b:ak) (a:Pa):(h.put a b).next=h.next:=rfl
theorem WF.lt {h:Hp} (w:WF h) {a:Pa} {b:ak} (d:h.get a=some b):a.toNat<h.next.toNat:=by
 rcases kr a.toNat h.next.toNat with o|o
 ·exact o
 ·rw[w a o]at d;cases d
theorem WF.start:WF hI:=fun a _=>by(show T.E.get a=none);cases a<;>rfl
theorem WF.alloc {h:Hp} (w:WF h) (b:ak):WF (h.alloc b):=fun a ha=>by
 rw[yT]at ha;rw[sM,ab (fun e=>by subst e;omega)];exact w a (by omega)
theorem WF.put {h:Hp} (w:WF h) {a:Pa} (ha:a.toNat<h.next.toNat) (b:ak):WF (h.put a b):=fun x hx=>by
 rw[F3]at hx;rw[sN,ab (fun e=>by subst e;omega)];exact w x hx
structure jD (n:Nat) (h h':Hp):Prop where
 next:h.next.toNat<=h'.next.toNat
 aC:∀a:Pa,a.toNat<n->h'.get a=h.get a
 wf:WF h'
theorem jD.refl {n:Nat} {h:Hp} (w:WF h):jD n h h:=⟨aB _,fun _ _=>rfl,w⟩
theorem jD.alloc {n:Nat} {h h':Hp} (a:jD n h h') (hn:n<=h'.next.toNat) (b:ak):jD n h (h'.alloc b):=
 ⟨by rw[yT];have:=a.next;omega,fun x hx=>by rw[sM,ab (fun e=>by subst e;omega)];exact a.aC x hx,a.wf.alloc b⟩
def eZ (h:Hp) (a:Pa) (I:Nat) (cs:List V):Prop:=∃l,h.cells a=some l/\∀(i:Nat) (v:V),cs[i]? =some v->l[I+i]? =some v
theorem eZ.of {h:Hp} {a:Pa} {cs:List V} {ec:Bool} (d:h.get a=some (.cells cs ec)) (hd:ec=false):eZ h a 0 cs:=by
 subst hd;exact⟨cs,by simp[bn.cells,d],fun i v hv=>by rw[eV];exact hv⟩
theorem eZ.sub {h:Hp} {a:Pa} {I:Nat} {cs:List V} (hc:eZ h a I cs) (i n:Nat):eZ h a (I+i) ((cs.drop i).take n):=by
 obtain⟨l,o,aj⟩:=hc;refine⟨l,o,fun j v hv=>?_⟩;rw[jv]at hv;split at hv
 ·rw[gJ]at hv;rw[gg];exact aj _ v hv
 ·cases hv
theorem eZ.one {h:Hp} {a:Pa} {I:Nat} {cs:List V} (hc:eZ h a I cs) {i:Nat} {v:V} (hv:cs[i]? =some v):eE h none (.ptr a (I+i))=some v:=by
 obtain⟨l,o,aj⟩:=hc;simp only[eE,o,lp];exact aj i v hv
theorem eZ.all {h:Hp} {a:Pa} {I:Nat} {cs:List V} (hc:eZ h a I cs) {n:Nat} (hn:cs.length=n):h.b1 a I n=some cs:=by
 obtain⟨l,o,aj⟩:=hc;subst hn;by_cases h0:cs.length=0
 ·have:=e8 h0;subst this;unfold bn.b1;rw[o];(try rfl)
 ·have hlen:I+cs.length<=l.length:=by
   have d:cs.length-1<cs.length:=by omega
   have:=aj (cs.length-1) _ (bj d);have:=(dS.1 this).1;omega
  rw[yN o hlen];congr 1;apply qc;intro i;rw[jv];by_cases hi:i<cs.length
  ·rw[ae hi,gJ,bj hi];exact aj i _ (bj hi)
  ·rw[ab hi,o4 (by omega)]
theorem eZ.agg {h:Hp} {a:Pa} {I:Nat} {cs:List V} (hc:eZ h a I cs) {i n:Nat} {l:List V} (hl:(cs.drop i).take n=l) (hn:l.length=n):eE h (some n) (.ptr a (I+i))=some (.agg l):=by
 have o:=hc.sub i n;rw[hl]at o;simp only[eE,o.all hn]
def Sl (h:Hp) (v:V) (k n:Nat) (cs:List V):Prop:=cs.length=n*k/\((v=.no .sl/\n=0)\/∃a I c,v=.sl a I n c/\eZ h a I cs)
theorem Sl.src {h:Hp} {v:V} {k n:Nat} {cs:List V} (hs:Sl h v k n cs):hU v=some n/\iK h k n v=some cs:=by
 rcases hs.2 with⟨rfl,rfl⟩|⟨a,I,c,rfl,aj⟩
 ·have:cs=[]:=e8 (by rw[hs.1];simp);subst this;exact⟨rfl,rfl⟩
 ·exact⟨rfl,aj.all hs.1⟩
theorem yU {a b:List V} (ha:aY a=true) (d:aY b=true):aY (a++b)=true:=by
 induction a with
 |nil=>exact d
 |cons v a h=>
  simp only[k3,aY]at ha⊢;cases hv:isScalar v with
  |false=>simp[hv]at ha
  |true=>simp only[hv,aE]at ha⊢;exact h ha
theorem sO {h:Hp} {a:Pa} {l xs l':List V} {I:Nat} (d:h.get a=some (.cells l false)) (hs:aY xs=true) (ch:cT I l xs=some l'):h.cG a I xs=some (h.put a (.cells l' false)):=by
 simp only[bn.cG,d,bw,hs,aE,ch]
theorem F4 (h:Hp) (b:ak) (a:Pa):(h.put a b).get a=some b:=by rw[sN,ae rfl]
theorem sP (h:Hp) (b:ak):(h.alloc b).get h.next=some b:=by rw[sM,ae rfl]
theorem F5 {h:Hp} {b:ak} {x:Pa} (hx:x.toNat<h.next.toNat):(h.alloc b).get x=h.get x:=by rw[sM,ab (fun e=>by subst e;omega)]
theorem yV (s:List UInt8):bytesOf (s.map cz)=some s:=by
 induction s with
 |nil=>rfl
 |cons b s d=>
  show(match bytesOf (s.map cz)with|some r=>some (UInt8.ofNat (Int.ofNat b.toNat).toNat::r)|none=>none)=_;rw[d];simp
theorem vu (l:List UInt8):aY (l.map cz)=true:=by
 induction l with
 |nil=>rfl
 |cons a l d=>exact d
theorem jD.made {h:Hp} (w:WF h) (b:ak):jD h.next.toNat h (h.alloc b):=(jD.refl w).alloc (aB _) b
namespace ad
variable{F:Nat->Option aP} {K:KX} {E:Env} {h:Hp} {Q:ep} {rs:List (RS ak)} {d:Nat} {g:Option (Pa×Bool)}
theorem F6 {x:Od} {v:V} {n:Nat} {s:List UInt8} (hw:aA E g .yes) (hx:ay E x v) (hs:Sl h v 1 n (s.map cz)) (hn:WR F K rs ((d,.str s)::E) h Q):WR F K (.op ⟨some (pa d),dk x,g⟩::rs) E h Q:=by
 rcases hs.2 with⟨rfl,rfl⟩|⟨a,I,c,rfl,hc⟩
 ·have:s=[]:=by simpa using hs.1
  subst this;exact FZ hw hx hn
 ·exact sJ hw hx (hc.all (by rw[hs.1,Nat.mul_one])) (yV s) hn
end ad
end Go.Ev
namespace Go.Ev
variable{F:Nat->Option aP} {K:KX} {E:Env} {h:Hp} {Q:ep}
theorem sQ (k:IntKind) {a:Nat} (h:a<=k7 k):ek k (a:Int)=a:=by
 show(bif Nat.ble a (k7 k)then Int.ofNat a else k.wrap (.ofNat a))=_;rw[hA h];(try rfl)
theorem qT {n:Int} (h0:-9223372036854775808<=n) (o:n<=9223372036854775807):ek .i64 n=n:=by
 cases n with
 |ofNat a=>exact sQ .i64 (show a<=9223372036854775807 by have:Int.ofNat a=(a:Int):=rfl;omega)
 |negSucc a=>
  show(bif IntKind.signed .i64&&Nat.ble a 9223372036854775807 then Int.negSucc a else _)=_
  have:a<=9223372036854775807:=by
                               have:Int.negSucc a=-((a:Int)+1):=by omega
                               omega
  rw[hA this];(try rfl)
theorem dz {q:cy} {a b:Int} (h0:-9223372036854775808<=a+b) (o:a+b<=9223372036854775807):b0 .add q (.int .i64 a) (.int .i64 b)=some (.int .i64 (a+b)):=by
 show some (V.int .i64 (ek .i64 (qp a b)))=_;rw[uE,qT h0 o]
theorem fU {q:cy} {a b:Int} (h0:-9223372036854775808<=a-b) (o:a-b<=9223372036854775807):b0 .sub q (.int .i64 a) (.int .i64 b)=some (.int .i64 (a-b)):=by
 show some (V.int .i64 (ek .i64 (qq a b)))=_;rw[uF,qT h0 o]
theorem sR {q:cy} {a b:Int} (h0:-9223372036854775808<=a*b) (o:a*b<=9223372036854775807):b0 .mul q (.int .i64 a) (.int .i64 b)=some (.int .i64 (a*b)):=by
 show some (V.int .i64 (ek .i64 (rY a b)))=_;rw[xK,qT h0 o]
theorem vv {q:cy} {k:IntKind} {a b:Int}:b0 .lss q (.int k a) (.int k b)=some (.bool (decide (a<b))):=by
 show(bif cr k k then some (V.bool (gM a b))else none)=_;have:cr k k=true:=by cases k<;>rfl
 rw[this,mf];(try rfl)
theorem yW {q:cy} {k:IntKind} {a b:Int}:b0 .leq q (.int k a) (.int k b)=some (.bool (decide (a<=b))):=by
 show(bif cr k k then some (V.bool (!gM b a))else none)=_;have:cr k k=true:=by cases k<;>rfl
 rw[this,mf];simp only[aE,aL,V.bool.injEq];by_cases d:a<=b
 ·simp[d,Int.not_lt.2 d]
 ·simp[d,Int.not_le.1 d]
theorem yX {q:cy} {k:IntKind} {a b:Int}:b0 .gtr q (.int k a) (.int k b)=some (.bool (decide (b<a))):=by
 show(bif cr k k then some (V.bool (gM b a))else none)=_;have:cr k k=true:=by cases k<;>rfl
 rw[this,mf];(try rfl)
theorem yY {q:cy} {k:IntKind} {a b:Int}:b0 .geq q (.int k a) (.int k b)=some (.bool (decide (b<=a))):=by
 show(bif cr k k then some (V.bool (!gM a b))else none)=_;have:cr k k=true:=by cases k<;>rfl
 rw[this,mf];simp only[aE,aL,V.bool.injEq];by_cases d:b<=a
 ·simp[d,Int.not_lt.2 d]
 ·simp[d,Int.not_le.1 d]
theorem yZ {k:IntKind} {a b:Int}:b0 .eql (.flat .i) (.int k a) (.int k b)=some (.bool (decide (a=b))):=by
 show(en .i (.int k a) (.int k b)).map V.bool=_;have:cr k k=true:=by cases k<;>rfl
 simp only[en,this,aE,dM,h3];rfl
theorem y0 {k:IntKind} {a b:Int}:b0 .neq (.flat .i) (.int k a) (.int k b)=some (.bool (!decide (a=b))):=by
 show(en .i (.int k a) (.int k b)).map (fun b=>V.bool (!b))=_;have:cr k k=true:=by cases k<;>rfl
 simp only[en,this,aE,dM,h3];rfl
theorem y1 {a b:List UInt8}:b0 .eql (.flat .s) (.str a) (.str b)=some (.bool (decide (a=b))):=by
 show(en .s (.str a) (.str b)).map V.bool=_;simp only[en,dM,lv];congr 2;rw[kp];simp
theorem y2 {a b:List UInt8}:b0 .neq (.flat .s) (.str a) (.str b)=some (.bool (!decide (a=b))):=by
 show(en .s (.str a) (.str b)).map (fun b=>V.bool (!b))=_;simp only[en,dM,lv];congr 3;rw[kp];simp
theorem my {q:cy} {a b:List UInt8} (h:a.length+b.length<=9223372036854775807):b0 .add q (.str a) (.str b)=some (.str (a++b)):=by
 show(bif Nat.ble (a.length+b.length) 9223372036854775807 then some (V.str (a++b))else none)=_;rw[hA h];(try rfl)
theorem WC.sS {c:Od} {a b:IC ak} {p:Prop} [Decidable p] (hc:ay E c (.bool (decide p))) (ht:p->WC F K a E h Q) (d:¬p->WC F K b E h Q):WC F K (.cond c a b) E h Q:=by
 by_cases hp:p
 ·exact WC.cond (t:=true) (by rw[decide_eq_true hp]at hc;exact hc) (ht hp)
 ·exact WC.cond (t:=false) (by rw[decide_eq_false hp]at hc;exact hc) (d hp)
theorem WC.vw {c:Od} {a b:IC ak} {t:Bool} (hc:ay E c (.bool t)) (ht:t=true->WC F K a E h Q) (d:t=false->WC F K b E h Q):WC F K (.cond c a b) E h Q:=by
 cases t with
 |true=>exact WC.cond hc (ht rfl)
 |false=>exact WC.cond hc (d rfl)
end Go.Ev
namespace Go.Ev
def y3 (v:V) (k:Nat):Prop:=match v with
 |.sl _ _ n c=>match c with
  |.ex c=>n<=c
  |.un s=>s=k
 |_=>True
theorem oz {a b:Nat} (h:a<=b):Nat.ble a b=true:=Nat.ble_eq.mpr h
theorem y4 {n c j:Nat} (hj:j<=c):dN n c none (some (.int .i64 (j:Int))) none=some (0,j,c):=by
 show(match(match Nat.ble j c with|true=>some j|false=>none:Option Nat)with|none=>none|some h=>some (0,h,c):Option (Nat×Nat×Nat))=_;rw[oz hj]
theorem oA {n c j:Nat} (hj:j<=n) (_hn:n<=c):dN n c (some (.int .i64 (j:Int))) none none=some (j,n,c):=by
 show(match(match Nat.ble j n with|true=>some j|false=>none:Option Nat)with|none=>none|some l=>some (l,n,c):Option (Nat×Nat×Nat))=_;rw[oz hj]
theorem dU (k:Nat):Nat.beq k k=true:=Nat.beq_eq.mpr rfl
theorem vx (a b:Int):gM a b=decide (a<b):=by
 have h:some (V.bool (gM a b))=some (V.bool (decide (a<b))):=vv (q:=.flat .i) (k:=.i64) (a:=a) (b:=b);injection h with h
 injection h
theorem qU (a b:Nat):mm false (.int .i64 (a:Int)) (.int .i64 (b:Int))=some (.int .i64 ((min a b:Nat):Int)):=by
 have hk:cr .i64 .i64=true:=rfl;simp only[mm,hk,aE,bw,vx];by_cases h:(b:Int)<(a:Int)
 ·rw[decide_eq_true h,aE,Nat.min_eq_right (by omega)]
 ·rw[decide_eq_false h,bw,hD (by omega)]
theorem y5 (a b:Nat):mm true (.int .i64 (a:Int)) (.int .i64 (b:Int))=some (.int .i64 ((max a b:Nat):Int)):=by
 have hk:cr .i64 .i64=true:=rfl;simp only[mm,hk,aE,vx];by_cases h:(a:Int)<(b:Int)
 ·rw[decide_eq_true h,aE,Nat.max_eq_right (by omega)]
 ·rw[decide_eq_false h,bw,Nat.max_eq_left (by omega)]
end Go.Ev
namespace Go.Ev
variable{F:Nat->Option aP} {K:KX} {E:Env} {h:Hp} {Q:ep} {rs:List (RS ak)} {g:Option (Pa×Bool)} {d:Nat}
theorem e0 (k:IntKind) (n:Int):c7 (.int k n) (.int k n)=true:=by
 show(cr k k&&gh n n)=true;rw[h3];have:cr k k=true:=by cases k<;>rfl
 simp[this]
theorem fx (s:List UInt8):c7 (.str s) (.str s)=true:=by
 show jW s s=true;rw[lv];simp
namespace ad
theorem sT {j:bx} (hw:aA E g .no) (hd:lk d E=some cV) (hn:WR F K rs E h Q):WR F K (.bX ⟨some (pa d),j,g⟩::rs) E h Q:=
 WR.bX (fun e he=>by simp only[iM,hw e he];rw[he d _ hd];(try rfl)) hn
theorem sU {n:Option Nat} {x:Od} {a v w:V} (hw:aA E g .yes) (hd:lk d E=some v) (hx:ay E x a) (hl:eE h n a=some w) (hs:same v w=true) (hn:WR F K rs E h Q):WR F K (.bX ⟨some (pa d),b2 n x,g⟩::rs) E h Q:=
 WR.bX (fun e he=>by simp only[iM,hw e he,b2];rw[he d _ hd];simp only[hx e he,hl,hs]) hn
theorem y6 {z l l':List V} {n:Nat} {ps:List (Nat×Nat×Od)} {a:Pa} (hw:aA E g .yes) (hd:lk d E=some (.sl a 0 n (.ex n))) (j:kG E ps z l) (A:aY l=true) (o:h.get a=some (.cells l' false)) (hs:b9 l l'=true) (hn:WR F K rs E h Q):
 WR F K (.bX ⟨some (pa d),aH z n ps,g⟩::rs) E h Q:=
 WR.bX (fun e he=>by
  have B:same (.sl a 0 n (.ex n)) (.sl a 0 n (.ex n))=true:=by
   show((a.beq a&&Nat.beq 0 0)&&(Nat.beq n n&&Nat.beq n n))=true;rw[dU n,(Pa.beq_iff a a).2 rfl];(try rfl)
  simp only[iM,hw e he,aH];rw[he d _ hd];simp only[j.ev he,A,aE,ln,o,B];exact hs) hn
end ad
theorem sV (k g k' d:Int) (l l':List UInt8):b0 .neq (.agg [(0,.i),(1,.i),(2,.s)]) (.agg [.int .i64 k,.int .i64 g,.str l]) (.agg [.int .i64 k',.int .i64 d,.str l'])=some (.bool (!decide (k=k'/\g=d/\l=l'))):=by
 show(ku [V.int .i64 k,.int .i64 g,.str l] [.int .i64 k',.int .i64 d,.str l'] [(0,.i),(1,.i),(2,.s)]).map (fun b=>V.bool (!b))=_;have hk:cr .i64 .i64=true:=rfl;have n0:∀(a b c:V),nth [a,b,c] 0=some a:=fun _ _ _=>rfl;have n1:∀(a b c:V),nth [a,b,c] 1=some b:=fun _ _ _=>rfl;have D:∀(a b c:V),nth [a,b,c] 2=some c:=fun _ _ _=>rfl;simp only[ku,n0,n1,D,en,hk,aE,h3,lv];by_cases o:k=k'
 ·have h:(k==k')=true:=by simpa using o
  by_cases aj:g=d
  ·have j:(g==d)=true:=by simpa using aj
   by_cases A:l=l'
   ·have B:(l==l')=true:=by simpa using A
    rw[h,j,B];simp[o,aj,A]
   ·have B:(l==l')=false:=by simpa using A
    rw[h,j,B];simp[A]
  ·have j:(g==d)=false:=by simpa using aj
   rw[h,j];simp[aj]
 ·have h:(k==k')=false:=by simpa using o
  rw[h];simp[o]
end Go.Ev
namespace Go.Ev
def ak.rd:ak->Option (List V)
 |.cells l d=>bif d then none else some l
 |.ro l=>some l
 |_=>none
theorem vy {h:Hp} {a:Pa} {b:ak} {l:List V} (o:h.get a=some b) (j:b.rd=some l):h.cells a=some l:=by
 unfold bn.cells;rw[o];cases b with
 |cells c d=>cases d<;>simp[ak.rd]at j⊢;exact j
 |ro c=>simpa[ak.rd]using j
 |_=>simp[ak.rd]at j
abbrev Fz:=Pa->Option ak
def Fz.Le (O ψ:Fz):Prop:=∀a b,O a=some b->ψ a=some b
theorem Fz.Le.refl (O:Fz):O.Le O:=fun _ _ h=>h
theorem Fz.Le.trans {O ψ d:Fz} (h:O.Le ψ) (k:ψ.Le d):O.Le d:=fun a b x=>k a b (h a b x)
def Fz.put (O:Fz) (a:Pa) (b:ak):Fz:=fun x=>if x=a then some b else O x
abbrev Ob:=Option Pa×ak
structure SH (O:Fz) (h:Hp) (R:List Ob):Prop where
 wf:WF h
 jE:∀a b,O a=some b->h.get a=some b
 own:∀(i:Nat) (a:Pa) (b:ak),R[i]? =some (some a,b)->h.get a=some b/\O a=none
 apart:∀(i j:Nat) (a:Pa) (b c:ak),R[i]? =some (some a,b)->R[j]? =some (some a,c)->i=j
theorem SH.less {O ψ:Fz} {h:Hp} {R:List Ob} (s:SH ψ h R) (d:O.Le ψ):SH O h R:=
 ⟨s.wf,fun a b x=>s.jE a b (d a b x),fun i a b x=>⟨(s.own i a b x).1,by
   cases e:O a with
   |none=>rfl
   |some c=>have:=d a c e;rw[(s.own i a b x).2]at this;cases this⟩,s.apart⟩
theorem SH.pick {O:Fz} {h:Hp} {R d:List Ob} (s:SH O h R) (f:Nat->Nat) (o:∀(i:Nat) (I:Ob),d[i]? =some I->R[f i]? =some I) (A:∀i j:Nat,i<d.length->j<d.length->f i=f j->i=j):SH O h d:=
 ⟨s.wf,s.jE,fun i a b x=>s.own (f i) a b (o i _ x),fun i j a b c x y=>A i j (dS.1 x).1 (dS.1 y).1 (s.apart _ _ a b c (o i _ x) (o j _ y))⟩
theorem y7 {U:Type} (l:List U) (i j:Nat):(l.eraseIdx i)[j]? =if j<i then l[j]? else l[j+1]? :=List.getElem?_eraseIdx ..
theorem SH.erase {O:Fz} {h:Hp} {R:List Ob} (s:SH O h R) (i:Nat):SH O h (R.eraseIdx i):=
 s.pick (fun j=>if j<i then j else j+1) (fun j I hj=>by rw[y7]at hj;split<;>simp_all) (fun a b _ _ h=>by split at h<;>split at h<;>omega)
theorem SH.front {O:Fz} {h:Hp} {R ad:List Ob} {i:Nat} {I:Ob} (ho:R[i]? =some I) (s:SH O h (R++ad)):SH O h (I::(R.eraseIdx i++ad)):=by
 have hi:i<R.length:=(dS.1 ho).1;refine s.pick (fun j=>if j=0 then i else if j-1<i then j-1 else j) (fun j x hj=>?_) (fun a b _ _ e=>by(split at e<;>split at e<;>(try split at e)<;>(try split at e)<;>omega));cases j with
 |zero=>
  simp only[gd,aL]at hj;subst hj;rw[ae rfl,dt hi];exact ho
 |succ j=>
  rw[dF]at hj;rw[ab (by omega),qb];have hlen:(R.eraseIdx i).length=R.length-1:=List.length_eraseIdx_of_lt hi;by_cases o:j<R.length-1
  ·rw[dt (by omega),y7]at hj;split
   ·rename_i aj;rw[ae aj]at hj;rw[dt (by omega)];exact hj
   ·rename_i aj;rw[ab aj]at hj;rw[dt (by omega)];exact hj
  ·rw[db (by omega),hlen]at hj;rw[ab (by omega),db (by omega),<-hj];congr 1;omega
theorem SH.back {O:Fz} {h:Hp} {R ad:List Ob} {i:Nat} {I:Ob} (hi:i<=R.length) (s:SH O h (I::(R++ad))):SH O h ((R.take i++I::R.drop i)++ad):=by
 refine s.pick (fun j=>if j<i then j+1 else if j=i then 0 else j) (fun j x hj=>?_) (fun a b _ _ e=>by(split at e<;>split at e<;>(try split at e)<;>(try split at e)<;>omega));have d:(R.take i++I::R.drop i)++ad=R.take i++(I::(R.drop i++ad)):=by simp
 rw[d]at hj;have A:(R.take i).length=i:=by rw[cE];omega
 by_cases o:j<i
 ·rw[dt (by omega)]at hj;rw[ae o,dF,<-hj,jv,ae o,dt (by omega)]
 ·rw[db (by omega),A]at hj;rw[ab o];by_cases aj:j=i
  ·subst aj;rw[ae rfl];rw[iG]at hj;exact hj
  ·rw[ab aj];obtain⟨k,rfl⟩:∃k,j=i+k+1:=⟨j-i-1,by omega⟩
   rw[show i+k+1-i=k+1 by omega,dF]at hj;rw[dF,<-hj];by_cases B:k<R.length-i
   ·rw[dt (by omega),dt (by rw[bW];omega),gJ]
   ·rw[db (by omega),db (by rw[bW];omega),bW];congr 1;omega
theorem SH.lt {O:Fz} {h:Hp} {R:List Ob} (s:SH O h R) {i:Nat} {a:Pa} {b:ak} (hi:R[i]? =some (some a,b)):a.toNat<h.next.toNat:=s.wf.lt (s.own i a b hi).1
theorem SH.alloc {O:Fz} {h:Hp} {R:List Ob} (s:SH O h R) (b:ak):SH O (h.alloc b) ((some h.next,b)::R):=by
 have aC:∀a:Pa,a.toNat<h.next.toNat->(h.alloc b).get a=h.get a:=fun a ha=>F5 ha;refine⟨s.wf.alloc b,fun a c hc=>?_,fun i a c hi=>?_,fun i j a c d hi hj=>?_⟩
 ·have:=s.jE a c hc;rw[aC a (s.wf.lt this)];exact this
 ·cases i with
  |zero=>
   simp only[gd,aL,dH]at hi;obtain⟨rfl,rfl⟩:=hi;refine⟨sP _ _,?_⟩;cases e:O h.next with
   |none=>rfl
   |some c=>have:=s.wf.lt (s.jE _ _ e);omega
  |succ i=>
   rw[dF]at hi;have:=s.own i a c hi;exact⟨by rw[aC a (s.wf.lt this.1)];exact this.1,this.2⟩
 ·cases i with
  |zero=>
   cases j with
   |zero=>rfl
   |succ j=>
    simp only[gd,aL,dH]at hi;rw[dF]at hj;have:=s.lt hj;rw[<-hi.1]at this;omega
  |succ i=>
   rw[dF]at hi;cases j with
   |zero=>
    simp only[gd,aL,dH]at hj;have:=s.lt hi;rw[<-hj.1]at this;omega
   |succ j=>
    rw[dF]at hj;rw[s.apart i j a c d hi hj]
theorem SH.put {O:Fz} {h:Hp} {R:List Ob} (s:SH O h R) {i:Nat} {a:Pa} {b:ak} (hi:R[i]? =some (some a,b)) (b':ak):SH O (h.put a b') (R.set i (some a,b')):=by
 have M:=(dS.1 hi).1;obtain⟨G,D⟩:=s.own i a b hi;have key:∀(j:Nat) (I:Ob),(R.set i (some a,b'))[j]? =some I->(j=i/\I=(some a,b'))\/(j≠i/\R[j]? =some I):=fun j I hj=>by
  rw[kn]at hj;split at hj
  ·rename_i e;subst e;exact .inl ⟨rfl,by simpa using hj.symm⟩
  ·rename_i e;exact .inr ⟨fun F=>e F.symm,hj⟩
 refine⟨s.wf.put (s.wf.lt G) b',fun x c hx=>?_,fun j x c hj=>?_,fun j k x c d hj hk=>?_⟩
 ·rw[sN,ab (fun e=>by subst e;rw[D]at hx;cases hx)];exact s.jE x c hx
 ·rcases key j _ hj with⟨rfl,e⟩|⟨L,A⟩
  ·simp only[dH,aL]at e;obtain⟨rfl,rfl⟩:=e;exact⟨F4 _ _ _,D⟩
  ·have:=s.own j x c A;refine⟨?_,this.2⟩;rw[sN,ab (fun e=>by subst e;exact L (s.apart j i a c b A hi))];exact this.1
 ·have f:∀(j:Nat) (c:ak),(R.set i (some a,b'))[j]? =some (some x,c)->∃B,R[j]? =some (some x,B):=fun j c hj=>by
   rcases key j _ hj with⟨rfl,e⟩|⟨_,A⟩
   ·simp only[dH,aL]at e;obtain⟨rfl,_⟩:=e;exact⟨b,hi⟩
   ·exact⟨c,A⟩
  obtain⟨B,o⟩:=f j c hj;obtain⟨d',aj⟩:=f k d hk;exact s.apart j k x B d' o aj
theorem SH.pI {O:Fz} {h:Hp} {R ad:List Ob} (s:SH O h (R++ad)) {i:Nat} {a:Pa} {b:ak} (hi:R[i]? =some (some a,b)) (b':ak):SH O (h.put a b') (R.set i (some a,b')++ad):=by
 have d:=(dS.1 hi).1;have:=s.put (i:=i) (by rw[dt d];exact hi) b'
 rwa [List.set_append,ae d]at this
theorem SH.fy {O:Fz} {h:Hp} {R ad:List Ob} (s:SH O h (R++ad)) {i:Nat} {a:Pa} {b:ak} (hi:R[i]? =some (some a,b)):h.get a=some b:=
 (s.own i a b (by rw[dt (dS.1 hi).1];exact hi)).1
theorem SH.freeze {O:Fz} {h:Hp} {R ad:List Ob} (s:SH O h (R++ad)) {i:Nat} {a:Pa} {b:ak} (hi:R[i]? =some (some a,b)):SH (O.put a b) h (R.eraseIdx i++ad)/\O.Le (O.put a b):=by
 have o:=s.front hi;obtain⟨B,A⟩:=o.own 0 a b rfl;refine⟨⟨s.wf,fun x c hx=>?_,fun j x c hj=>?_,fun j k x c d hj hk=>?_⟩,fun x c hx=>?_⟩
 ·unfold Fz.put at hx;split at hx
  ·rename_i e;subst e;simp at hx;subst hx;exact B
  ·exact s.jE x c hx
 ·have aj:=o.own (j+1) x c (by simpa using hj);refine⟨aj.1,?_⟩;unfold Fz.put;rw[ab (fun e=>by subst e;have:=o.apart 0 (j+1) x b c rfl (by simpa using hj);omega)];exact aj.2
 ·have:=o.apart (j+1) (k+1) x c d (by simpa using hj) (by simpa using hk);omega
 ·unfold Fz.put;rw[ab (fun e=>by subst e;rw[A]at hx;cases hx)];exact hx
theorem SH.F7 {O:Fz} {h h':Hp} {R ad:List Ob} {i:Nat} {a:Pa} {b:ak} (s:SH O h (R++ad)) (hi:R[i]? =some (some a,b)) (s':SH (O.put a b) h' (R.eraseIdx i++ad)):SH O h' (R++ad):=by
 have B:=(dS.1 hi).1;have D:O a=none:=(s.own i a b (by rw[dt B];exact hi)).2;have A:O.Le (O.put a b):=(s.freeze hi).2;have o:SH O h' ((some a,b)::(R.eraseIdx i++ad)):=by
  have F:h'.get a=some b:=s'.jE a b (by simp[Fz.put]);have hn:∀(j:Nat) (c:ak),(R.eraseIdx i++ad)[j]?≠some (some a,c):=fun j c hj=>by
   have:=(s'.own j a c hj).2;simp[Fz.put]at this
  refine⟨s'.wf,fun x c hx=>s'.jE x c (A x c hx),fun j x c hj=>?_,fun j k x c d hj hk=>?_⟩
  ·cases j with
   |zero=>simp only[gd,aL,dH]at hj;obtain⟨rfl,rfl⟩:=hj;exact⟨F,D⟩
   |succ j=>exact(s'.less A).own j x c (by simpa using hj)
  ·cases j with
   |zero=>
    simp only[gd,aL,dH]at hj;obtain⟨rfl,rfl⟩:=hj;cases k with
    |zero=>rfl
    |succ k=>rw[dF]at hk;exact absurd hk (hn k d)
   |succ j=>
    rw[dF]at hj;cases k with
    |zero=>
     simp only[gd,aL,dH]at hk;obtain⟨rfl,rfl⟩:=hk;exact absurd hj (hn j c)
    |succ k=>rw[dF]at hk;rw[s'.apart j k x c d hj hk]
 have aj:=SH.back (i:=i) (by rw[List.length_eraseIdx_of_lt B];omega) o;have e:(R.eraseIdx i).take i++(some a,b)::(R.eraseIdx i).drop i=R:=by
  have G:R[i]=(some a,b):=(dS.1 hi).2;rw[List.eraseIdx_eq_take_drop_succ];have hl:(R.take i).length=i:=by rw[cE];omega
  rw[List.take_append_of_le_length (by omega),kk (by omega),List.drop_append_of_le_length (by omega),jS (by omega),fo,<-G,rN,jT]
 rwa [e]at aj
def F8 (n k:Nat):fM->Prop
 |.ex c=>n<=c
 |.un s=>s=k
def FS (O:Fz) (v:V) (k n:Nat) (cs:List V):Prop:=
 cs.length=n*k/\((v=.no .sl/\n=0)\/∃a I c b l,v=.sl a I n c/\O a=some b/\b.rd=some l/\(∀(i:Nat) (u:V),cs[i]? =some u->l[I+i]? =some u)/\F8 n k c)
def EP (O:Fz) (p:V) (xs:List V):Prop:=∃a I b l,p=.ptr a I/\O a=some b/\b.rd=some l/\∀(i:Nat) (u:V),xs[i]? =some u->l[I+i]? =some u
def OV (v:V) (k n:Nat) (cs:List V) (s:Option Pa):Prop:=
 cs.length=n*k/\aY cs=true/\((v=.no .sl/\n=0/\s=none)\/(∃a,v=.sl a 0 n (.un k)/\s=some a)\/∃a,v=.sl a 0 n (.ex n)/\s=some a)
section
variable{O ψ:Fz} {h:Hp} {R ad:List Ob} {v p x:V} {k n m:Nat} {cs xs:List V} {s:Option Pa}
theorem FS.mono (hs:FS O v k n cs) (h:O.Le ψ):FS ψ v k n cs:=⟨hs.1,hs.2.imp id fun⟨a,I,c,b,l,o,aj,d⟩=>⟨a,I,c,b,l,o,h _ _ aj,d⟩⟩
theorem EP.mono (hs:EP O p xs) (h:O.Le ψ):EP ψ p xs:=let⟨a,I,b,l,o,aj,d⟩:=hs;⟨a,I,b,l,o,h _ _ aj,d⟩
theorem FS.nil (O:Fz) (k:Nat):FS O (.no .sl) k 0 []:=⟨by simp,.inl ⟨rfl,rfl⟩⟩
theorem OV.nil (k:Nat):OV (.no .sl) k 0 [] none:=⟨by simp,rfl,.inl ⟨rfl,rfl,rfl⟩⟩
theorem FS.sl (hs:FS O v k n cs) (sh:SH O h R):Sl h v k n cs:=⟨hs.1,hs.2.imp id fun⟨a,I,c,_,l,o,aj,d,j,_⟩=>⟨a,I,c,o,l,vy (sh.jE _ _ aj) d,j⟩⟩
theorem FS.len (hs:FS O v k n cs):mb v=some (.int .i64 (n:Int)):=by
 rcases hs.2 with⟨rfl,rfl⟩|⟨a,I,c,b,l,rfl,_⟩<;>rfl
theorem OV.len (ho:OV v k n cs s):mb v=some (.int .i64 (n:Int)):=by
 rcases ho.2.2 with⟨rfl,rfl,_⟩|⟨a,rfl,_⟩|⟨a,rfl,_⟩<;>rfl
theorem OV.sl (ho:OV v k n cs s) {i:Nat} (hi:R[i]? =some (s,.cells cs false)) (sh:SH O h (R++ad)):Sl h v k n cs:=by
 refine⟨ho.1,?_⟩;rcases ho.2.2 with⟨o,aj,_⟩|⟨a,o,rfl⟩|⟨a,o,rfl⟩
 ·exact .inl ⟨o,aj⟩
 ·exact .inr ⟨a,0,_,o,.of (sh.fy hi) rfl⟩
 ·exact .inr ⟨a,0,_,o,.of (sh.fy hi) rfl⟩
theorem OV.fs {b:ak} (ho:OV v k n cs s) (d:b=.cells cs false) (hs:∀a,s=some a->O a=some b):FS O v k n cs:=by
 subst d;refine⟨ho.1,?_⟩;rcases ho.2.2 with⟨o,aj,_⟩|⟨a,o,rfl⟩|⟨a,o,rfl⟩
 ·exact .inl ⟨o,aj⟩
 ·exact .inr ⟨a,0,_,_,cs,o,hs a rfl,rfl,fun i u hu=>by rw[eV];exact hu,rfl⟩
 ·exact .inr ⟨a,0,_,_,cs,o,hs a rfl,rfl,fun i u hu=>by rw[eV];exact hu,aB n⟩
theorem FS.at (hs:FS O v k n cs) {j:Nat} (hj:j<n):∃a I c,v=.sl a I n c/\EP O (.ptr a (I+j*k)) ((cs.drop (j*k)).take k):=by
 rcases hs.2 with⟨_,rfl⟩|⟨a,I,c,b,l,o,aj,d,h,_⟩
 ·omega
 ·refine⟨a,I,c,o,a,_,b,l,rfl,aj,d,fun i u hu=>?_⟩;rw[jv]at hu;split at hu
  ·rw[gJ]at hu;rw[gg];exact h _ _ hu
  ·cases hu
theorem EP.field (hp:EP O p xs) (off:Nat):∃a I,p=.ptr a I/\EP O (.ptr a (I+off)) (xs.drop off):=by
 obtain⟨a,I,b,l,o,aj,d,h⟩:=hp;exact⟨a,I,o,a,_,b,l,rfl,aj,d,fun i u hu=>by rw[gJ]at hu;rw[gg];exact h _ _ hu⟩
theorem EP.vz (hp:EP O p xs) {u:V} (hu:xs[0]? =some u) (sh:SH O h R):eE h none p=some u:=by
 obtain⟨a,I,b,l,rfl,aj,d,j⟩:=hp;simp only[eE,vy (sh.jE _ _ aj) d,lp];exact j 0 u hu
theorem EP.b1 (hp:EP O p xs) {n:Nat} {l':List V} (hl:xs.take n=l') (hn:l'.length=n) (sh:SH O h R):eE h (some n) p=some (.agg l'):=by
 obtain⟨a,I,b,l,rfl,aj,d,j⟩:=hp;have hc:eZ h a I (xs.take n):=⟨l,vy (sh.jE _ _ aj) d,fun i u hu=>j i u (by rw[jv]at hu;split at hu;exact hu;cases hu)⟩
 rw[hl]at hc;simp only[eE,hc.all hn]
theorem FS.hi (hs:FS O v k n cs) {j:Nat} (hj:j<=n):∃v',dx k v none (some (.int .i64 (j:Int))) none=some v'/\FS O v' k j (cs.take (j*k)):=by
 have hlen:(cs.take (j*k)).length=j*k:=by rw[cE,hs.1];exact hD (o6 _ hj)
 have B:∀(i:Nat) (u:V),(cs.take (j*k))[i]? =some u->cs[i]? =some u:=fun i u hu=>by rw[jv]at hu;split at hu;exact hu;cases hu
 rcases hs.2 with⟨rfl,rfl⟩|⟨a,I,c,b,l,rfl,aj,d,h,o⟩
 ·obtain rfl:j=0:=by omega
  exact⟨.no .sl,rfl,hlen,.inl ⟨rfl,rfl⟩⟩
 ·cases c with
  |ex c=>
   have A:j<=c:=fL hj o;refine⟨.sl a I j (.ex c),?_,hlen,.inr ⟨a,I,_,b,l,rfl,aj,d,fun i u hu=>h i u (B i u hu),A⟩⟩;simp only[dx,y4 A,Nat.sub_zero,Nat.zero_mul,Nat.add_zero];cases Nat.beq c 0<;>rfl
  |un s=>
   obtain rfl:s=k:=o;refine⟨.sl a I j (.un s),?_,hlen,.inr ⟨a,I,_,b,l,rfl,aj,d,fun i u hu=>h i u (B i u hu),rfl⟩⟩;simp only[dx,y4 hj,dU,aE,Nat.sub_zero,Nat.zero_mul,Nat.add_zero]
theorem FS.lo (hs:FS O v k n cs) {j:Nat} (hj:j<=n):∃v',dx k v (some (.int .i64 (j:Int))) none none=some v'/\FS O v' k (n-j) (cs.drop (j*k)):=by
 have hlen:(cs.drop (j*k)).length=(n-j)*k:=by rw[bW,hs.1,Nat.sub_mul]
 have B:∀(I:Nat) (l:List V),(∀(i:Nat) (u:V),cs[i]? =some u->l[I+i]? =some u)->∀(i:Nat) (u:V),(cs.drop (j*k))[i]? =some u->l[I+j*k+i]? =some u:=fun I l D i u hu=>by
  rw[gJ]at hu;rw[gg];exact D _ _ hu
 rcases hs.2 with⟨rfl,rfl⟩|⟨a,I,c,b,l,rfl,aj,d,h,o⟩
 ·obtain rfl:j=0:=by omega
  exact⟨.no .sl,rfl,hlen,.inl ⟨rfl,rfl⟩⟩
 ·cases c with
  |ex c=>
   have F:n<=c:=o;by_cases A:c=j
   ·subst A;obtain rfl:n=c:=by omega
    have G:cs.drop (n*k)=[]:=p8 (by rw[hs.1];exact aB _);refine⟨.sl a I (n-n) (.ex (n-n)),?_,hlen,.inr ⟨a,I,_,b,l,rfl,aj,d,fun i u hu=>by rw[G]at hu;simp at hu,aB _⟩⟩;simp only[dx,oA (aB n) (aB n),dU,aE]
   ·refine⟨.sl a (I+j*k) (n-j) (.ex (c-j)),?_,hlen,.inr ⟨a,_,_,b,l,rfl,aj,d,B I l h,by show n-j<=c-j;omega⟩⟩;simp only[dx,oA hj F,ov A,bw]
  |un s=>
   obtain rfl:s=k:=o;refine⟨.sl a (I+j*s) (n-j) (.un s),?_,hlen,.inr ⟨a,_,_,b,l,rfl,aj,d,B I l h,rfl⟩⟩;simp only[dx,oA hj (aB _),dU,aE]
theorem sW {n c i j:Nat} (d:i<=j) (hj:j<=c):dN n c (some (.int .i64 (i:Int))) (some (.int .i64 (j:Int))) none=some (i,j,c):=by
 show(match(match Nat.ble j c with|true=>some j|false=>none:Option Nat)with|none=>none|some h=>(match(match Nat.ble i h with|true=>some i|false=>none:Option Nat)with|none=>none|some l=>some (l,h,c)):Option (Nat×Nat×Nat))=_;simp only[oz hj,oz d]
theorem FS.both (hs:FS O v k n cs) {i j:Nat} (D:i<=j) (hj:j<=n):∃v',dx k v (some (.int .i64 (i:Int))) (some (.int .i64 (j:Int))) none=some v'/\FS O v' k (j-i) ((cs.drop (i*k)).take ((j-i)*k)):=by
 have hlen:((cs.drop (i*k)).take ((j-i)*k)).length=(j-i)*k:=by
  rw[cE,bW,hs.1,<-Nat.sub_mul];exact hD (o6 _ (by omega))
 have B:∀(I:Nat) (l:List V),(∀(i:Nat) (u:V),cs[i]? =some u->l[I+i]? =some u)->∀(q:Nat) (u:V),((cs.drop (i*k)).take ((j-i)*k))[q]? =some u->l[I+i*k+q]? =some u:=fun I l F q u hu=>by
  rw[jv]at hu;split at hu
  ·rw[gJ]at hu;rw[gg];exact F _ _ hu
  ·cases hu
 rcases hs.2 with⟨rfl,rfl⟩|⟨a,I,c,b,l,rfl,aj,d,h,o⟩
 ·obtain rfl:j=0:=by omega
  obtain rfl:i=0:=by omega
  exact⟨.no .sl,rfl,hlen,.inl ⟨rfl,rfl⟩⟩
 ·cases c with
  |ex c=>
   have G:n<=c:=o;by_cases A:c=i
   ·subst A;obtain rfl:n=c:=by omega
    obtain rfl:n=j:=by omega
    refine⟨.sl a I (n-n) (.ex (n-n)),?_,hlen,.inr ⟨a,I,_,b,l,rfl,aj,d,fun q u hu=>by rw[iG,Nat.zero_mul,nX]at hu;simp at hu,aB _⟩⟩;simp only[dx,sW (aB n) (aB n),dU,aE]
   ·refine⟨.sl a (I+i*k) (j-i) (.ex (c-i)),?_,hlen,.inr ⟨a,_,_,b,l,rfl,aj,d,B I l h,by show j-i<=c-i;omega⟩⟩;simp only[dx,sW D (fL hj G),ov A,bw]
  |un s=>
   obtain rfl:s=k:=o;refine⟨.sl a (I+i*s) (j-i) (.un s),?_,hlen,.inr ⟨a,_,_,b,l,rfl,aj,d,B I l h,rfl⟩⟩;simp only[dx,sW D hj,dU,aE]
theorem FS.src (hs:FS O v k n cs) (sh:SH O h R):hU v=some n/\iK h k n v=some cs:=(hs.sl sh).src
theorem SH.move {I:Ob} (sh:SH O h (I::(R++ad))) (i:Nat):SH O h (R.set i I++ad):=by
 refine sh.pick (fun j=>if j=i/\i<R.length then 0 else j+1) (fun j x hj=>?_) (fun a b _ _ e=>by split at e<;>split at e<;>omega);by_cases o:j<R.length
 ·rw[dt (by rw[pb];exact o),kn]at hj;by_cases aj:i=j
  ·subst aj;rw[ae ⟨rfl,o⟩];rw[ae rfl,ae o]at hj;exact hj
  ·rw[ab aj]at hj;rw[ab (fun e=>aj e.1.symm),dF,dt o];exact hj
 ·rw[db (by rw[pb];omega),pb]at hj;rw[ab (by omega),dF,db (by omega)];exact hj
theorem OV.jX (sh:SH O h (R++ad)) {i:Nat} (hi:R[i]? =some (s,.cells cs false)) (ho:OV v k n cs s) (G:xs.length=m*k) (I:aY xs=true) (hk:0<k) (A:n+m<=1073741824):
 ∃v' s' h',jX h k m xs v=some (v',h')/\OV v' k (n+m) (cs++xs) s'/\SH O h' (R.set i (s',.cells (cs++xs) false)++ad):=by
 have hlen:(cs++xs).length=(n+m)*k:=by rw[c2,ho.1,G,iH]
 have d:=yU ho.2.1 I;have U:=(dS.1 hi).1;cases m with
 |zero=>
  have Q:xs=[]:=e8 (by rw[G];simp);subst Q;have he:R.set i (s,.cells (cs++[]) false)=R:=by
   rw[e9];apply qc;intro j;rw[kn];split
   ·rename_i e;subst e;rw[hi]
   ·rfl
  refine⟨v,s,h,?_,by simpa using ho,by rw[he];exact sh⟩;rcases ho.2.2 with⟨rfl,rfl,rfl⟩|⟨a,rfl,rfl⟩|⟨a,rfl,rfl⟩<;>simp only[Go.Ev.jX]<;>rfl
 |succ m=>
  have F:Nat.beq (m+1) 0=false:=rfl;rcases ho.2.2 with⟨rfl,rfl,rfl⟩|⟨a,rfl,rfl⟩|⟨a,rfl,rfl⟩
  ·have L:cs=[]:=e8 (by rw[ho.1];simp);subst L;rw[eV]at A⊢;refine⟨.sl h.next 0 (m+1) (.un k),some h.next,h.alloc (.cells xs false),?_,⟨by simpa using G,I,.inr (.inl ⟨_,rfl,rfl⟩)⟩,(sh.alloc _).move i⟩;simp only[Go.Ev.jX,F,bw,mc,hA A,aE,I]
  ·have D:=sh.fy hi;refine⟨.sl h.next 0 (n+(m+1)) (.un k),some h.next,(h.put a (.cells cs true)).alloc (.cells (cs++xs) false),?_,⟨hlen,d,.inr (.inl ⟨_,rfl,rfl⟩)⟩,?_⟩
   ·have B:Nat.ble (0+(n+(m+1))*k) cs.length=false:=by
     cases hq:Nat.ble (0+(n+(m+1))*k) cs.length with
     |false=>rfl
     |true=>
      have:=eT hq;have o:0<(m+1)*k:=Nat.mul_pos (by omega) hk;rw[ho.1,iH]at this;omega
    have S:takeN (n*k) (k8 0 cs)=some cs:=by
     rw[lq,nb,pD (by rw[ho.1];exact aB _),<-ho.1,dT]
    simp only[Go.Ev.jX,F,bw,dU,aE,D,B,S,mc,hA A,d];rfl
   ·have o:=(sh.pI hi (.cells cs true)).alloc (.cells (cs++xs) false);have aj:=SH.move o i
    rwa [List.set_set]at aj
  ·have D:=sh.fy hi;refine⟨.sl h.next 0 (n+(m+1)) (.un k),some h.next,h.alloc (.cells (cs++xs) false),?_,⟨hlen,d,.inr (.inl ⟨_,rfl,rfl⟩)⟩,(sh.alloc _).move i⟩;have B:Nat.ble (n+(m+1)) n=false:=by
    cases hq:Nat.ble (n+(m+1)) n with
    |false=>rfl
    |true=>have:=eT hq;omega
   have M:h.b1 a 0 (n*k)=some cs:=(eZ.of D rfl).all ho.1;simp only[Go.Ev.jX,F,bw,B,M,mc,hA A,aE,d]
theorem OV.app (sh:SH O h (R++ad)) {i:Nat} (hi:R[i]? =some (s,.cells cs false)) (ho:OV v k n cs s) (hl:hU x=some m) (hx:iK h k m x=some xs) (j:xs.length=m*k) (o:aY xs=true) (hk:0<k) (d:n+m<=1073741824):
 ∃v' s' h',pj h k v x=some (v',h')/\OV v' k (n+m) (cs++xs) s'/\SH O h' (R.set i (s',.cells (cs++xs) false)++ad):=by
 simp only[pj,hl,hx];exact ho.jX sh hi j o hk d
end
end Go.Ev
namespace Go.Ev
def vA (E:Env):Od->Option V
 |.t p=>lk p.toNat E
 |.c v=>some v
theorem vB {E:Env} {x:Od} {a:V} (h:vA E x=some a):ay E x a:=by
 cases x with
 |t p=>
  intro e he;have o:lk p.toNat E=some a:=h;have aj:=he p.toNat a o;show e.val p=a;unfold T.val;have hp:pa p.toNat=p:=Pa.toNat_inj (fu _);rw[hp]at aj;rw[aj]
 |c v=>cases h;exact .c
def im (E:Env):List Od->Option (List V)
 |[]=>some []
 |x::xs=>match vA E x with
  |some a=>match im E xs with
   |some l=>some (a::l)
   |none=>none
  |none=>none
theorem j4 {E:Env}:∀{xs:List Od} {vs:List V},im E xs=some vs->kE E xs vs
 |[],vs,h=>by cases h;exact .nil
 |x::xs,vs,h=>by
  simp only[im]at h;split at h
  ·rename_i a ha;split at h
   ·rename_i l hl;cases h;exact .cons (vB ha) (j4 hl)
   ·cases h
  ·cases h
def ny (E:Env):List (Nat×Nat×Od)->List V->Option (List V×List V)
 |[],z=>some (z,[])
 |(I,n,x)::r,z=>match vA E x with
  |none=>none
  |some a=>match n with
   |1=>match cT I z [a]with
    |none=>none
    |some z'=>match ny E r z' with
     |none=>none
     |some p=>some (p.1,a::p.2)
   |n=>match Nat.beq a.cells.length n with
    |false=>none
    |true=>match cT I z a.cells with
     |none=>none
     |some z'=>match ny E r z' with
      |none=>none
      |some p=>some (p.1,a.cells++p.2)
theorem gV {v:V} (h:isScalar v=true):v.cells=[v]:=by cases v<;>first|rfl|cases h
theorem y8 {v:V} {l:List V} (h:aY (v::l)=true):isScalar v=true/\aY l=true:=by
 simp only[aY]at h;cases hv:isScalar v with
 |false=>simp[hv]at h
 |true=>simp only[hv,aE]at h;exact⟨rfl,h⟩
theorem F9 {a b:List V} (h:aY (a++b)=true):aY a=true/\aY b=true:=by
 induction a with
 |nil=>exact⟨rfl,h⟩
 |cons v a A=>
  obtain⟨o,aj⟩:=y8 h;obtain⟨d,j⟩:=A aj;refine⟨?_,j⟩;simp only[aY,o,aE];exact d
theorem pJ {E:Env}:∀{ps:List (Nat×Nat×Od)} {z l sd:List V},ny E ps z=some (l,sd)->aY sd=true->kG E ps z l
 |[],z,l,sd,h,_=>by cases h;exact .nil
 |(I,n,x)::r,z,l,sd,h,hs=>by
  simp only[ny]at h;split at h
  ·cases h
  ·rename_i a ha;split at h
   ·split at h
    ·cases h
    ·rename_i z' hz;split at h
     ·cases h
     ·rename_i p hp;cases h;obtain⟨o,aj⟩:=y8 hs;exact .cons (vB ha) (by rw[gV o];(try rfl)) (by rw[gV o];simp[aY,o]) (by rw[gV o];exact hz) (pJ (sd:=p.2) hp aj)
   ·split at h
    ·cases h
    ·rename_i d;split at h
     ·cases h
     ·rename_i z' hz;split at h
      ·cases h
      ·rename_i p hp;cases h;obtain⟨o,aj⟩:=F9 hs;exact .cons (vB ha) d o hz (pJ (sd:=p.2) hp aj)
structure bz where
 n:Env->Fz->List Ob->Prop
 x:Nat->Env->Fz->List Ob->Prop
 r:Env->Fz->List Ob->Prop
 p:Env->V->Fz->List Ob->Prop
def c9 (ms:List Pa):List Ob:=ms.map fun m=>(some m,.c4 true)
theorem pK (a b:List Pa):c9 (a++b)=c9 a++c9 b:=by simp[c9]
def bz.at (Q:bz) (O:Fz) (ad:List Ob):ep where
 n:=fun E h ms=>∃ψ R,O.Le ψ/\SH ψ h (R++(c9 ms++ad))/\Q.n E ψ R
 x:=fun i E h ms=>∃ψ R,O.Le ψ/\SH ψ h (R++(c9 ms++ad))/\Q.x i E ψ R
 r:=fun E h ms=>∃ψ R,O.Le ψ/\SH ψ h (R++(c9 ms++ad))/\Q.r E ψ R
 p:=fun E v h ms=>∃ψ R,O.Le ψ/\SH ψ h (R++(c9 ms++ad))/\Q.p E v ψ R
abbrev V.j (n:Int):V:=.int .i64 n
theorem Sub.r:∀{L E:Env},(L.map fun p=>lk p.1 E)=(L.map fun p=>some p.2)->Sub L E
 |[],_,_=>.nil _
 |(_,_)::_,_,h=>.cons (List.cons.inj h).1 (Sub.r (List.cons.inj h).2)
def bz.then (Q:bz) (n:Env->Fz->List Ob->Prop):bz:={Q with n:=n}
theorem bz.up {Q:bz} {O ψ:Fz} {ad:List Ob} (j:O.Le ψ):(∀E h m,(Q.at ψ ad).n E h m->(Q.at O ad).n E h m)/\(∀i E h m,(Q.at ψ ad).x i E h m->(Q.at O ad).x i E h m)/\(∀E h m,(Q.at ψ ad).r E h m->(Q.at O ad).r E h m)/\∀E v h m,(Q.at ψ ad).p E v h m->(Q.at O ad).p E v h m:=
 ⟨fun _ _ _ ⟨d,R,o,aj⟩=>⟨d,R,j.trans o,aj⟩,fun _ _ _ _ ⟨d,R,o,aj⟩=>⟨d,R,j.trans o,aj⟩,fun _ _ _ ⟨d,R,o,aj⟩=>⟨d,R,j.trans o,aj⟩,fun _ _ _ _ ⟨d,R,o,aj⟩=>⟨d,R,j.trans o,aj⟩⟩
theorem bz.sh {Q:bz} {O ψ:Fz} {ad:List Ob} {ms:List Pa} (A:O.Le ψ):(∀E h m,(Q.at ψ (c9 ms++ad)).n E h m->((Q.at O ad).sh ms).n E h m)/\(∀i E h m,(Q.at ψ (c9 ms++ad)).x i E h m->((Q.at O ad).sh ms).x i E h m)/\(∀E h m,(Q.at ψ (c9 ms++ad)).r E h m->((Q.at O ad).sh ms).r E h m)/\∀E v h m,(Q.at ψ (c9 ms++ad)).p E v h m->((Q.at O ad).sh ms).p E v h m:=
 ⟨fun _ _ m ⟨j,R,o,aj,d⟩=>⟨j,R,A.trans o,by rw[pK,bp];exact aj,d⟩,fun _ _ _ m ⟨j,R,o,aj,d⟩=>⟨j,R,A.trans o,by rw[pK,bp];exact aj,d⟩,fun _ _ m ⟨j,R,o,aj,d⟩=>⟨j,R,A.trans o,by rw[pK,bp];exact aj,d⟩,fun _ _ _ m ⟨j,R,o,aj,d⟩=>⟨j,R,A.trans o,by rw[pK,bp];exact aj,d⟩⟩
section
variable(F:Nat->Option aP) (K:KX)
def SW (c:IC ak) (E:Env) (O:Fz) (R:List Ob) (Q:bz):Prop:=∀ad h,SH O h (R++ad)->WC F K c E h (Q.at O ad)
def SR (rs:List (RS ak)) (E:Env) (O:Fz) (R:List Ob) (Q:bz):Prop:=∀ad h,SH O h (R++ad)->WR F K rs E h (Q.at O ad)
def ai (f:Nat) (args:List V) (O:Fz) (R:List Ob) (Rt:V->Fz->List Ob->Prop) (j:V->Fz->List Ob->Prop):Prop:=
 ∀ad h,SH O h (R++ad)->yR F f args h (fun v h'=>∃ψ d,O.Le ψ/\SH ψ h' (d++ad)/\Rt v ψ d) (fun v h'=>∃ψ d,O.Le ψ/\SH ψ h' (d++ad)/\j v ψ d)
end
def never:V->Fz->List Ob->Prop:=fun _ _ _=>False
def bm (F:Nat->Option aP) (f:Nat) (args:List V) (O:Fz) (v:V):Prop:=ai F f args O [] (fun r ψ R=>r=v/\ψ=O/\R=[]) never
variable{F:Nat->Option aP} {K:KX} {E:Env} {O:Fz} {R:List Ob} {Q:bz}
theorem WC.up {c:IC ak} {h:Hp} {ψ:Fz} {ad:List Ob} (d:O.Le ψ) (hw:WC F K c E h (Q.at ψ ad)):WC F K c E h (Q.at O ad):=let u:=bz.up d;WC.mono u.1 u.2.1 u.2.2.1 u.2.2.2 hw
theorem WR.mono {rs:List (RS ak)} {h:Hp} {Q d:ep} (hn:∀E h m,Q.n E h m->d.n E h m) (hx:∀i E h m,Q.x i E h m->d.x i E h m) (hr:∀E h m,Q.r E h m->d.r E h m) (hp:∀E v h m,Q.p E v h m->d.p E v h m) (hw:WR F K rs E h Q):WR F K rs E h d:=
 fun e he=>let⟨r,o,aj⟩:=hw e he;⟨r,o.mono hn hx hr hp,aj⟩
theorem WR.up {rs:List (RS ak)} {h:Hp} {ψ:Fz} {ad:List Ob} (d:O.Le ψ) (hw:WR F K rs E h (Q.at ψ ad)):WR F K rs E h (Q.at O ad):=let u:=bz.up d;WR.mono u.1 u.2.1 u.2.2.1 u.2.2.2 hw
namespace SW
theorem sub {c:IC ak} {d:Env} (hs:Sub d E) (hw:SW F K c d O R Q):SW F K c E O R Q:=fun ad h sh=>WC.sub hs (hw ad h sh)
theorem skip (hq:Q.n E O R):SW F K .skip E O R Q:=fun _ _ sh=>WC.skip ⟨O,R,.refl O,sh,hq⟩
theorem region {rs:List (RS ak)} (hw:SR F K rs E O R Q):SW F K (.region rs) E O R Q:=fun ad h sh=>WC.region (hw ad h sh)
theorem seq {a b:IC ak} (hw:SW F K a E O R (Q.then fun d ψ j=>SW F K b d ψ j Q)):SW F K (.seq a b) E O R Q:=fun ad h sh=>
 WC.seq (WC.mono (Q:=(Q.then fun d ψ j=>SW F K b d ψ j Q).at O ad) (fun _ _ m ⟨_,_,o,aj,A⟩=>let u:=bz.sh (Q:=Q) (ms:=m) o;WC.mono u.1 u.2.1 u.2.2.1 u.2.2.2 (A _ _ aj)) (fun _ _ _ _ h=>h) (fun _ _ _ h=>h) (fun _ _ _ _ h=>h) (hw ad h sh))
theorem «then»{c:IC ak} (M:Env->Fz->List Ob->Prop) (hw:SW F K c E O R (Q.then M)) (hm:∀j ψ d,O.Le ψ->M j ψ d->Q.n j ψ d):SW F K c E O R Q:=fun ad h sh=>
 WC.mono (Q:=(Q.then M).at O ad) (fun _ _ _ ⟨ψ,d,o,aj,A⟩=>⟨ψ,d,o,aj,hm _ _ _ o A⟩) (fun _ _ _ _ h=>h) (fun _ _ _ h=>h) (fun _ _ _ _ h=>h) (hw ad h sh)
theorem sS {c:Od} {a b:IC ak} {p:Prop} [Decidable p] (hc:ay E c (.bool (decide p))) (ht:p->SW F K a E O R Q) (d:¬p->SW F K b E O R Q):SW F K (.cond c a b) E O R Q:=fun ad h sh=>WC.sS hc (fun hp=>ht hp ad h sh) (fun hp=>d hp ad h sh)
theorem vw {c:Od} {a b:IC ak} {t:Bool} (hc:ay E c (.bool t)) (ht:t=true->SW F K a E O R Q) (d:t=false->SW F K b E O R Q):SW F K (.cond c a b) E O R Q:=fun ad h sh=>WC.vw hc (fun hp=>ht hp ad h sh) (fun hp=>d hp ad h sh)
theorem block {id:Nat} {b:IC ak} (hw:SW F K b E O R {Q with x:=fun i j ψ d=>if i=id then Q.n j ψ d else Q.x i j ψ d}):SW F K (.block id b) E O R Q:=fun ad h sh=>
 WC.block (WC.mono (Q:=({Q with x:=fun i j ψ d=>if i=id then Q.n j ψ d else Q.x i j ψ d}:bz).at O ad) (fun _ _ _ h=>h) (fun i j h' ms hx=>by
  have B:∃ψ d,O.Le ψ/\SH ψ h' (d++(c9 ms++ad))/\(if i=id then Q.n j ψ d else Q.x i j ψ d):=hx;obtain⟨ψ,d,o,aj,A⟩:=B;show if i=id then(Q.at O ad).n _ _ _ else(Q.at O ad).x i _ _ _
  by_cases hi:i=id
  ·rw[ae hi]at A⊢;exact⟨ψ,d,o,aj,A⟩
  ·rw[ab hi]at A⊢;exact⟨ψ,d,o,aj,A⟩) (fun _ _ _ h=>h) (fun _ _ _ _ h=>h) (hw ad h sh))
theorem exit {id:Nat} (hq:Q.x id E O R):SW F K (.exit id) E O R Q:=fun _ _ sh=>WC.exit ⟨O,R,.refl O,sh,hq⟩
theorem ret (hq:Q.r E O R):SW F K .ret E O R Q:=fun _ _ sh=>WC.ret ⟨O,R,.refl O,sh,hq⟩
theorem loop {b:IC ak} (A:Nat->Env->Fz->List Ob->Prop) {m:Nat} (hi:A m E O R) (L:∀m j ψ d,O.Le ψ->A m j ψ d->SW F K b j ψ d (Q.then fun G D B=>∃m',m'<m/\A m' G D B)):SW F K (.loop b) E O R Q:=fun ad h sh=>by
 refine WC.loop (fun m j h' ms=>∃ψ d,O.Le ψ/\SH ψ h' (d++(c9 ms++ad))/\A m j ψ d) (m:=m) ⟨O,R,.refl O,sh,hi⟩ fun m j h' ms ⟨ψ,d,o,aj,I⟩=>?_;have u:=bz.sh (Q:=Q) (ad:=ad) (ms:=ms) o;exact WC.mono (Q:=(Q.then fun G D B=>∃m',m'<m/\A m' G D B).at ψ (c9 ms++ad)) (fun _ _ W ⟨D,B,M,k2,m',S,U⟩=>⟨m',S,D,B,o.trans M,by rw[pK,bp];exact k2,U⟩) u.2.1 u.2.2.1 u.2.2.2 (L m j ψ d o I _ h' aj)
end SW
def Fin (O:Fz) (R:List Ob) (P:Fz->List Ob->Prop):Prop:=∀ad h,SH O h (R++ad)->∃ψ d,O.Le ψ/\SH ψ h (d++ad)/\P ψ d
namespace Fin
variable{P:Fz->List Ob->Prop}
theorem done (hp:P O R):Fin O R P:=fun _ _ sh=>⟨O,R,.refl O,sh,hp⟩
theorem freeze (i:Nat) {a:Pa} {b:ak} (hi:R[i]? =some (some a,b)) (hn:∀ψ,O.Le ψ->ψ a=some b->Fin ψ (R.eraseIdx i) P):Fin O R P:=fun ad h sh=>by
 obtain⟨o,aj⟩:=sh.freeze hi;obtain⟨A,d,j,k2⟩:=hn _ aj (by simp[Fz.put]) ad h o;exact⟨A,d,aj.trans j,k2⟩
theorem bL (i:Nat) {v:V} {k n:Nat} {cs:List V} {s:Option Pa} (hi:R[i]? =some (s,.cells cs false)) (ho:OV v k n cs s) (hn:∀ψ,O.Le ψ->FS ψ v k n cs->Fin ψ (R.eraseIdx i) P):Fin O R P:=by
 cases s with
 |none=>
  intro ad h sh;have o:SH O h (R.eraseIdx i++ad):=by
   have:=(sh.front hi).erase 0;simpa using this
  exact hn O (.refl O) (ho.fs rfl fun a e=>by cases e) ad h o
 |some a=>exact freeze i hi fun ψ o aj=>hn ψ o (ho.fs rfl fun b e=>by cases e;exact aj)
theorem drop (i:Nat) (hn:Fin O (R.eraseIdx i) P):Fin O R P:=fun ad h sh=>by
 rcases kr i R.length with hi|hi
 ·have:=(sh.front (bj hi)).erase 0;exact hn ad h (by simpa using this)
 ·rw[List.eraseIdx_of_length_le hi]at hn;exact hn ad h sh
theorem none (hp:P O []):Fin O R P:=fun ad h sh=>⟨O,[],.refl O,sh.pick (fun j=>R.length+j) (fun i I hi=>by rw[db (by omega),mV];exact hi) (fun _ _ _ _ e=>by omega),hp⟩
theorem only(i:Nat) {I:Ob} (hp:P O [I]) (hi:R[i]? =some I:=by rfl):Fin O R P:=fun ad h sh=>⟨O,[I],.refl O,(sh.front hi).pick (fun j=>if j=0 then 0 else(R.eraseIdx i).length+j) (fun j x hx=>by
 cases j with
 |zero=>exact hx
 |succ j=>
  rw[ab (by omega)];simp only[k3,fo,dF]at hx;rw[show(R.eraseIdx i).length+(j+1)=(R.eraseIdx i).length+j+1 by omega,dF,db (by omega),mV];exact hx) (fun a b _ _ e=>by split at e<;>split at e<;>omega),hp⟩
end Fin
theorem SW.fin {c:IC ak} (A:Fin O R fun ψ d=>SW F K c E ψ d Q):SW F K c E O R Q:=fun ad h sh=>let⟨_,_,o,aj,j⟩:=A ad h sh;WC.up o (j ad h aj)
theorem SR.fin {rs:List (RS ak)} (A:Fin O R fun ψ d=>SR F K rs E ψ d Q):SR F K rs E O R Q:=fun ad h sh=>let⟨_,_,o,aj,j⟩:=A ad h sh;WR.up o (j ad h aj)
theorem SW.bF {b:IC ak} (A:Nat->Env->Fz->List Ob->Prop) {m:Nat} (hi:Fin O R (A m E)) (ab:∀m j ψ d,O.Le ψ->A m j ψ d->SW F K b j ψ d (Q.then fun B G D=>∃m',m'<m/\Fin G D (A m' B))):SW F K (.loop b) E O R Q:=fun ad h sh=>by
 obtain⟨I,M,L,U,W⟩:=hi ad h sh;refine WC.up L ?_;refine WC.loop (fun m j h' ms=>∃ψ d,I.Le ψ/\SH ψ h' (d++(c9 ms++ad))/\A m j ψ d) (m:=m) ⟨I,M,.refl I,U,W⟩ fun m j h' ms ⟨ψ,d,o,aj,Z⟩=>?_;have u:=bz.sh (Q:=Q) (ad:=ad) (ms:=ms) o;refine WC.mono (Q:=(Q.then fun B G D=>∃m',m'<m/\Fin G D (A m' B)).at ψ (c9 ms++ad)) ?_ u.2.1 u.2.2.1 u.2.2.2 (ab m j ψ d (L.trans o) Z _ h' aj);rintro B Y an ⟨G,D,ah,k2,m',ai,al⟩;obtain⟨am,S,ac,ae,ag⟩:=al _ Y k2;exact⟨m',ai,am,S,(o.trans ah).trans ac,by rw[pK,bp];exact ae,ag⟩
theorem SW.oB {c:IC ak} (M:Env->Fz->List Ob->Prop) (hw:SW F K c E O R (Q.then fun d ψ j=>Fin ψ j (M d))) (hm:∀d ψ j,O.Le ψ->M d ψ j->Q.n d ψ j):SW F K c E O R Q:=fun ad h sh=>
 WC.mono (Q:=(Q.then fun d ψ j=>Fin ψ j (M d)).at O ad) (fun _ h' _ ⟨_,_,o,aj,D⟩=>let⟨L,B,A,G,I⟩:=D _ h' aj;⟨L,B,o.trans A,G,hm _ _ _ (o.trans A) I⟩) (fun _ _ _ _ h=>h) (fun _ _ _ h=>h) (fun _ _ _ _ h=>h) (hw ad h sh)
def iq (E:Env) (O:Fz) (R:List Ob) (res:List (Pa×Option (Option Nat))) (l:List V):Prop:=∀ad h,SH O h (R++ad)->il E h res l
theorem iq.nil:iq E O R [] []:=fun _ _ _=>.nil
theorem iq.t {n:Nat} {v:V} {r:List (Pa×Option (Option Nat))} {l:List V} (hv:lk n E=some v) (hr:iq E O R r l):iq E O R ((pa n,none)::r) (v::l):=fun ad h sh=>.t hv (hr ad h sh)
theorem iq.eH {n:Nat} {a:Pa} {I:Nat} {v:V} {r:List (Pa×Option (Option Nat))} {l:List V} (i:Nat) {cs:List V} (hv:lk n E=some (.ptr a I)) (hi:R[i]? =some (some a,.cells cs false)) (hx:cs[I]? =some v) (hr:iq E O R r l):iq E O R ((pa n,some none)::r) (v::l):=fun ad h sh=>
 .c hv (by have:=(eZ.of (sh.fy hi) rfl).one hx;rwa [eV]at this) (hr ad h sh)
theorem iq.cN {n m:Nat} {a:Pa} {I:Nat} {l':List V} {r:List (Pa×Option (Option Nat))} {l:List V} (i:Nat) {cs:List V} (hv:lk n E=some (.ptr a I)) (hi:R[i]? =some (some a,.cells cs false)) (hx:(cs.drop I).take m=l') (hl:l'.length=m) (hr:iq E O R r l):iq E O R ((pa n,some (some m))::r) (.agg l'::l):=fun ad h sh=>
 .c hv (by have:=(eZ.of (sh.fy hi) rfl).agg (i:=I) hx hl;rwa [eV]at this) (hr ad h sh)
def mz (res:List (Pa×Option (Option Nat))) (Rt d:V->Fz->List Ob->Prop):bz where
 n:=fun E O R=>∃l,iq E O R res l/\Fin O R (Rt (oneOf l))
 x:=fun _ _ _ _=>False
 r:=fun E O R=>∃l,iq E O R res l/\Fin O R (Rt (oneOf l))
 p:=fun _=>d
theorem iU {O:Fz} {R ad:List Ob}:∀(ms:List Pa) {h:Hp},SH O h (R++(c9 ms++ad))->jC ms h/\SH O (kill ms h) (R++ad)
 |[],h,sh=>⟨trivial,sh⟩
 |m::ms,h,sh=>by
  have e:R++(c9 (m::ms)++ad)=R++((some m,ak.c4 true)::(c9 ms++ad)):=by simp[c9]
  rw[e]at sh;have hi:(R++((some m,ak.c4 true)::(c9 ms++ad)))[R.length]? =some (some m,.c4 true):=by rw[db (aB _),iG];(try rfl)
  have o:=(sh.own _ _ _ hi).1;have aj:=(sh.put hi (.c4 false)).erase R.length;have d:((R++((some m,ak.c4 true)::(c9 ms++ad))).set R.length (some m,.c4 false)).eraseIdx R.length=R++(c9 ms++ad):=by
   rw[List.set_append,ab (Nat.lt_irrefl _),iG,List.set_cons_zero,List.eraseIdx_append_of_length_le (aB _),iG,List.eraseIdx_cons_zero]
  rw[d]at aj;obtain⟨j,k2⟩:=iU ms aj;exact⟨⟨o,j⟩,k2⟩
theorem Ga {f:Nat} {fn:fO} {args:List V} {Rt I:V->Fz->List Ob->Prop} (W:F f=some (.code fn)) (hw:SW F ⟨⟨f,fn.nt,false,none⟩,fun _=>True⟩ fn.body (fT 0 args) O R (mz fn.res Rt I)):ai F f args O R Rt I:=fun ad h sh=>by
 refine FW W (WC.mono (Q:=(mz fn.res Rt I).at O ad) ?_ ?_ ?_ ?_ (hw ad h sh))
 ·rintro B h' ms ⟨ψ,D,o,aj,l,d,L⟩;obtain⟨A,j⟩:=iU ms aj;obtain⟨U,G,M,k2,S⟩:=L ad _ j;exact⟨A,l,d ad _ j,U,G,o.trans M,k2,S⟩
 ·rintro i B h' ms ⟨_,_,_,_,d⟩;exact d.elim
 ·rintro B h' ms ⟨ψ,D,o,aj,l,d,L⟩;obtain⟨A,j⟩:=iU ms aj;obtain⟨U,G,M,k2,S⟩:=L ad _ j;exact⟨A,l,d ad _ j,U,G,o.trans M,k2,S⟩
 ·rintro B v h' ms ⟨ψ,D,o,aj,d⟩;obtain⟨A,j⟩:=iU ms aj;exact⟨A,ψ,D,o,j,d⟩
theorem ai.same {f:Nat} {args:List V} {Rt:V->List Ob->Prop} {j:V->Fz->List Ob->Prop} (hc:ai F f args O R (fun r _ d=>Rt r d) j):ai F f args O R (fun r ψ d=>ψ=O/\Rt r d) j:=fun ad h sh=>by
 rcases hc ad h sh with⟨r,h',o,ψ,d,aj,A,B⟩|D
 ·exact .inl ⟨r,h',o,O,d,.refl O,A.less aj,rfl,B⟩
 ·exact .inr D
theorem ai.al {f:Nat} {args:List V} {v:V} (hc:ai F f args O [] (fun r _ _=>r=v) never):bm F f args O v:=fun ad h sh=>by
 rcases hc ad h sh with⟨r,h',o,ψ,d,aj,A,rfl⟩|⟨_,_,_,_,_,_,_,h⟩
 ·refine .inl ⟨r,h',o,O,[],.refl O,?_,rfl,rfl,rfl⟩;have:=A.less aj;refine this.pick (fun j=>d.length+j) (fun i I hi=>?_) (fun _ _ _ _ e=>by omega);rw[db (by omega),mV];exact hi
 ·exact h.elim
theorem bm.vC (i:Nat) {f:Nat} {args:List V} {u v:V} {k n:Nat} {cs:List V} {s:Option Pa} (hi:R[i]? =some (s,.cells cs false)) (ho:OV v k n cs s) (hc:∀ψ,O.Le ψ->FS ψ v k n cs->bm F f args ψ u):ai F f args O R (fun r ψ j=>r=u/\ψ=O/\j=R) never:=fun ad h sh=>by
 cases s with
 |none=>
  rcases hc O (.refl O) (ho.fs rfl fun a e=>by cases e) (R++ad) h (by simpa using sh)with⟨r,h',o,_,_,_,d,rfl,rfl,rfl⟩|⟨_,_,_,_,_,_,_,h⟩
  ·exact .inl ⟨r,h',o,_,_,.refl _,by simpa using d,rfl,rfl,rfl⟩
  ·exact h.elim
 |some a=>
  obtain⟨A,B⟩:=sh.freeze hi;rcases hc _ B (ho.fs rfl fun b e=>by cases e;simp[Fz.put]) (R.eraseIdx i++ad) h (by simpa using A)with⟨r,h',o,_,_,_,d,rfl,rfl,rfl⟩|⟨_,_,_,_,_,_,_,h⟩
  ·exact .inl ⟨r,h',o,_,_,.refl _,sh.F7 hi (by simpa using d),rfl,rfl,rfl⟩
  ·exact h.elim
end Go.Ev
namespace Go.Ev
inductive Op where
 |m (d s:Nat)
 |v (d:Nat) (x:V)
 |f (d n s:Nat)
 |n (d s:Nat)
 |e (d s i:Nat)
 |r (x:RS ak)
noncomputable section
abbrev Op.den:Op->RS ak
 |.m d s=>.op ⟨some (pa d),lb (.t (pa s)),none⟩
 |.v d y=>.op ⟨some (pa d),lb (.c y),none⟩
 |.f d k s=>.op ⟨some (pa d),lg k (.t (pa s)),none⟩
 |.n d s=>.op ⟨some (pa d),gP (.t (pa s)),none⟩
 |.e d s i=>.op ⟨some (pa d),ui (.t (pa s)) i,none⟩
 |.r x=>x
abbrev Op.aK:List Op->List (RS ak)
 |[]=>[]
 |x::l=>x.den::Op.aK l
end
abbrev lH:List Op->Env->(Env->Prop)->(List Op->Env->Prop)->Prop
 |[],E,z,_=>z E
 |.m d s::r,E,z,k=>match lk s E with
  |some v=>lH r ((d,v)::E) z k
  |none=>k (.m d s::r) E
 |.v d y::r,E,z,k=>lH r ((d,y)::E) z k
 |.f d n s::r,E,z,k=>match lk s E with
  |some (.ptr a I)=>lH r ((d,.ptr a (I+n))::E) z k
  |_=>k (.f d n s::r) E
 |.n d s::r,E,z,k=>match lk s E with
  |some (.ptr a I)=>lH r ((d,.ptr a I)::E) z k
  |_=>k (.n d s::r) E
 |.e d s i::r,E,z,k=>match lk s E with
  |some (.aN l)=>match nth l i with
   |some v=>lH r ((d,v)::E) z k
   |none=>k (.e d s i::r) E
  |_=>k (.e d s i::r) E
 |.r x::r,E,_,k=>k (.r x::r) E
abbrev SA (F:Nat->Option aP) (K:KX) (l:List Op) (E:Env) (O:Fz) (R:List Ob) (Q:bz):Prop:=lH l E (fun d=>Q.n d O R) fun l' d=>SR F K (Op.aK l') d O R Q
variable{F:Nat->Option aP} {K:KX} {O:Fz} {R:List Ob} {Q:bz}
theorem S.r:∀{l:List Op} {E:Env},SA F K l E O R Q->SR F K (Op.aK l) E O R Q
 |[],_,h=>fun _ _ sh=>WR.nil ⟨O,R,.refl O,sh,h⟩
 |.m d s::r,E,h=>by
  rw[SA,lH]at h;split at h
  ·exact fun W y sh=>ad.mv .none (.t ‹_›) (S.r h W y sh)
  ·exact h
 |.v d y::r,E,h=>fun W _ sh=>ad.mv .none .c (S.r (l:=r) (E:=(d,y)::E) h W _ sh)
 |.f d n s::r,E,h=>by
  rw[SA,lH]at h;split at h
  ·exact fun W y sh=>ad.aD .none (.t ‹_›) (S.r h W y sh)
  ·exact h
 |.n d s::r,E,h=>by
  rw[SA,lH]at h;split at h
  ·exact fun W y sh=>ad.nil? .none (.t ‹_›) (S.r h W y sh)
  ·exact h
 |.e d s i::r,E,h=>by
  rw[SA,lH]at h;split at h
  ·split at h
   ·exact fun W y sh=>ad.ext .none (.t ‹_›) ‹_› (S.r h W y sh)
   ·exact h
  ·exact h
 |.r x::r,E,h=>h
end Go.Ev
namespace Go.Ev
def Src (O:Fz) (R:List Ob) (k:Nat) (x:V) (m:Nat) (xs:List V):Prop:=xs.length=m*k/\∀ad h,SH O h (R++ad)->hU x=some m/\iK h k m x=some xs
theorem Src.f {O:Fz} {R:List Ob} {k m:Nat} {x:V} {xs:List V} (hs:FS O x k m xs):Src O R k x m xs:=⟨hs.1,fun _ _ sh=>hs.src sh⟩
theorem Src.s {O:Fz} {R:List Ob} {l:List UInt8}:Src O R 1 (.str l) l.length (l.map cz):=⟨by simp,fun _ _ _=>⟨rfl,by
 simp only[iK,dU,aE];rw[pD (aB _),dT]⟩⟩
theorem Src.new {O:Fz} {R:List Ob} {k m:Nat} {a:Pa} {l:List V} {c:fM} (i:Nat) (hl:l.length=m*k) (hi:R[i]? =some (some a,.cells l false):=by rfl):Src O R k (.sl a 0 m c) m l:=⟨hl,fun _ _ sh=>⟨rfl,(eZ.of (sh.fy hi) rfl).all hl⟩⟩
theorem iV (k:IntKind) (n:Int):isScalar (.int k n)=true:=rfl
theorem kI (s:List UInt8):isScalar (.str s)=true:=rfl
theorem jF (b:Bool):isScalar (.bool b)=true:=rfl
theorem nz (a:Pa) (I:Nat):isScalar (.ptr a I)=true:=rfl
theorem nA (a:Pa) (I n:Nat) (c:fM):isScalar (.sl a I n c)=true:=rfl
theorem kJ:isScalar (.no .sl)=true:=rfl
theorem nB (a:Pa):isScalar (.map a)=true:=rfl
theorem nC (f:Nat) (c:List V):isScalar (.fn f c)=true:=rfl
namespace S
variable{F:Nat->Option aP} {K:KX} {E:Env} {O:Fz} {R:List Ob} {Q:bz} {rs:List Op} {d:Nat} {g:Option (Pa×Bool)}
theorem no {j:bx} (hw:aA E g .no) (hn:SA F K rs ((d,cV)::E) O R Q):SR F K (.op ⟨some (pa d),j,g⟩::Op.aK rs) E O R Q:=fun W h sh=>ad.no hw (S.r hn W h sh)
theorem sT {j:bx} (hw:aA E g .no) (hd:lk d E=some cV) (hn:SA F K rs E O R Q):SR F K (.bX ⟨some (pa d),j,g⟩::Op.aK rs) E O R Q:=fun W h sh=>ad.sT hw hd (S.r hn W h sh)
theorem mv {x:Od} {a:V} (hn:SA F K rs ((d,a)::E) O R Q) (hx:ay E x a:=by first|exact .t rfl|exact .c) (hw:aA E g .yes:=by first|exact .none|exact .yes rfl):SR F K (.op ⟨some (pa d),lb x,g⟩::Op.aK rs) E O R Q:=fun W h sh=>ad.mv hw hx (S.r hn W h sh)
theorem pick {c x y:Od} {t:Bool} {a b:V} (hn:SA F K rs ((d,bif t then a else b)::E) O R Q) (hc:ay E c (.bool t):=by first|exact .t rfl|exact .c) (hx:ay E x a:=by first|exact .t rfl|exact .c) (j:ay E y b:=by first|exact .t rfl|exact .c) (hw:aA E g .yes:=by first|exact .none|exact .yes rfl):
 SR F K (.op ⟨some (pa d),cU c x y,g⟩::Op.aK rs) E O R Q:=fun W h sh=>ad.pick hw hc hx j (S.r hn W h sh)
theorem build {z l sd:List V} {ps:List (Nat×Nat×Od)} (hn:SA F K rs ((d,.agg l)::E) O R Q) (j:ny E ps z=some (l,sd):=by rfl) (dl:aY sd=true:=by first|rfl|simp[aY,V.cells,iV,kI,jF,nz,nA,kJ,nB,nC, *]) (hw:aA E g .yes:=by first|exact .none|exact .yes rfl):
 SR F K (.op ⟨some (pa d),aO z ps,g⟩::Op.aK rs) E O R Q:=fun W h sh=>ad.build hw (pJ j dl) (S.r hn W h sh)
theorem nil? {x:Od} {a:Pa} {I:Nat} (hn:SA F K rs ((d,.ptr a I)::E) O R Q) (hx:ay E x (.ptr a I):=by exact .t rfl) (hw:aA E g .yes:=by first|exact .none|exact .yes rfl):SR F K (.op ⟨some (pa d),gP x,g⟩::Op.aK rs) E O R Q:=fun W h sh=>ad.nil? hw hx (S.r hn W h sh)
theorem bin {op:BinOp} {q:cy} {x y:Od} {a b v:V} (hn:SA F K rs ((d,v)::E) O R Q) (hx:ay E x a:=by first|exact .t rfl|exact .c) (j:ay E y b:=by first|exact .t rfl|exact .c) (hv:b0 op q a b=some v:=by first|exact vv|exact yW|exact yX|exact yY|exact yZ|exact y0|exact y1|exact y2|exact dz (by omega) (by omega)|exact fU (by omega) (by omega)|exact sR (by omega) (by omega)|exact my (by omega)|assumption|rfl) (hw:aA E g .yes:=by first|exact .none|exact .yes rfl):
 SR F K (.op ⟨some (pa d),bc op q x y,g⟩::Op.aK rs) E O R Q:=fun W h sh=>ad.bin hw hx j hv (S.r hn W h sh)
theorem un {op:UnOp} {x:Od} {a v:V} (hn:SA F K rs ((d,v)::E) O R Q) (hx:ay E x a:=by first|exact .t rfl|exact .c) (hv:pg op a=some v:=by rfl) (hw:aA E g .yes:=by first|exact .none|exact .yes rfl):
 SR F K (.op ⟨some (pa d),dj op x,g⟩::Op.aK rs) E O R Q:=fun W h sh=>ad.un hw hx hv (S.r hn W h sh)
theorem mw {k j:IntKind} {x:Od} {n:Int} (hn:SA F K rs ((d,.int k (ek k n))::E) O R Q) (hx:ay E x (.int j n):=by first|exact .t rfl|exact .c) (hw:aA E g .yes:=by first|exact .none|exact .yes rfl):
 SR F K (.op ⟨some (pa d),cH k x,g⟩::Op.aK rs) E O R Q:=fun W h sh=>ad.mw hw hx (S.r hn W h sh)
theorem vt {t:Nat} {x:Od} {a:V} (hn:SA F K rs ((d,.iface t a)::E) O R Q) (hx:ay E x a:=by first|exact .t rfl|exact .c) (hw:aA E g .yes:=by first|exact .none|exact .yes rfl):
 SR F K (.op ⟨some (pa d),qt t x,g⟩::Op.aK rs) E O R Q:=fun W h sh=>ad.vt hw hx (S.r hn W h sh)
theorem sK {f:Nat} {xs:List Od} {vs:List V} (hn:SA F K rs ((d,.fn f vs)::E) O R Q) (hx:im E xs=some vs:=by rfl) (hw:aA E g .yes:=by first|exact .none|exact .yes rfl):
 SR F K (.op ⟨some (pa d),lf f xs,g⟩::Op.aK rs) E O R Q:=fun W h sh=>ad.sK hw (j4 hx) (S.r hn W h sh)
theorem aD {off:Nat} {x:Od} {a:Pa} {I:Nat} (hn:SA F K rs ((d,.ptr a (I+off))::E) O R Q) (hx:ay E x (.ptr a I):=by exact .t rfl) (hw:aA E g .yes:=by first|exact .none|exact .yes rfl):
 SR F K (.op ⟨some (pa d),lg off x,g⟩::Op.aK rs) E O R Q:=fun W h sh=>ad.aD hw hx (S.r hn W h sh)
theorem len {x:Od} {a:V} {n:Nat} (hn:SA F K rs ((d,.int .i64 (n:Int))::E) O R Q) (hx:ay E x a:=by first|exact .t rfl|exact .c) (hl:mb a=some (.int .i64 (n:Int)):=by first|exact FS.len (by assumption)|exact OV.len (by assumption)|rfl) (hw:aA E g .yes:=by first|exact .none|exact .yes rfl):
 SR F K (.op ⟨some (pa d),cl x,g⟩::Op.aK rs) E O R Q:=fun W h sh=>ad.pu hw (fun e he=>by rw[hx e he];exact hl) (S.r hn W h sh)
theorem cb {x:Od} {s:List UInt8} (hn:SA F K rs ((d,.int .i64 (s.length:Int))::E) O R Q) (hx:ay E x (.str s):=by first|exact .t rfl|exact .c) (hw:aA E g .yes:=by first|exact .none|exact .yes rfl):
 SR F K (.op ⟨some (pa d),b4 x,g⟩::Op.aK rs) E O R Q:=fun W h sh=>ad.cb hw hx (S.r hn W h sh)
theorem gy {x i:Od} {s:List UInt8} {j:Nat} {k:IntKind} {b:UInt8} (hj:s[j]? =some b) (hn:SA F K rs ((d,.int .u8 (b.toNat:Int))::E) O R Q) (hx:ay E x (.str s):=by first|exact .t rfl|exact .c) (hi:ay E i (.int k (j:Int)):=by first|exact .t rfl|exact .c) (hw:aA E g .yes:=by first|exact .none|exact .yes rfl):
 SR F K (.op ⟨some (pa d),gi x i,g⟩::Op.aK rs) E O R Q:=fun W h sh=>ad.gy hw hx hi hj (S.r hn W h sh)
theorem gO {x:Od} {lo hi:Option Od} {a v:V} {A j:Option V} (hv:Go.Ev.gO a A j=some v) (hn:SA F K rs ((d,v)::E) O R Q) (hx:ay E x a:=by first|exact .t rfl|exact .c) (o:gU E lo A:=by first|exact .none|exact .some (.t rfl)|exact .some .c) (aj:gU E hi j:=by first|exact .none|exact .some (.t rfl)|exact .some .c) (hw:aA E g .yes:=by first|exact .none|exact .yes rfl):
 SR F K (.op ⟨some (pa d),ma x lo hi,g⟩::Op.aK rs) E O R Q:=fun W h sh=>ad.gO hw hx o aj hv (S.r hn W h sh)
theorem slice {s:Nat} {x:Od} {lo hi mx:Option Od} {a v:V} {A j B:Option V} (hv:dx s a A j B=some v) (hn:SA F K rs ((d,v)::E) O R Q) (hx:ay E x a:=by first|exact .t rfl|exact .c) (o:gU E lo A:=by first|exact .none|exact .some (.t rfl)|exact .some .c) (aj:gU E hi j:=by first|exact .none|exact .some (.t rfl)|exact .some .c) (D:gU E mx B:=by first|exact .none|exact .some (.t rfl)|exact .some .c) (hw:aA E g .yes:=by first|exact .none|exact .yes rfl):
 SR F K (.op ⟨some (pa d),dO s x lo hi mx,g⟩::Op.aK rs) E O R Q:=fun W h sh=>ad.slice hw hx o aj D hv (S.r hn W h sh)
theorem kH {m:Bool} {x y:Od} {a b:V} {v:V} (hv:mm m a b=some v) (hn:SA F K rs ((d,v)::E) O R Q) (hx:ay E x a:=by first|exact .t rfl|exact .c) (j:ay E y b:=by first|exact .t rfl|exact .c) (hw:aA E g .yes:=by first|exact .none|exact .yes rfl):
 SR F K (.op ⟨some (pa d),iJ m x [y],g⟩::Op.aK rs) E O R Q:=fun W h sh=>ad.kH hw hx j hv (S.r hn W h sh)
theorem a1 {x:Od} {p u:V} {xs:List V} (hn:SA F K rs ((d,u)::E) O R Q) (hx:ay E x p:=by exact .t rfl) (hp:EP O p xs:=by assumption) (hu:xs[0]? =some u:=by rfl) (hw:aA E g .yes:=by first|exact .none|exact .yes rfl):
 SR F K (.op ⟨some (pa d),b2 none x,g⟩::Op.aK rs) E O R Q:=fun W h sh=>ad.load hw hx (hp.vz hu sh) (S.r hn W h sh)
theorem bJ {x:Od} {p:V} {xs l:List V} {n:Nat} (hn:SA F K rs ((d,.agg l)::E) O R Q) (hx:ay E x p:=by exact .t rfl) (hp:EP O p xs:=by assumption) (hl:xs.take n=l:=by rfl) (j:l.length=n:=by rfl) (hw:aA E g .yes:=by first|exact .none|exact .yes rfl):
 SR F K (.op ⟨some (pa d),b2 (some n) x,g⟩::Op.aK rs) E O R Q:=fun W h sh=>ad.load hw hx (hp.b1 hl j sh) (S.r hn W h sh)
theorem ld {x:Od} {a:Pa} {I:Nat} {u:V} {cs:List V} (i:Nat) (hn:SA F K rs ((d,u)::E) O R Q) (hx:ay E x (.ptr a I):=by exact .t rfl) (hi:R[i]? =some (some a,.cells cs false):=by rfl) (hu:cs[I]? =some u:=by rfl) (hw:aA E g .yes:=by first|exact .none|exact .yes rfl):
 SR F K (.op ⟨some (pa d),b2 none x,g⟩::Op.aK rs) E O R Q:=fun W h sh=>ad.load hw hx (by have:=(eZ.of (sh.fy hi) rfl).one hu;rwa [eV]at this) (S.r hn W h sh)
theorem ag {x:Od} {a:Pa} {I n:Nat} {cs l:List V} (i:Nat) (hn:SA F K rs ((d,.agg l)::E) O R Q) (hx:ay E x (.ptr a I):=by exact .t rfl) (hi:R[i]? =some (some a,.cells cs false):=by rfl) (hl:(cs.drop I).take n=l:=by rfl) (j:l.length=n:=by rfl) (hw:aA E g .yes:=by first|exact .none|exact .yes rfl):
 SR F K (.op ⟨some (pa d),b2 (some n) x,g⟩::Op.aK rs) E O R Q:=fun W h sh=>ad.load hw hx (by have:=(eZ.of (sh.fy hi) rfl).agg hl j;rwa [eV]at this) (S.r hn W h sh)
theorem Gb {k n j:Nat} {x i:Od} {v:V} {cs:List V} {q:IntKind} (hs:FS O v k n cs) (hj:j<n) (hn:∀p,EP O p ((cs.drop (j*k)).take k)->SA F K rs ((d,p)::E) O R Q) (hx:ay E x v:=by first|exact .t rfl|exact .c) (hi:ay E i (.int q (j:Int)):=by first|exact .t rfl|exact .c) (hw:aA E g .yes:=by first|exact .none|exact .yes rfl):
 SR F K (.op ⟨some (pa d),bs none k x i,g⟩::Op.aK rs) E O R Q:=fun W h sh=>by
 obtain⟨a,I,c,rfl,aj⟩:=hs.at hj;exact ad.pG hw hx hi hj (S.r (hn _ aj) W h sh)
theorem bl {off:Nat} {x:Od} {p:V} {xs:List V} (hp:EP O p xs) (hn:∀q,EP O q (xs.drop off)->SA F K rs ((d,q)::E) O R Q) (hx:ay E x p:=by exact .t rfl) (hw:aA E g .yes:=by first|exact .none|exact .yes rfl):
 SR F K (.op ⟨some (pa d),lg off x,g⟩::Op.aK rs) E O R Q:=fun W h sh=>by
 obtain⟨a,I,rfl,aj⟩:=hp.field off;exact ad.aD hw hx (S.r (hn _ aj) W h sh)
theorem pG {k n j:Nat} {x i:Od} {v:V} {cs:List V} {s:Option Pa} {q:IntKind} (ho:OV v k n cs s) (hj:j<n) (hn:∀a,s=some a->SA F K rs ((d,.ptr a (j*k))::E) O R Q) (hx:ay E x v:=by exact .t rfl) (hi:ay E i (.int q (j:Int)):=by first|exact .t rfl|exact .c) (hw:aA E g .yes:=by first|exact .none|exact .yes rfl):
 SR F K (.op ⟨some (pa d),bs none k x i,g⟩::Op.aK rs) E O R Q:=fun W h sh=>by
 rcases ho.2.2 with⟨_,rfl,_⟩|⟨a,rfl,rfl⟩|⟨a,rfl,rfl⟩
 ·omega
 ·exact ad.pG hw hx hi hj (by rw[eV];exact S.r (hn a rfl) W h sh)
 ·exact ad.pG hw hx hi hj (by rw[eV];exact S.r (hn a rfl) W h sh)
theorem qV {k n I j:Nat} {x i:Od} {a:Pa} {c:fM} {q:IntKind} (hj:j<n) (hn:SA F K rs ((d,.ptr a (I+j*k))::E) O R Q) (hx:ay E x (.sl a I n c):=by exact .t rfl) (hi:ay E i (.int q (j:Int)):=by first|exact .t rfl|exact .c) (hw:aA E g .yes:=by first|exact .none|exact .yes rfl):
 SR F K (.op ⟨some (pa d),bs none k x i,g⟩::Op.aK rs) E O R Q:=fun W h sh=>ad.pG hw hx hi hj (S.r hn W h sh)
theorem pH {k len I j:Nat} {x i:Od} {a:Pa} {q:IntKind} (hj:j<len) (hn:SA F K rs ((d,.ptr a (I+j*k))::E) O R Q) (hx:ay E x (.ptr a I):=by exact .t rfl) (hi:ay E i (.int q (j:Int)):=by first|exact .t rfl|exact .c) (hw:aA E g .yes:=by first|exact .none|exact .yes rfl):
 SR F K (.op ⟨some (pa d),bs (some len) k x i,g⟩::Op.aK rs) E O R Q:=fun W h sh=>ad.pH hw hx hi hj (S.r hn W h sh)
theorem sJ {x:Od} {v:V} {n:Nat} {s:List UInt8} (hs:∀W h,SH O h (R++W)->Sl h v 1 n (s.map cz)) (hn:SA F K rs ((d,.str s)::E) O R Q) (hx:ay E x v:=by first|exact .t rfl|exact .c) (hw:aA E g .yes:=by first|exact .none|exact .yes rfl):
 SR F K (.op ⟨some (pa d),dk x,g⟩::Op.aK rs) E O R Q:=fun W h sh=>ad.F6 hw hx (hs W h sh) (S.r hn W h sh)
theorem alloc {z:List V} (hn:∀a,SA F K rs ((d,.ptr a 0)::E) O ((some a,.cells z false)::R) Q) (hw:aA E g .yes:=by first|exact .none|exact .yes rfl):SR F K (.op ⟨some (pa d),av z,g⟩::Op.aK rs) E O R Q:=fun W _ sh=>ad.alloc hw (S.r (hn _) W _ (sh.alloc _))
theorem box {x:Od} {v:V} (hn:∀a,SA F K rs ((d,.ptr a 0)::E) O ((some a,.cells v.cells false)::R) Q) (hx:ay E x v:=by first|exact .t rfl|exact .c) (hs:aY v.cells=true:=by first|rfl|simp[aY,V.cells,iV,kI,jF,nz,nA,kJ,nB,nC, *]) (hw:aA E g .yes:=by first|exact .none|exact .yes rfl):
 SR F K (.op ⟨some (pa d),r1 x,g⟩::Op.aK rs) E O R Q:=fun W _ sh=>ad.box hw hx hs (S.r (hn _) W _ (sh.alloc _))
theorem a8 {z l sd:List V} {n:Nat} {ps:List (Nat×Nat×Od)} (hn:∀a,SA F K rs ((d,.sl a 0 n (.ex n))::E) O ((some a,.cells l false)::R) Q) (h:ny E ps z=some (l,sd):=by rfl) (dl:aY sd=true:=by first|rfl|simp[aY,V.cells,iV,kI,jF,nz,nA,kJ,nB,nC, *]) (hs:aY l=true:=by first|rfl|simp[aY,V.cells,iV,kI,jF,nz,nA,kJ,nB,nC, *]) (hw:aA E g .yes:=by first|exact .none|exact .yes rfl):
 SR F K (.op ⟨some (pa d),aH z n ps,g⟩::Op.aK rs) E O R Q:=fun W _ sh=>ad.a8 hw (pJ h dl) hs (S.r (hn _) W _ (sh.alloc _))
theorem sL {x:Od} {s:List UInt8} (hn:∀a,OV (.sl a 0 s.length (.un 1)) 1 s.length (s.map cz) (some a)->SA F K rs ((d,.sl a 0 s.length (.un 1))::E) O ((some a,.cells (s.map cz) false)::R) Q) (hx:ay E x (.str s):=by first|exact .t rfl|exact .c) (hw:aA E g .yes:=by first|exact .none|exact .yes rfl):
 SR F K (.op ⟨some (pa d),fN x,g⟩::Op.aK rs) E O R Q:=fun W h sh=>ad.sL hw hx (S.r (hn _ ⟨by simp,vu s,.inr (.inl ⟨_,rfl,rfl⟩)⟩) W _ (sh.alloc _))
theorem ox {z:List V} {o:Nat} {l c:Od} {n m:Nat} {k j:IntKind} (B:n<=m) (hm:m<=1073741824) (A:o<=65536) (hn:∀a,SA F K rs ((d,.sl a 0 n (.ex m))::E) O ((some a,.cells (c5 z m) false)::R) Q) (hl:ay E l (.int k (n:Int)):=by first|exact .t rfl|exact .c) (hc:ay E c (.int j (m:Int)):=by first|exact .t rfl|exact .c) (hw:aA E g .yes:=by first|exact .none|exact .yes rfl):
 SR F K (.op ⟨some (pa d),hT z o l c,g⟩::Op.aK rs) E O R Q:=fun W h sh=>ad.ox hw hl hc B (by omega) (by have:=nW A hm;omega) (S.r (hn _) W _ (sh.alloc _))
theorem store {n:Nat} {y x:Od} {a:Pa} {I:Nat} {v:V} {cs l':List V} (i:Nat) (hn:SA F K rs E O (R.set i (some a,.cells l' false)) Q) (ha:ay E y (.ptr a I):=by exact .t rfl) (hx:ay E x v:=by first|exact .t rfl|exact .c) (hi:R[i]? =some (some a,.cells cs false):=by rfl) (ch:cT I cs v.cells=some l':=by rfl) (hl:Nat.beq v.cells.length n=true:=by rfl) (hs:aY v.cells=true:=by first|rfl|simp[aY,V.cells,iV,kI,jF,nz,nA,kJ,nB,nC, *]) (hw:aA E g .yes:=by first|exact .none|exact .yes rfl):
 SR F K (.op ⟨none,fa n y x,g⟩::Op.aK rs) E O R Q:=fun W _ sh=>ad.store hw ha hx hl (sO (sh.fy hi) hs ch) (S.r hn W _ (sh.pI hi _))
theorem app {k n m:Nat} {y x:Od} {v u:V} {cs xs:List V} {s:Option Pa} (i:Nat) (hi:R[i]? =some (s,.cells cs false)) (ho:OV v k n cs s) (hs:Src O R k u m xs) (A:aY xs=true) (j:n+m<=1073741824) (hk:0<k) (hn:∀v' s',OV v' k (n+m) (cs++xs) s'->SA F K rs ((d,v')::E) O (R.set i (s',.cells (cs++xs) false)) Q) (B:ay E y v:=by first|exact .t rfl|exact .c) (hx:ay E x u:=by first|exact .t rfl|exact .c) (hw:aA E g .yes:=by first|exact .none|exact .yes rfl):
 SR F K (.op ⟨some (pa d),qv k y x,g⟩::Op.aK rs) E O R Q:=fun W h sh=>by
 obtain⟨o,aj⟩:=hs.2 W h sh;obtain⟨v',s',h',D,k2,G⟩:=ho.app sh hi o aj hs.1 A hk j;exact ad.app hw B hx D (S.r (hn v' s' k2) W h' G)
theorem call [eY K] {n:Nat} {xs:List Od} {vs:List V} {Rt:V->Fz->List Ob->Prop} (hc:ai F n vs O [] Rt never) (hn:∀v ψ j,O.Le ψ->Rt v ψ j->SA F K rs ((d,v)::E) ψ (j++R) Q) (hx:im E xs=some vs:=by rfl) (hw:aA E g .yes:=by first|exact .none|exact .yes rfl):
 SR F K (.op ⟨some (pa d),aI n xs,g⟩::Op.aK rs) E O R Q:=fun W h sh=>by
 rcases hc (R++W) h (by simpa using sh)with⟨v,h',o,ψ,j,aj,A,B⟩|⟨_,_,_,_,_,_,_,h⟩
 ·exact WR.up aj (ad.call hw (j4 hx) o (S.r (hn v ψ j aj B) W h' (by simpa using A)))
 ·exact h.elim
theorem Gc [eY K] {n:Nat} {xs:List Od} {vs:List V} {v:V} (hc:bm F n vs O v) (hn:SA F K rs ((d,v)::E) O R Q) (hx:kE E xs vs) (hw:aA E g .yes):SR F K (.op ⟨some (pa d),aI n xs,g⟩::Op.aK rs) E O R Q:=fun W h sh=>by
 rcases hc (R++W) h (by simpa using sh)with⟨r,h',o,ψ,A,aj,j,rfl,rfl,rfl⟩|⟨_,_,_,_,_,_,_,h⟩
 ·exact ad.call hw hx o (S.r hn W h' (by simpa using j))
 ·exact h.elim
theorem al [eY K] {n:Nat} {xs:List Od} {vs:List V} {v:V} (hc:bm F n vs O v) (hn:SA F K rs ((d,v)::E) O R Q) (hx:im E xs=some vs:=by rfl) (hw:aA E g .yes:=by first|exact .none|exact .yes rfl):
 SR F K (.op ⟨some (pa d),aI n xs,g⟩::Op.aK rs) E O R Q:=call hc (fun _ _ _ _ ⟨o,aj,h⟩=>by subst o;subst aj;subst h;exact hn) hx hw
theorem ba [eY K] {n:Nat} {xs:List Od} {vs:List V} {Rt:V->Fz->List Ob->Prop} (i:Nat) {I:Ob} (hi:R[i]? =some I) (hc:ai F n vs O [I] Rt never) (hn:∀v ψ j,O.Le ψ->Rt v ψ j->SA F K rs ((d,v)::E) ψ (j++R.eraseIdx i) Q) (hx:im E xs=some vs:=by rfl) (hw:aA E g .yes:=by first|exact .none|exact .yes rfl):
 SR F K (.op ⟨some (pa d),aI n xs,g⟩::Op.aK rs) E O R Q:=fun W h sh=>by
 rcases hc (R.eraseIdx i++W) h (sh.front hi)with⟨v,h',o,ψ,j,aj,A,B⟩|⟨_,_,_,_,_,_,_,h⟩
 ·exact WR.up aj (ad.call hw (j4 hx) o (S.r (hn v ψ j aj B) W h' (by rw[bp];exact A)))
 ·exact h.elim
theorem Ge [eY K] {n:Nat} {xs:List Od} {vs:List V} {Rt:V->Fz->List Ob->Prop} (hc:ai F n vs O R Rt never) (hn:∀v ψ j,O.Le ψ->Rt v ψ j->SA F K rs ((d,v)::E) ψ j Q) (hx:im E xs=some vs:=by rfl) (hw:aA E g .yes:=by first|exact .none|exact .yes rfl):
 SR F K (.op ⟨some (pa d),aI n xs,g⟩::Op.aK rs) E O R Q:=fun W h sh=>by
 rcases hc W h sh with⟨v,h',o,ψ,j,aj,A,B⟩|⟨_,_,_,_,_,_,_,h⟩
 ·exact WR.up aj (ad.call hw (j4 hx) o (S.r (hn v ψ j aj B) W h' A))
 ·exact h.elim
theorem bL (i:Nat) {v:V} {k n:Nat} {cs:List V} {s:Option Pa} (ho:OV v k n cs s) (hi:R[i]? =some (s,.cells cs false)) (hn:∀ψ,O.Le ψ->FS ψ v k n cs->SA F K rs E ψ (R.eraseIdx i) Q):SR F K (Op.aK rs) E O R Q:=
 SR.fin (Fin.bL i hi ho fun ψ o aj=>.done (S.r (hn ψ o aj)))
theorem drop (i:Nat) (hn:SA F K rs E O (R.eraseIdx i) Q):SR F K (Op.aK rs) E O R Q:=SR.fin (Fin.drop i (.done (S.r hn)))
end S
end Go.Ev
namespace Go.Ev
inductive Co where
 |k
 |g (l:List Op)
 |s (a b:Co)
 |T (a b:Co)
 |c (x:Od) (a b:Co)
 |b (id:Nat) (a:Co)
 |l (a:Co)
 |x (id:Nat)
 |q
 |H (w:Od) (ps:List Pa) (a b:Co)
 |ad (a:IC ak)
noncomputable section
abbrev Co.den:Co->IC ak
 |.k=>.skip
 |.g y=>.region (Op.aK y)
 |.s y z=>.seq y.den z.den
 |.T y z=>.seq y.den z.den
 |.c w y z=>.cond w y.den z.den
 |.b id y=>.block id y.den
 |.l y=>.loop y.den
 |.x id=>.exit id
 |.q=>.ret
 |.H w ps y z=>.rangeFunc w ps y.den z.den
 |.ad y=>y
end
abbrev bz.aw (Q:bz) (id:Nat):bz:={Q with x:=fun i E ψ R=>match Nat.beq i id with|true=>Q.n E ψ R|false=>Q.x i E ψ R}
abbrev SC (F:Nat->Option aP) (K:KX):Co->Env->Fz->List Ob->bz->Prop
 |.k,E,O,R,Q=>Q.n E O R
 |.g l,E,O,R,Q=>SA F K l E O R Q
 |.s a b,E,O,R,Q=>SC F K a E O R (Q.then fun d ψ h=>SC F K b d ψ h Q)
 |.T a b,E,O,R,Q=>SC F K a E O R (Q.then fun d ψ h=>SW F K b.den d ψ h Q)
 |.b id a,E,O,R,Q=>SC F K a E O R (Q.aw id)
 |.x id,E,O,R,Q=>Q.x id E O R
 |.c x a b,E,O,R,Q=>SW F K (.cond x a.den b.den) E O R Q
 |.l a,E,O,R,Q=>SW F K (.loop a.den) E O R Q
 |.q,E,O,R,Q=>Q.r E O R
 |.H w ps a b,E,O,R,Q=>SW F K (.rangeFunc w ps a.den b.den) E O R Q
 |.ad a,E,O,R,Q=>SW F K a E O R Q
variable{F:Nat->Option aP} {K:KX}
theorem bz.Gf {Q:bz} {id:Nat}:Q.aw id={Q with x:=fun i d ψ j=>if i=id then Q.n d ψ j else Q.x i d ψ j}:=by
 unfold bz.aw;congr 1;funext i E ψ R;by_cases h:i=id
 ·subst h;rw[ae rfl,qm]
 ·rw[ab h];cases o:Nat.beq i id with
  |false=>rfl
  |true=>exact absurd (dG o) h
theorem SC.w:∀{c:Co} {E:Env} {O:Fz} {R:List Ob} {Q:bz},SC F K c E O R Q->SW F K c.den E O R Q
 |.k,_,_,_,_,h=>SW.skip h
 |.g _,_,_,_,_,h=>SW.region (S.r h)
 |.s a b,E,O,R,Q,h=>SW.seq (SW.then (fun d ψ j=>SC F K b d ψ j Q) (SC.w (c:=a) h) fun _ _ _ _ h=>SC.w h)
 |.T a b,E,O,R,Q,h=>SW.seq (SC.w (c:=a) h)
 |.b id a,E,O,R,Q,h=>SW.block (by have:=SC.w (c:=a) h;rw[bz.Gf]at this;exact this)
 |.x _,_,_,_,_,h=>SW.exit h
 |.c _ _ _,_,_,_,_,h=>h
 |.l _,_,_,_,_,h=>h
 |.q,_,_,_,_,h=>SW.ret h
 |.H _ _ _ _,_,_,_,_,h=>h
 |.ad _,_,_,_,_,h=>h
namespace C
variable{E:Env} {O:Fz} {R:List Ob} {Q:bz}
theorem B {c:Od} {a b:Co} {t:Bool} (ht:t=true->SC F K a E O R Q) (d:t=false->SC F K b E O R Q) (hc:ay E c (.bool t):=by exact .t rfl):SW F K (.cond c a.den b.den) E O R Q:=SW.vw hc (fun h=>(ht h).w) fun h=>(d h).w
theorem D {c:Od} {a b:Co} {p:Prop} [Decidable p] (ht:p->SC F K a E O R Q) (d:¬p->SC F K b E O R Q) (hc:ay E c (.bool (decide p)):=by exact .t rfl):SW F K (.cond c a.den b.den) E O R Q:=SW.sS hc (fun h=>(ht h).w) fun h=>(d h).w
theorem sub {c:Co} {d:Env} (hs:Sub d E) (hw:SC F K c d O R Q):SW F K c.den E O R Q:=SW.sub hs hw.w
end C
end Go.Ev
namespace Go.Ev
abbrev t (n:Nat):Od:=.t (pa n)
abbrev i (n:Int):Od:=.c (.int .i64 n)
abbrev I (d:Nat) (s:bx):Op:=.r (.op ⟨some (pa d),s,none⟩)
abbrev o0 (s:bx):Op:=.r (.op ⟨none,s,none⟩)
abbrev oy (g d:Nat) (s:bx):Op:=.r (.op ⟨some (pa d),s,some (pa g,true)⟩)
abbrev on (g d:Nat) (s:bx):Op:=.r (.op ⟨some (pa d),s,some (pa g,false)⟩)
abbrev ko (d:Nat) (s:bx):Op:=.r (.bX ⟨some (pa d),s,none⟩)
abbrev oC (g d:Nat) (s:bx):Op:=.r (.bX ⟨some (pa d),s,some (pa g,false)⟩)
end Go.Ev
