/- A part of the proof of SegAll (made short by a program). -/
import Derived.Test.YtmglhbclhfgmaaaGreatDoorWC
import Derived.Orders
import Derived.Below
import Derived.Shelf.Strings.Repeat
import Derived.Laws.IdiomCopy
import Derived.Lib.Bytealg
import Derived.Lib.Join
namespace Go.Ev
variable{C:Cx} {K:CK} {ls:List LE} {m:Nat} {bh:List Frame} {f0:Nat} {U:AM} {Λ:Pa→Prop} {h:Hp} {w:World}
variable(F:Nat→Option aN)
theorem SO {P:Program} {ρ:Operand→Value} {e e0:T V} (ho:iC U e0 ρ) {c:Call} {x:Operand} (hx:c.callee=.value x) (hs:ic e0 e c.operands.toList) (ty:TypeId) {g:Nat} {bf:List V} (hv:(cO x).ev e=.fn g bf):
 ∃(cc:List Value) (A:List Value),(resolve ρ c ty).run P w=.ok {target:=.fn (.func g) ⟨cc⟩,args:=⟨A⟩} w∧bd U (ea e (c.args.toList.map cO)++bf) (A++cc):=by
 have I:(cO x).ev e0=(cO x).ev e:=hs x (by simp[Call.operands,hx]);have J:=ho x;rw[I,hv]at J;have h3:ea e0 (c.args.toList.map cO)=ea e (c.args.toList.map cO):=Fv fun y hy=>hs y (by simp only[Call.operands,hx];simp at hy⊢;exact .inr hy);have h4:=ho.list c.args.toList;rw[h3]at h4;generalize hr:ρ x=y at J;cases J with
 |fn _ _ cc d1=>
  refine⟨cc,c.args.toList.map ρ,?_,h4.append d1⟩;simp only[resolve,hx,hr,Deferred.ofValue,Sem.run_pure];congr 2;apply Array.toList_inj.1;simp
theorem SP (hF:qS C F) (hN:sP C.P) {fk:FK} {e:T V} {tmps:Array Value} {todo:List Item} {bg:List Go.Item} {defs:List Def} {ds:List Deferred} {ops:Array Oper} {o:RO al} {rs:List (RS al)} {i:Nat} {L:List Nat} {oi:Oper}
 (hk:KR U fk K) (hd:fc U defs ds) (hw:nU C.P fk.nt ops (kA C.P fk.fn) m U e h tmps o rs i L oi) (ht:fL C.P U fk.nt (b1 C.P fk.fn) todo bg) (s:aP C U Λ h ls w) (hm:m≤h.next.toNat) {cs:List Fr} {ccs:List Frame} (aj:gA C.P U bh f0 m fk.deferred fk.fn cs ccs)
 (i7:Region.wanted oi (yielded ops tmps)=true) {c:Call} {x:Operand} (aS:oi.op=.call c) (hx:c.callee=.value x) {e0:T V} (ho:iC U e0 (de tmps)) (hs:ic e0 e oi.op.operands.toList) {g:Nat} {bf:List V} (hv:(cO x).ev e=.fn g bf):
 fe C bh f0 (lone (K.fr tmps (.inRegion ops (i::L)::bg) ds .run) ccs w) (mJ F ⟨fk,e,.dc (.op o::rs)::todo,defs,.run⟩ cs h ls g (ea e (c.args.toList.map cO)++bf)):=by
 rw[aS]at hs;obtain⟨cc,A,r1,r2⟩:=SO (w:=w) (P:=C.P) ho hx hs oi.type hv;unfold mJ;rcases hF.split g with dF|⟨N3,dF,⟨i5,hc⟩,ab,d3⟩|⟨i5,dF,hc⟩
 ·rw[dF];trivial
 ·rw[dF];simp only;obtain⟨fn,code,I,J,h3⟩:=FH hN hc;have cJ:(execOp (de tmps) oi).run C.P w=.ok (.enter g (A++cc).toArray) w:=by
   have e1:((⟨A⟩:Array Value)++(⟨cc⟩:Array Value))=(A++cc).toArray:=by
    apply Array.toList_inj.1;simp
   simp only[execOp,aS,Sem.run_bind,r1,Result.andThen_ok,invoke,e1];exact FF I J h3 _ w
  cases hg:N3 (ea e (c.args.toList.map cO)++bf) h with
  |none=>trivial
  |some p=>
   obtain⟨v,h'⟩:=p;simp only;obtain⟨j2,w',fr,⟨xV,aA,dh,rfl,ac,s',Dv,xU,b3⟩,XC,Ab,Dw⟩:=ab C U Λ h ls w _ _ v h' rfl d3 s r2 hg (K.fr tmps (.inRegion ops (i::L)::bg) ds .run::ccs);have ge:∀a,a.toNat<h.next.toNat→U a=none→aA a=none:=fun a ha hn=>by
    cases pU:aA a with
    |none=>rfl
    |some L=>have:=xU a hn (by rw[pU];simp);omega
   obtain⟨fr',q1,q2,q3⟩:=SM (h:=h') (.wait (hk.mono ac) (hd.mono ac) (hw.mono ac ge) (ht.mono ac)) b3 Dv cs ls;rw[q1];refine⟨_,.head (m₁:=lone (Frame.enter C.P g (A++cc).toArray .normal) (K.fr tmps (.inRegion ops (i::L)::bg) ds .run::ccs) w) ?_ (Steps.trans XC (.one (step_leave_returned Dw))),⟨aA,dh,w',m,_,_,rfl,s',by omega,q2,by rw[q3];exact aj.mono ac (fun a ha hn=>ge a (by omega) hn)⟩⟩;refine step_lone_go (fr':=Frame.enter C.P g (A++cc).toArray .normal) (cs':=K.fr tmps (.inRegion ops (i::L)::bg) ds .run::ccs) (w':=w) ?_;rw[xa hw.at_ i7 (.inr fun c' fT=>by rw[aS]at fT;cases fT)];simp[stepG.apply,cJ,CK.fr]
 ·rw[dF];simp only;obtain⟨fn,code,I,J,h3⟩:=FH hN hc;have fm:=ze (U:=U) (h:=h) (m:=h.next.toNat) hc r2 false;have cJ:(execOp (de tmps) oi).run C.P w=.ok (.enter g (A++cc).toArray) w:=by
   have e1:((⟨A⟩:Array Value)++(⟨cc⟩:Array Value))=(A++cc).toArray:=by
    apply Array.toList_inj.1;simp
   simp only[execOp,aS,Sem.run_bind,r1,Result.andThen_ok,invoke,e1];exact FF I J h3 _ w
  refine⟨_,.one (step_lone_go (fr':=Frame.enter C.P g (A++cc).toArray .normal) (cs':=K.fr tmps (.inRegion ops (i::L)::bg) ds .run::ccs) (w':=w) ?_),⟨U,Λ,w,h.next.toNat,_,_,rfl,s,Nat.le_refl _,fm.1,?_⟩⟩
  ·rw[xa hw.at_ i7 (.inr fun c' fT=>by rw[aS]at fT;cases fT)];simp[stepG.apply,cJ,CK.fr]
  ·rw[fm.2.1,fm.2.2];exact .cons h (.wait hk hd hw ht) hm (Nat.le_refl _) aj
theorem aer {fk:FK} (i9:fk.round=none) {e:T V} {tmps:Array Value} {todo:List Item} {bg:List Go.Item} {defs:List Def} {ds:List Deferred} {ops:Array Oper} {o:RO al} {rs:List (RS al)} {i:Nat} {L:List Nat} {oi:Oper}
 (hk:KR U fk K) (hd:fc U defs ds) (hw:nU C.P fk.nt ops (kA C.P fk.fn) m U e h tmps o rs i L oi) (ht:fL C.P U fk.nt (b1 C.P fk.fn) todo bg) (s:aP C U Λ h ls w) (hm:m≤h.next.toNat) {cs:List Fr} {ccs:List Frame} (aj:gA C.P U bh f0 m fk.deferred fk.fn cs ccs)
 (i7:Region.wanted oi (yielded ops tmps)=true) {c:Call} {x:Operand} (aS:oi.op=.defer c) (hx:c.callee=.value x) {e0:T V} (ho:iC U e0 (de tmps)) (hs:ic e0 e oi.op.operands.toList) {g:Nat} {bf:List V} (hv:(cO x).ev e=.fn g bf):
 fe C bh f0 (lone (K.fr tmps (.inRegion ops (i::L)::bg) ds .run) ccs w) (.go ⟨fk,e.put dm o.dst,.dc rs::todo,.call g (ea e (c.args.toList.map cO)++bf)::defs,.run⟩ cs h ls):=by
 rw[aS]at hs;obtain⟨cc,A,r1,r2⟩:=SO (w:=w) (P:=C.P) ho hx hs oi.type hv;have cJ:(execOp (de tmps) oi).run C.P w=.ok (.defer {target:=.fn (.func g) ⟨cc⟩,args:=⟨A⟩}) w:=by
  simp only[execOp,aS,Sem.run_bind,r1,Result.andThen_ok,Sem.run_pure]
 refine⟨_,.one (step_lone_go (fr':=K.fr (lE tmps oi.dst undef) (.inRegion ops L::bg) ({target:=.fn (.func g) ⟨cc⟩,args:=⟨A⟩}::ds) .run) (cs':=ccs) (w':=w) ?_),
  ⟨U,Λ,w,m,_,_,rfl,s,hm,Cy hk (.call cc (by simpa using r2) hd) hw ht (Nat.le_refl _) (w9 U),aj⟩⟩
 have gO:K.round=none:=by have:=hk.round;rw[i9]at this;exact this
 rw[xa hw.at_ i7 (.inl gO),←Cq hw.at_];simp only[stepG.apply,Sem.runT_eq,cJ,GStep.bare_after];simp[CK.fr]
theorem SQ:∀(ps:List Nat) (args:List V) (cE:List Value) (env e1:T V) (tmps:Array Value) (n:Nat),fJ U env tmps→bd U args cE→sG (ps.map pa) args env=some e1→(∀t∈ps,t<n)→n≤tmps.size→
 fJ U e1 ((ps.zip cE).foldl (fun(tmps:Array Value) (ta:Nat×Value)=>tmps.setIfInBounds ta.1 ta.2) tmps)∧ps.length=cE.length∧n≤((ps.zip cE).foldl (fun(tmps:Array Value) (ta:Nat×Value)=>tmps.setIfInBounds ta.1 ta.2) tmps).size
 |[],args,cE,env,e1,tmps,n,he,ha,hs,hp,hn=>by
  cases args with
  |nil=>cases ha;simp[sG]at hs;subst hs;exact⟨he,rfl,hn⟩
  |cons v args=>simp[sG]at hs
 |t::ps,args,cE,env,e1,tmps,n,he,ha,hs,hp,hn=>by
  cases args with
  |nil=>simp[sG]at hs
  |cons v args=>
   cases ha with
   |cons _ c _ cs h jZ=>
    simp only[List.map_cons,sG]at hs;have ht:t<n:=hp t (by simp);obtain⟨I,J,h3⟩:=SQ ps args cs (env.set v (pa t)) e1 (tmps.setIfInBounds t c) n (he.set h (by omega)) jZ hs (fun u hu=>hp u (by simp[hu])) (by simpa using hn);exact⟨I,by simp[J],h3⟩
theorem aes {fk:FK} {e:T V} {tmps:Array Value} {todo:List Item} {bg:List Go.Item} {defs:List Def} {ds:List Deferred} {ops:Array Oper} {o:RO al} {rs:List (RS al)} {i:Nat} {L:List Nat} {oi:Oper}
 (hk:KR U fk K) (hd:fc U defs ds) (hw:nU C.P fk.nt ops (kA C.P fk.fn) m U e h tmps o rs i L oi) (ht:fL C.P U fk.nt (b1 C.P fk.fn) todo bg) (s:aP C U Λ h ls w) (hm:m≤h.next.toNat) {cs:List Fr} {ccs:List Frame} (aj:gA C.P U bh f0 m fk.deferred fk.fn cs ccs)
 (i7:Region.wanted oi (yielded ops tmps)=true) {c:Call} {x:Operand} (aS:oi.op=.call c) (hx:c.callee=.value x) {e0:T V} (ho:iC U e0 (de tmps)) (hs:ic e0 e oi.op.operands.toList) {l:Pa} (hv:(cO x).ev e=.gV l):
 fe C bh f0 (lone (K.fr tmps (.inRegion ops (i::L)::bg) ds .run) ccs w) (w0 ⟨fk,e,.dc (.op o::rs)::todo,defs,.run⟩ cs h ls l (ea e (c.args.toList.map cO))):=by
 rw[aS]at hs;have I:(cO x).ev e0=(cO x).ev e:=hs x (by simp[Op.operands,Call.operands,hx]);have J:=ho x;rw[I,hv]at J;have h3:ea e0 (c.args.toList.map cO)=ea e (c.args.toList.map cO):=Fv fun y hy=>hs y (by simp only[Op.operands,Call.operands,hx];simp at hy⊢;exact .inr hy);have h4:=ho.list c.args.toList;rw[h3]at h4;unfold w0;cases hg:h.get l with
 |none=>trivial
 |some b=>
  cases b<;>(try trivial)
  rename_i r;simp only;cases cI:sG r.params (ea e (c.args.toList.map cO)) r.env with
  |none=>trivial
  |some e1=>
   simp only;cases ac:gb l ls with
   |none=>trivial
   |some y=>
    simp only;generalize XD:de tmps x=xV at J;cases J with
    |gV _ Ll ha=>
     have bn:Λ l:=by
      rcases s.live l Ll _ ha hg with I|⟨m,I⟩
      ·exact I
      ·cases I
     obtain⟨b',g1,g2⟩:=s.aw l Ll ha bn;rw[hg]at g1;cases g1;obtain⟨X,ci,eq,f7,g0,f9,oF,tE,tF,y',rE,N4,HB⟩:=g2;rw[ac]at rE;cases rE;rw[tE]at cI;obtain⟨p1,p2,HC⟩:=SQ X.params.toList _ _ r.env e1 X.tmps r.nt f9 h4 cI tF oF;have cJ:(execOp (de tmps) oi).run C.P w=.ok (.round Ll.aw X.fn ((X.params.zip (c.args.map (de tmps))).foldl (fun tmps (t,a)=>tmps.setIfInBounds t a) X.tmps) X.assign X.body) w:=by
      have ab:(Instr.getLoop Ll.aw).run C.P w=.ok X w:=by simp[Instr.getLoop,getObj,Sem.run,ci]
      have bJ:¬((c.args.map (de tmps)).size≠X.params.size):=by
       have e2:X.params.size=(List.map (de tmps) c.args.toList).length:=p2;simp at e2⊢;omega
      have XE:(#[]++c.args.map (de tmps))=c.args.map (de tmps):=by simp
      simp only[execOp,aS,resolve,hx,XD,Deferred.ofValue,Sem.run_bind,Sem.run_pure,Result.andThen_ok,invoke,XE,Instr.yield,ab,if_neg bJ]
     have XF:(X.params.zip (c.args.map (de tmps))).foldl (fun tmps (t,a)=>tmps.setIfInBounds t a) X.tmps=
      (X.params.toList.zip (c.args.toList.map (de tmps))).foldl (fun(tmps:Array Value) (ta:Nat×Value)=>tmps.setIfInBounds ta.1 ta.2) X.tmps:=by
      rw[←Array.foldl_toList,Array.toList_zip,Array.toList_map]
     rw[XF]at cJ;generalize (X.params.toList.zip (c.args.toList.map (de tmps))).foldl (fun(tmps:Array Value) (ta:Nat×Value)=>tmps.setIfInBounds ta.1 ta.2) X.tmps=T at cJ p1 HC;refine⟨_,.one (step_lone_go (fr':=(CK.mk X.fn .normal (some Ll.aw)).fr T [.code X.assign,.beginRound,.code X.body] [] .run) (cs':=K.fr tmps (.inRegion ops (i::L)::bg) ds .run::ccs) (w':=w) ?_),
      ⟨U,Λ,w,h.next.toNat,_,_,rfl,s,Nat.le_refl _,.run (K:=CK.mk X.fn .normal (some Ll.aw)) ⟨g0.symm,rfl,Ll,ha,rfl⟩ .nil p1 HC ?_,.cons h (.wait hk hd hw ht) hm (Nat.le_refl _) aj⟩⟩
     ·rw[xa hw.at_ i7 (.inr fun c' fT=>by rw[aS]at fT;cases fT)];simp[stepG.apply,cJ,CK.fr,Frame.round]
     ·rw[N4,HB];exact .cons (.code _) (.cons .begin (.cons (.code _) .nil))
theorem aet {fk:FK} {e:T V} {tmps:Array Value} {todo:List Item} {bg:List Go.Item} {defs:List Def} {ds:List Deferred} {ops:Array Oper} {o:RO al} {rs:List (RS al)} {i:Nat} {L:List Nat} {oi:Oper}
 (hk:KR U fk K) (hd:fc U defs ds) (hw:nU C.P fk.nt ops (kA C.P fk.fn) m U e h tmps o rs i L oi) (ht:fL C.P U fk.nt (b1 C.P fk.fn) todo bg) (s:aP C U Λ h ls w) (hm:m≤h.next.toNat) {cs:List Fr} {ccs:List Frame} (aj:gA C.P U bh f0 m fk.deferred fk.fn cs ccs)
 (i7:Region.wanted oi (yielded ops tmps)=true) {c:Call} (aS:oi.op=.call c) (hx:c.callee=.builtin .recover):
 fe C bh f0 (lone (K.fr tmps (.inRegion ops (i::L)::bg) ds .run) ccs w) (uG F fk e o rs todo defs cs h ls .recover):=by
 simp only[uG];have cJ:(execOp (de tmps) oi).run C.P w=.ok .recover w:=by
  simp only[execOp,aS,resolve,hx,Sem.run_bind,Sem.run_pure,Result.andThen_ok,invoke,builtin]
 have vC:=Cq (K:=K) (tmps:=tmps) (ds:=ds) (k:=bg) (rest:=L) hw.at_;generalize p0:fk.deferred=d at aj;cases aj with
 |nil=>trivial
 | @cons _ m' _ _ dQ cc cs ccs h0 hc I J hs=>
   simp only;cases d with
   |false=>trivial
   |true=>
    simp only[cond_true];cases hr:fk.round with
    |some l=>trivial
    |none=>
     have gO:K.round=none:=by have:=hk.round;rw[hr]at this;exact this
     have HD:K.kind=.deferred:=by rw[hk.kind,p0];(try rfl)
     simp only;have eZ:∀(v:Value) (Dx:Frame),(tryRecover (K.fr tmps (.inRegion ops (i::L)::bg) ds .run) (cc::ccs)=some (v,Dx::ccs)∨(tryRecover (K.fr tmps (.inRegion ops (i::L)::bg) ds .run) (cc::ccs)=none∧v=.nilIface∧Dx=cc))→
      Steps C.P (lone (K.fr tmps (.inRegion ops (i::L)::bg) ds .run) (cc::ccs) w) (lone (K.fr (lE tmps oi.dst v) (.inRegion ops L::bg) ds .run) (Dx::ccs) w):=fun v Dx Ad=>by
      refine .one (step_lone_go ?_);rw[xa hw.at_ i7 (.inr fun c' fT=>by rw[aS]at fT;cases fT),←vC];have f5:(K.fr tmps (.inRegion ops (i::L)::bg) ds .run).roundOf=none:=gO;rcases Ad with Ad|⟨Ad,rfl,rfl⟩
      ·simp[stepG.apply,cJ,f5,Ad]
      ·simp[stepG.apply,cJ,f5,Ad]
     cases hc with
     | @out k' K' e' g8 Xy tC Hy nj md mb dZ jy ca rD=>
       cases rD with
       |ret=>
        exact⟨_,eZ .nilIface _ (.inr ⟨by simp[tryRecover,CK.fr,HD],rfl,rfl⟩),⟨U,Λ,w,m,_,_,rfl,s,hm,Cy hk hd hw ht (Nat.le_refl _) .Ff,by
         show gA C.P U bh f0 m fk.deferred fk.fn _ _;rw[p0];exact .cons h0 (.out dZ jy ca .ret) I J hs⟩⟩
       | @pw v' c' r Ac=>
         cases r with
         |true=>
          simp only[cond_true];exact⟨_,eZ .nilIface _ (.inr ⟨by simp[tryRecover,CK.fr,HD],rfl,rfl⟩),⟨U,Λ,w,m,_,_,rfl,s,hm,Cy hk hd hw ht (Nat.le_refl _) .Ff,by
           show gA C.P U bh f0 m fk.deferred fk.fn _ _;rw[p0];exact .cons h0 (.out dZ jy ca (.pw true Ac)) I J hs⟩⟩
         |false=>
          simp only[cond_false];exact⟨_,eZ c' (K'.fr g8 tC nj (.panicking [{v:=c',recovered:=true,goexit:=false}])) (.inl (by simp[tryRecover,CK.fr,HD])),⟨U,Λ,w,m,_,_,rfl,s,hm,Cy hk hd hw ht (Nat.le_refl _) Ac,by
           show gA C.P U bh f0 m fk.deferred fk.fn _ _;rw[p0];exact .cons h0 (.out dZ jy ca (.pw true Ac)) I J hs⟩⟩
theorem aeu {fk:FK} {e:T V} {tmps:Array Value} {todo:List Item} {bg:List Go.Item} {defs:List Def} {ds:List Deferred} {ops:Array Oper} {o:RO al} {rs:List (RS al)} {i:Nat} {L:List Nat} {oi:Oper}
 (hk:KR U fk K) (hd:fc U defs ds) (hw:nU C.P fk.nt ops (kA C.P fk.fn) m U e h tmps o rs i L oi) (s:aP C U Λ h ls w) (hm:m≤h.next.toNat) {cs:List Fr} {ccs:List Frame} (aj:gA C.P U bh f0 m fk.deferred fk.fn cs ccs)
 (i7:Region.wanted oi (yielded ops tmps)=true) {x:Operand} (aS:oi.op=.panic x∨∃c,oi.op=.call c∧c.callee=.builtin .panic∧c.args.toList=[x]) {e0:T V} (ho:iC U e0 (de tmps)) (hs:ic e0 e oi.op.operands.toList) {t:Nat} {v:V} (hv:(cO x).ev e=.iface t v):
 fe C bh f0 (lone (K.fr tmps (.inRegion ops (i::L)::bg) ds .run) ccs w) (.go ⟨fk,e,.dc (.op o::rs)::todo,defs,.panicking (.iface t v) false⟩ cs h ls):=by
 have Ae:x∈oi.op.operands.toList:=by
  rcases aS with I|⟨c,I,J,h3⟩
  ·simp[I,Op.operands]
  ·simp[I,Op.operands,Call.operands,J,za h3]
 have I:(cO x).ev e0=(cO x).ev e:=hs x Ae;have J:=ho x;rw[I,hv]at J;generalize hr:de tmps x=y at J;have cJ:(execOp (de tmps) oi).run C.P w=.halt (.panic y) w:=by
  cases J with
  |iface _ _ c' fT=>
   rcases aS with I|⟨c,I,J,h3⟩
   ·simp only[execOp,I,hr];simp[Instr.panic,goPanic,Sem.run]
   ·simp only[execOp,I,resolve,J,za h3,Sem.run_bind,Sem.run_pure,Result.andThen_ok,invoke,builtin,List.map_toArray,List.map_cons,List.map_nil,hr];simp[Instr.panic,goPanic]
 obtain⟨chks,vy,p,q1,q2,q3,Dr,HA,q6⟩:=hw.rest;refine⟨_,.one (step_lone_go (fr':=K.fr tmps (.inRegion ops (i::L)::bg) ds (.panicking [{v:=y,recovered:=false,goexit:=false}])) (cs':=ccs) (w':=w) ?_),⟨U,Λ,w,m,_,_,rfl,s,hm,.out hk hd (SE q3 HA) (.pw false J),aj⟩⟩;have pW:∀c,oi.op≠.defer c:=fun c' fT=>by
  rcases aS with I|⟨c,I,_⟩
  ·rw[I]at fT;cases fT
  ·rw[I]at fT;cases fT
 rw[xa hw.at_ i7 (.inr pW)];simp[stepG.apply,cJ,CK.fr,Frame.raise]
theorem aev (hF:qS C F) (hN:sP C.P) {fk:FK} {e:T V} {tmps:Array Value} {todo:List Item} {bg:List Go.Item} {defs:List Def} {ds:List Deferred} {ops:Array Oper} {o:RO al} {rs:List (RS al)} {i:Nat} {L:List Nat} {oi:Oper}
 (hk:KR U fk K) (hd:fc U defs ds) (hw:nU C.P fk.nt ops (kA C.P fk.fn) m U e h tmps o rs i L oi) (ht:fL C.P U fk.nt (b1 C.P fk.fn) todo bg) (s:aP C U Λ h ls w) (hm:m≤h.next.toNat) {cs:List Fr} {ccs:List Frame} (aj:gA C.P U bh f0 m fk.deferred fk.fn cs ccs)
 (i7:Region.wanted oi (yielded ops tmps)=true) {f:T V→lj} (HE:cR C.P oi.op=.ed f) {e0:T V} (ho:iC U e0 (de tmps)) (hs:ic e0 e oi.op.operands.toList):
 fe C bh f0 (lone (K.fr tmps (.inRegion ops (i::L)::bg) ds .run) ccs w) (uG F fk e o rs todo defs cs h ls (f e)):=by
 rcases ael HE with⟨n,rfl⟩|⟨c,x,aS,hx,hf⟩|⟨c,x,aS,hx,rfl⟩|⟨c,aS,hx,rfl⟩|⟨x,aS,rfl⟩
 ·trivial
 ·rcases hf with⟨g,rfl,rfl⟩|rfl
  ·have:=SP F hF hN hk hd hw ht s hm aj i7 aS hx ho hs (g:=g) (bf:=[]) rfl;simpa[uG]using this
  ·simp only;cases hv:(cO x).ev e<;>(try trivial)
   ·exact SP F hF hN hk hd hw ht s hm aj i7 aS hx ho hs hv
   ·exact aes hk hd hw ht s hm aj i7 aS hx ho hs hv
 ·simp only;cases hv:(cO x).ev e<;>(try trivial)
  simp only[uG];cases hr:fk.round with
  |some l=>trivial
  |none=>exact aer hr hk hd hw ht s hm aj i7 aS hx ho hs hv
 ·exact aet F hk hd hw ht s hm aj i7 aS hx
 ·simp only;cases hv:(cO x).ev e<;>(try trivial)
  exact aeu hk hd hw s hm aj i7 aS ho hs hv
end Go.Ev
namespace Go.Ev
variable{C:Cx} {K:CK} {ls:List LE} {m:Nat} {bh:List Frame} {f0:Nat} {U:AM} {Λ:Pa→Prop} {h:Hp} {w:World}
variable(F:Nat→Option aN)
def Cz:Option qv→Option Code
 |none=>none
 |some .ret=>some .ret
 |some (.exit id)=>some (.exit id)
theorem aew (j:Option qv):K8 j (Cz j):=by
 cases j with
 |none=>trivial
 |some j=>cases j with
  |ret=>trivial
  |exit id=>rfl
theorem aex {P:Program} {b:Nat} {X:Loop} (hb:w.heap[b]? =some (.loop X)) (j:Option Code):
 ∃w',(Instr.endRound b j).run P w=.ok (.bool j.isNone) w'∧iR w w' b∧w'.heap[b]? =some (.loop {X with state:=if j.isNone then .ready else .done,pending:=j}):=by
 have ap:=(Array.getElem?_eq_some_iff.1 hb).1;refine⟨{w with heap:=w.heap.setIfInBounds b (.loop {X with state:=if j.isNone then .ready else .done,pending:=j})},?_,⟨by simp,fun i hi=>Array.getElem?_setIfInBounds_ne (Ne.symm hi),rfl,rfl,rfl,Nat.le_refl _⟩,Array.getElem?_setIfInBounds_self_of_lt ap⟩;simp[Instr.endRound,Instr.getLoop,getObj,setObj,Sem.run,hb]
theorem aey {P:Program} {b:Nat} {X:Loop} (hb:w.heap[b]? =some (.loop X)) (hr:X.state=.ready):
 ∃w',(Instr.beginRound b).run P w=.ok () w'∧iR w w' b∧w'.heap[b]? =some (.loop {X with state:=.busy}):=by
 have ap:=(Array.getElem?_eq_some_iff.1 hb).1;refine⟨{w with heap:=w.heap.setIfInBounds b (.loop {X with state:=.busy})},?_,⟨by simp,fun i hi=>Array.getElem?_setIfInBounds_ne (Ne.symm hi),rfl,rfl,rfl,Nat.le_refl _⟩,Array.getElem?_setIfInBounds_self_of_lt ap⟩;simp[Instr.beginRound,Instr.getLoop,getObj,setObj,Sem.run,hb,hr]
theorem aez {P:Program} {b:Nat} {X:Loop} (hb:w.heap[b]? =some (.loop X)) (hr:X.state≠.busy):
 ∃w',(Instr.endLoop b).run P w=.ok X.pending w'∧iR w w' b∧w'.heap[b]? =some (.loop {X with state:=.exhausted}):=by
 have ap:=(Array.getElem?_eq_some_iff.1 hb).1;refine⟨{w with heap:=w.heap.setIfInBounds b (.loop {X with state:=.exhausted})},?_,⟨by simp,fun i hi=>Array.getElem?_setIfInBounds_ne (Ne.symm hi),rfl,rfl,rfl,Nat.le_refl _⟩,Array.getElem?_setIfInBounds_self_of_lt ap⟩;simp[Instr.endLoop,Instr.getLoop,getObj,setObj,Sem.run,hb,hr]
theorem LO (s:aP C U Λ h ls w) {l:Pa} {L:Loc} (ha:U l=some L) {r:sB} (hg:h.get l=some (.loop r)):Λ l∧BR C.P U ls l (.loop r) L w:=by
 have bn:Λ l:=by
  rcases s.live l L _ ha hg with I|⟨m,I⟩
  ·exact I
  ·cases I
 obtain⟨b',g1,g2⟩:=s.aw l L ha bn;rw[hg]at g1;cases g1;exact⟨bn,g2⟩
theorem LP {fk:FK} {e:T V} {tmps:Array Value} {todo:List Item} {defs:List Def} {ds:List Deferred} {bg:List Go.Item} (hk:KR U fk K) (hd:fc U defs ds) (he:fJ U e tmps)
 (s:aP C U Λ h ls w) (hm:m≤h.next.toNat) {cs:List Fr} {ccs:List Frame} (aj:gA C.P U bh f0 m fk.deferred fk.fn cs ccs) (j:Option qv)
 (I:K.round=none→(∀id,j≠some (.exit id))→Go.step C.P (lone (K.fr tmps bg ds .run) ccs w)=.next (lone (K.fr tmps bg ds .returning) ccs w))
 (J:∀b v w',K.round=some b→(Instr.endRound b (Cz j)).run C.P w=.ok v w'→∀fr' cs',(Go.doReturn C.P true (K.fr tmps bg ds .run) ccs none v w').bare=.go {frame:=fr',callers:=cs',status:=.running,dying:=none} w'→
   Go.step C.P (lone (K.fr tmps bg ds .run) ccs w)=.next (lone fr' cs' w')):
 fe C bh f0 (lone (K.fr tmps bg ds .run) ccs w) (uH ⟨fk,e,todo,defs,.run⟩ cs h ls j):=by
 simp only[uH];have gO:=hk.round;cases hr:fk.round with
 |none=>
  rw[hr]at gO;have ab:(∀id,j≠some (.exit id))→fe C bh f0 (lone (K.fr tmps bg ds .run) ccs w) (.go ⟨fk,e,todo,defs,.returning⟩ cs h ls):=fun hj=>
   ⟨_,.one (I gO hj),⟨U,Λ,w,m,_,_,rfl,s,hm,.out hk hd (he.X _) .ret,aj⟩⟩
  cases j with
  |none=>exact ab (fun id h=>by cases h)
  |some j=>cases j with
   |ret=>exact ab (fun id h=>by cases h)
   |exit id=>trivial
 |some l=>
  rw[hr]at gO;obtain⟨L,ha,gO⟩:=gO;simp only;cases hg:h.get l with
  |none=>trivial
  |some b=>
   cases b<;>(try trivial)
   rename_i r;simp only;cases hd with
   |mark=>trivial
   |call=>trivial
   |nil=>
    simp only;obtain⟨bn,X,ci,eq,f7,g0,f9,oF,tE,tF,y,rE⟩:=LO s ha hg;obtain⟨w',t1,t2,t3⟩:=aex (P:=C.P) ci (Cz j);have ox:(Cz j).isNone=(match(generalizing:=false) j with|none=>true|some _=>false):=by
     cases j with
     |none=>rfl
     |some j=>cases j<;>rfl
    have s':aP C U Λ (h.put l (.loop {r with state:=match(generalizing:=false) j with|none=>.ready|some _=>.done,pending:=j})) ls w':=by
     refine s.w5 ha bn hg rfl rfl t2 ⟨_,t3,?_,aew j,g0,f9,oF,tE,tF,y,rE⟩;cases j with
     |none=>rfl
     |some j=>cases j<;>rfl
    refine SN (c:=.bool (Cz j).isNone) hk (by rw[ox];exact .bool _) s' hm aj (fun hn cc rest e1=>?_) (fun hb cc rest e1=>?_) (fun Af=>by rw[hr]at Af;cases Af)
    ·subst e1;refine .one (J _ _ _ gO t1 _ _ ?_);simp[Go.doReturn,CK.fr,hn]
    ·subst e1;refine .one (J _ _ _ gO t1 _ _ ?_);simp[Go.doReturn,CK.fr,hb];rfl
section leaves
variable{P:Program} {tmps:Array Value} {k:List Go.Item} {cs:List Frame} {ds:List Deferred}
theorem aeA {b:Nat} {v:Value} {w':World} (hr:K.round=some b) (he:(Instr.endRound b (some .ret)).run P w=.ok v w') {fr':Frame} {cs':List Frame}
 (hd:(Go.doReturn P true (K.fr tmps (.code .ret::k) ds .run) cs none v w').bare=.go {frame:=fr',callers:=cs',status:=.running,dying:=none} w'):
 Go.step P (lone (K.fr tmps (.code .ret::k) ds .run) cs w)=.next (lone fr' cs' w'):=by
 refine step_lone_go ?_;simp only[CK.fr,hr]at hd⊢;simp[stepG,stepG.exec,he,hd]
theorem aeB {b:Nat} {v:Value} {w':World} (hr:K.round=some b) (he:(Instr.endRound b none).run P w=.ok v w') {fr':Frame} {cs':List Frame}
 (hd:(Go.doReturn P true (K.fr tmps [] ds .run) cs none v w').bare=.go {frame:=fr',callers:=cs',status:=.running,dying:=none} w'):
 Go.step P (lone (K.fr tmps [] ds .run) cs w)=.next (lone fr' cs' w'):=by
 refine step_lone_go ?_;simp only[CK.fr,hr]at hd⊢;simp[stepG,stepG.exec,he,hd]
theorem aeC {b id:Nat} {v:Value} {w':World} (hx:Go.exitTo id k=none) (hr:K.round=some b) (he:(Instr.endRound b (some (.exit id))).run P w=.ok v w') {fr':Frame} {cs':List Frame}
 (hd:(Go.doReturn P true (K.fr tmps (.code (.exit id)::k) ds .run) cs none v w').bare=.go {frame:=fr',callers:=cs',status:=.running,dying:=none} w'):
 Go.step P (lone (K.fr tmps (.code (.exit id)::k) ds .run) cs w)=.next (lone fr' cs' w'):=by
 refine step_lone_go ?_;simp only[CK.fr,hr]at hd⊢;simp[stepG,stepG.exec,hx,he,hd]
end leaves
theorem aP.aeD (s:aP C U Λ h ls w) (ci eq:al) (a b:IC al):aP C U Λ ((h.alloc ci).alloc eq) (⟨h.next.succ,a,b⟩::ls) w:=by
 have s2:=(s.ghost ci).ghost eq;have XG:RE ls (⟨h.next.succ,a,b⟩::ls):=fun x y hx=>by
  have ap:=s.jj x y hx;simp only[gb];have:(h.next.succ).beq x=false:=by
   rw[Bool.eq_false_iff];intro hb;have:=(Pa.beq_iff _ _).1 hb;subst this;rw[Pa.iB]at ap;omega
  rw[this];exact hx
 have b3:((h.alloc ci).alloc eq).next.toNat=h.next.toNat+2:=by
  show h.next.succ.succ.toNat=_;rw[Pa.iB,Pa.iB]
 exact{ia:=s2.ia,aw:=fun x L hx bn=>(by obtain⟨c,I,J⟩:=s2.aw x L hx bn;exact⟨c,I,J.mono (AM.le_refl U) XG rfl⟩),inj:=s2.inj,live:=s2.live,wr:=s2.wr,low:=s2.low,size:=s2.size,still:=s2.still,fresh:=s2.fresh,
       jj:=fun x y hx=>(by
        simp only[gb]at hx;cases hb:(h.next.succ).beq x with
        |true=>
         have:=(Pa.beq_iff _ _).1 hb;subst this;rw[b3,Pa.iB];omega
        |false=>
         rw[hb]at hx;have:=s.jj x y hx;omega)}
theorem aeE (hF:qS C F) (hN:sP C.P) {fk:FK} {e:T V} {tmps:Array Value} {todo:List Item} {bg:List Go.Item} {defs:List Def} {ds:List Deferred} (hk:KR U fk K) (hd:fc U defs ds) (he:fJ U e tmps) (bJ:fk.nt≤tmps.size)
 (ht:fL C.P U fk.nt (b1 C.P fk.fn) todo bg) (s:aP C U Λ h ls w) (hm:m≤h.next.toNat) {cs:List Fr} {ccs:List Frame} (aj:gA C.P U bh f0 m fk.deferred fk.fn cs ccs) (f:Operand) (ps:Array Tmp) (a b:Code) (jx:ps.toList.all (fun t=>Nat.blt t fk.nt)=true):
 fe C bh f0 (lone (K.fr tmps (.code (.rangeFunc f ps a b)::bg) ds .run) ccs w)
  (kg F fk e todo defs cs h ls (.rangeFunc (cO f) (ps.toList.map pa) (cS C.P fk.nt (b1 C.P fk.fn) a) (cS C.P fk.nt (b1 C.P fk.fn) b))):=by
 simp only[kg];have gO:=hk.round;cases hr:fk.round with
 |some l=>trivial
 |none=>
  rw[hr]at gO;have gO:K.round=none:=gO;simp only;have eW:=FB he f;cases hv:(cO f).ev e<;>(try trivial)
  rename_i g bf;simp only;rcases hF.split g with dF|⟨N3,dF,_⟩|⟨i5,dF,hc⟩
  ·rw[dF];trivial
  ·rw[dF];trivial
  ·rw[dF];simp only;rw[hv]at eW;generalize XH:de tmps f=aig at eW;cases eW with
   |fn _ _ cc d1=>
    obtain⟨fn,code,I,J,h3⟩:=FH hN hc;obtain⟨w1,dP⟩:∃w1:World,w1={w with heap:=w.heap.push (.deferred (some []))}:=⟨_,rfl⟩
    obtain⟨X,hX⟩:∃X:Loop,X={state:=.ready,pending:=none,fn:=K.fn,tmps,params:=ps,assign:=a,body:=b,defers:=w.heap.size}:=⟨_,rfl⟩
    obtain⟨w2,cw⟩:∃w2:World,w2={w1 with heap:=w1.heap.push (.loop X)}:=⟨_,rfl⟩
    have z1:w1.heap.size=w.heap.size+1:=by rw[dP];simp
    have g1:lC w w1:=by rw[dP];exact lC.push w _
    have g2:lC w1 w2:=by rw[cw];exact lC.push w1 _
    have HF:=s.aeD (.dH true) (.loop {state:=.ready,pending:=none,fn:=fk.fn,nt:=fk.nt,env:=e,params:=ps.toList.map pa}) (cS C.P fk.nt (b1 C.P fk.fn) a) (cS C.P fk.nt (b1 C.P fk.fn) b);generalize XI:(⟨h.next.succ,cS C.P fk.nt (b1 C.P fk.fn) a,cS C.P fk.nt (b1 C.P fk.fn) b⟩::ls:List LE)=pm at HF;generalize rg:((h.alloc (.dH true)).alloc (.loop {state:=.ready,pending:=none,fn:=fk.fn,nt:=fk.nt,env:=e,params:=ps.toList.map pa}))=h' at HF;have bx:h.next≠h.next.succ:=fun e1=>by have:=congrArg Pa.toNat e1;rw[Pa.iB]at this;omega
    have XJ:h'.get h.next=some (.dH true):=by
     rw[←rg];simp[bm.alloc,bm.get,T.gX,Ne.symm bx]
    have XK:h'.get h.next.succ=some (.loop {state:=.ready,pending:=none,fn:=fk.fn,nt:=fk.nt,env:=e,params:=ps.toList.map pa}):=by
     rw[←rg];simp[bm.alloc,bm.get,T.gX]
    have b3:h'.next.toNat=h.next.toNat+2:=by
     rw[←rg];show h.next.succ.succ.toNat=_;rw[Pa.iB,Pa.iB]
    have N5:=s.lB;have XL:=AM.lA (U:=U) (a:=h.next) (L:=⟨w.heap.size,0,0,false⟩) N5;have s1:=HF.fill (top:=0) (md:=false) N5 XJ g1 (by show w1.heap[w.heap.size]? =_;rw[dP];simp);have N6:(U.put h.next ⟨w.heap.size,0,0,false⟩) h.next.succ=none:=by
     simp only[AM.put,Ne.symm bx,if_false];cases hx:U h.next.succ with
     |none=>rfl
     |some L=>have:=s.ia _ _ hx;rw[Pa.iB]at this;omega
    have eJ:=AM.lA (U:=U.put h.next ⟨w.heap.size,0,0,false⟩) (a:=h.next.succ) (L:=⟨w1.heap.size,0,0,false⟩) N6;have ac:=AM.le_trans XL eJ;have s2:=s1.fill (top:=0) (md:=false) (w':=w2) N6 XK g2 (by
     refine⟨X,by show w2.heap[w1.heap.size]? =_;rw[cw];simp,by rw[hX],by rw[hX];trivial,by rw[hX];exact hk.fn.symm,by rw[hX];exact he.mono ac,by rw[hX];exact bJ,by rw[hX],?_,
      ⟨h.next.succ,cS C.P fk.nt (b1 C.P fk.fn) a,cS C.P fk.nt (b1 C.P fk.fn) b⟩,?_,by rw[hX],by rw[hX]⟩
     ·rw[hX];intro t XM;rw[List.all_eq_true]at jx;exact Nat.lt_of_lt_of_le (Nat.lt_succ_self t) (Nat.le_of_ble_eq_true (jx t XM))
     ·rw[←XI];simp only[gb];rw[(Pa.beq_iff _ _).2 rfl];(try rfl))
    generalize HG:(U.put h.next ⟨w.heap.size,0,0,false⟩).put h.next.succ ⟨w1.heap.size,0,0,false⟩=Ag at s2 eJ ac;have bs:Ag h.next=some ⟨w.heap.size,0,0,false⟩:=by rw[←HG];simp[AM.put,bx]
    have a2:Ag h.next.succ=some ⟨w1.heap.size,0,0,false⟩:=by rw[←HG];simp[AM.put]
    have xU:∀x,x.toNat<m→U x=none→Ag x=none:=fun x hx hn=>by
     have n1:x≠h.next:=fun e1=>by subst e1;omega
     have n2:x≠h.next.succ:=fun e1=>by subst e1;rw[Pa.iB]at hx;omega
     rw[←HG];simp[AM.put,n1,n2,hn]
    have fm:=ze (U:=Ag) (h:=h') (m:=h'.next.toNat) hc (args:=.gV h.next.succ::bf) (cE:=.func (.yield w1.heap.size) #[] #[]::cc) (.cons _ _ _ _ (.gV h.next.succ _ a2) (bd.mono ac d1)) false;refine⟨_,.one (step_lone_go (fr':=Frame.enter C.P g (.func (.yield w1.heap.size) #[] #[]::cc).toArray .normal)
     (cs':=K.fr tmps (.inRangeFunc w1.heap.size::bg) ({target:=.collected w.heap.size,args:=#[]}::ds) .run::ccs) (w':=w2) ?_),⟨Ag,_,w2,h'.next.toNat,_,_,rfl,s2,Nat.le_refl _,fm.1,?_⟩⟩
    ·have XN:(Instr.enterLoop K.fn tmps ps a b none).run C.P w=.ok (w1.heap.size,[{target:=.collected w.heap.size,args:=#[]}]) w2:=by
      rw[cw,hX,dP];simp[Instr.enterLoop,newObj,Sem.run];rfl
     have XO:(do let d←resolve (de tmps) {callee:=.value f,args:=#[.const (.func (.yield w1.heap.size) #[] #[])],argTypes:=#[]} 0;invoke d.target d.args:Sem Next).run C.P w2=.ok (.enter g (.func (.yield w1.heap.size) #[] #[]::cc).toArray) w2:=by
      have e1:(#[]++#[Value.func (.yield w1.heap.size) #[] #[]]++(⟨cc⟩:Array Value))=(.func (.yield w1.heap.size) #[] #[]::cc).toArray:=by
       apply Array.toList_inj.1;simp
      have XP:∀v,de tmps (.const v)=v:=fun _=>rfl;simp only[resolve,List.map_toArray,List.map_cons,List.map_nil,XH,XP,Deferred.ofValue,Sem.run_bind,Sem.run_pure,Result.andThen_ok,invoke,e1];exact FF I J h3 _ w2
     have N7:=CK.eval K tmps (.inRangeFunc w1.heap.size::bg) ({target:=.collected w.heap.size,args:=#[]}::ds) .run;simp only[CK.fr,gO]at N7⊢;simp only[stepG,stepG.exec,Sem.runT_eq,XN,GStep.bare_after,List.singleton_append,N7];simp[stepG.apply,XO]
    ·rw[fm.2.1,fm.2.2];exact .cons h' (.Cv (hk.mono ac) (.mark bs (hd.mono ac)) (he.mono ac) bJ (ht.mono ac) a2) (by omega) (Nat.le_refl _) (aj.mono ac xU)
theorem aeF (dE:Cw C.P) (hF:qS C F) (hN:sP C.P) {fk:FK} {e:T V} {tmps:Array Value} {todo:List Item} {bg:List Go.Item} {defs:List Def} {ds:List Deferred} (hk:KR U fk K) (hd:fc U defs ds) (he:fJ U e tmps) (bJ:fk.nt≤tmps.size)
 (ht:fL C.P U fk.nt (b1 C.P fk.fn) todo bg) (s:aP C U Λ h ls w) (hm:m≤h.next.toNat) {cs:List Fr} {ccs:List Frame} (aj:gA C.P U bh f0 m fk.deferred fk.fn cs ccs) (c:Code):
 fe C bh f0 (lone (K.fr tmps (.code c::bg) ds .run) ccs w) (kg F fk e todo defs cs h ls (cS C.P fk.nt (b1 C.P fk.fn) c)):=by
 have go:∀{M:Machine} {dQ:Frame} {w':World} {fr:Fr},fr.k=fk→Steps C.P M (lone dQ ccs w')→aP C U Λ h ls w'→sO C.P U h m fr dQ→fe C bh f0 M (.go fr cs h ls):=
  fun XQ hM s' pZ=>⟨_,hM,⟨U,Λ,_,m,_,_,rfl,s',hm,pZ,by rw[XQ];exact aj⟩⟩
 have push:∀(c:Code) (k:List Item) (cQ:List Go.Item),fL C.P U fk.nt (b1 C.P fk.fn) k cQ→fe C bh f0 (lone (K.fr tmps (.code c::cQ) ds .run) ccs w) (.go ⟨fk,e,fI (cS C.P fk.nt (b1 C.P fk.fn) c) k,defs,.run⟩ cs h ls):=fun c k cQ dZ=>by
  obtain⟨dQ,w',I,J,h3⟩:=LL dE (m:=m) (ccs:=ccs) hk hd he bJ c k cQ w s dZ;exact go rfl I J h3
 cases c with
 |skip=>exact go rfl (.one SF) s (.run hk hd he bJ ht)
 |label l=>exact go rfl (.one SG) s (.run hk hd he bJ ht)
 |seq a b=>exact .of_steps (.one SI) (push a _ _ (.cons (.code b) ht))
 |region id ops draw=>
  have I:=push (.region id ops draw) todo bg ht;cases draw with
  |false=>exact I
  |true=>
   have hc:cS C.P fk.nt (b1 C.P fk.fn) (.region id ops true)=drawn C.P fk.nt (b1 C.P fk.fn) ops (e8 C.P fk.nt ops ops.toList 0 []):=rfl;rw[hc]at I⊢;unfold drawn at I⊢;cases hb:(C.P.follows .mixedOrders&&(y7 ops (e8 C.P fk.nt ops ops.toList 0 [])&&Cg (b1 C.P fk.fn) (e8 C.P fk.nt ops ops.toList 0 [])))with
   |true=>rw[hb]at I;exact I
   |false=>trivial
 |cond c a b=>
  show fe C bh f0 _ (kg F fk e todo defs cs h ls (.cond (cO c) (cS C.P fk.nt (b1 C.P fk.fn) a) (cS C.P fk.nt (b1 C.P fk.fn) b)));simp only[kg];have hc:=FB he c;cases hv:(cO c).ev e<;>(try trivial)
  rename_i t;rw[hv]at hc;have d1:de tmps c=.bool t:=by generalize de tmps c=y at hc;cases hc;rfl
  refine .of_steps (.one (aeb d1)) ?_;cases t with
  |true=>exact push a _ _ ht
  |false=>exact push b _ _ ht
 |block id b=>exact .of_steps (.one aec) (push b _ _ (.cons (.inBlock id) ht))
 |loop b=>exact .of_steps (.one aed) (push b _ _ (.cons (.inLoop b) ht))
 |exit id=>
  show fe C bh f0 _ (kg F fk e todo defs cs h ls (.exit id));simp only[kg];cases hx:exitTo id todo with
  |none=>
   exact LP hk hd he s hm aj (some (.exit id)) (fun _ hj=>absurd rfl (hj id)) (fun b v w' hr I fr' cs' J=>aeC ((LJ ht).2 hx) hr I J)
  |some k'=>
   obtain⟨z8,I,J⟩:=(LJ ht).1 hx;exact go rfl (.one (aef I)) s (.run hk hd he bJ J)
 |ret=>
  show fe C bh f0 _ (kg F fk e todo defs cs h ls .ret);exact LP hk hd he s hm aj (some .ret) (fun hr _=>aeg hr) (fun b v w' hr I fr' cs' J=>aeA hr I J)
 |scope b=>trivial
 |goto l=>trivial
 |refuse y=>trivial
 |rangeFunc f ps a b=>
  simp only[cS];cases jx:ps.toList.all (fun t=>Nat.blt t fk.nt)with
  |false=>trivial
  |true=>exact aeE F hF hN hk hd he bJ ht s hm aj f ps a b jx
theorem aeG {P:Program} {U:AM} {nt:Nat} {ce:List Nat} {j:Option qv} {c:Option Code} (h:K8 j c) {k:List Item} {cQ:List Go.Item} (ht:fL P U nt ce k cQ):fL P U nt ce (Fe j++k) ((c.map Go.Item.code).toList++cQ):=by
 cases j with
 |none=>
  cases c with
  |none=>exact ht
  |some c=>exact h.elim
 |some j=>
  cases j with
  |ret=>
   cases c with
   |none=>exact h.elim
   |some c=>cases c<;>first|exact h.elim|exact .cons (.code .ret) ht
  |exit id=>
   cases c with
   |none=>exact h.elim
   |some c=>
    cases c<;>first|exact h.elim|(have e1:id=_:=h;subst e1;exact .cons (.code (.exit _)) ht)
theorem aeH (dE:Cw C.P) (hF:qS C F) (hN:sP C.P) {fr:Fr} {cs:List Fr} {M:Machine} (hr:Rel C bh f0 fr cs h ls M):fe C bh f0 M (step F fr cs h ls):=by
 obtain⟨U,Λ,w,m,dQ,ccs,rfl,s,hm,pZ,aj⟩:=hr.it;cases pZ with
 | @out fk K e tmps todo bg defs ds md mb hk hd he tD=>
   have eZ:step F ⟨fk,e,todo,defs,md⟩ cs h ls=unwind F ⟨fk,e,todo,defs,md⟩ cs h ls:=by cases tD<;>rfl
   rw[eZ];exact aeq F hF hN hk hd he tD s hm aj
 | @run fk K e tmps todo bg defs ds hk hd he bJ ht=>
   cases ht with
   |nil=>exact LP hk hd he s hm aj none (fun hr _=>aeh hr) (fun b v w' hr I fr' cs' J=>aeB hr I J)
   | @cons i c k cQ hi ht=>
     cases hi with
     |code c=>exact aeF F dE hF hN hk hd he bJ ht s hm aj c
     |inBlock id=>exact⟨_,.one aea,⟨U,Λ,w,m,_,_,rfl,s,hm,.run hk hd he bJ ht,aj⟩⟩
     |inLoop c=>
      obtain⟨dQ,w',I,J,h3⟩:=LL dE (m:=m) (ccs:=ccs) hk hd he bJ c (.inLoop (cS C.P fk.nt (b1 C.P fk.fn) c)::k) (.inLoop c::cQ) w s (.cons (.inLoop c) ht);exact⟨_,.head aee I,⟨U,Λ,w',m,_,_,rfl,J,hm,h3,aj⟩⟩
     |jh l L hl=>trivial
     |nT l L hl=>
      show fe C bh f0 _ (jN F fk e k defs cs h ls (.nT l));simp only[jN];cases hg:h.get l with
      |none=>trivial
      |some b=>
       cases b<;>(try trivial)
       rename_i r;simp only;obtain⟨bn,X,ci,eq,f7,g0,f9,oF,tE,tF,y,rE⟩:=LO s hl hg;have fin:r.state≠.busy→fe C bh f0 (lone (K.fr tmps (.endRangeFunc L.aw::cQ) ds .run) ccs w) (.go ⟨fk,e,Fe r.pending++k,defs,.run⟩ cs (h.put l (.loop {r with state:=.exhausted})) ls):=fun oG=>by
        obtain⟨w',t1,t2,t3⟩:=aez (P:=C.P) ci (by rw[eq];exact oG);have s':=s.w5 (b':=.loop {r with state:=.exhausted}) hl bn hg rfl rfl t2 ⟨_,t3,rfl,f7,g0,f9,oF,tE,tF,y,rE⟩;refine⟨_,.one (step_lone_go (fr':=K.fr tmps ((X.pending.map Go.Item.code).toList++cQ) ds .run) (cs':=ccs) (w':=w') ?_),⟨U,Λ,w',m,_,_,rfl,s',hm,.run hk hd he bJ (aeG f7 ht),aj⟩⟩;simp[stepG,stepG.exec,CK.fr,t1]
       cases HH:r.state with
       |busy=>trivial
       |ready=>exact fin (by rw[HH];simp)
       |done=>exact fin (by rw[HH];simp)
       |exhausted=>exact fin (by rw[HH];simp)
     |begin=>
      show fe C bh f0 _ (jN F fk e k defs cs h ls .begin);simp only[jN];have gO:=hk.round;cases hr:fk.round with
      |none=>trivial
      |some l=>
       rw[hr]at gO;obtain⟨L,hl,gO⟩:=gO;simp only;cases hg:h.get l with
       |none=>trivial
       |some b=>
        cases b<;>(try trivial)
        rename_i r;simp only;cases Dy:r.state<;>(try trivial)
        obtain⟨bn,X,ci,eq,f7,g0,f9,oF,tE,tF,y,rE⟩:=LO s hl hg;obtain⟨w',t1,t2,t3⟩:=aey (P:=C.P) ci (by rw[eq];exact Dy);have s':=s.w5 (b':=.loop {r with state:=.busy}) hl bn hg rfl rfl t2 ⟨_,t3,rfl,f7,g0,f9,oF,tE,tF,y,rE⟩;refine⟨_,.one (step_lone_go (fr':=K.fr tmps cQ ds .run) (cs':=ccs) (w':=w') ?_),⟨U,Λ,w',m,_,_,rfl,s',hm,.run hk hd he bJ ht,aj⟩⟩;simp[stepG,stepG.exec,stepG.apply,CK.fr,gO,t1,Frame.finish]
 | @dc fk K e tmps todo bg defs ds ops chks rs L p hk hd hw hp ha he bJ ht=>
   show fe C bh f0 _ (match gW (chks.map .cf++rs) e h with
    |.fin e h=>.go ⟨fk,e,todo,defs,.run⟩ cs h ls
    |.uF c o rs e h=>uG F fk e o rs todo defs cs h ls c
    |.bad n=>.bad n fk.fn)
   rcases LI (rs:=rs) (e:=e) (h:=h) chks with⟨n,hb⟩|⟨oD,oE⟩
   ·rw[hb];trivial
   ·rw[oE];have cJ:=ad8 (K:=K) (ds:=ds) (k:=bg) (cs:=ccs) (m:=m) hw U Λ h w e tmps s hm bJ he (fun j hj=>(hp j hj).ok oD) ha;cases f5:gW rs e h with
    |bad n=>trivial
    |fin e' h'=>
     rw[f5]at cJ;obtain⟨aA,dh,w',g8,I,J,h3,h4,h5⟩:=cJ;refine⟨_,I,⟨aA,dh,w',m,_,_,rfl,h3,by have:=J.next;omega,.run (hk.mono J.le) (hd.mono J.le) h4 h5 (ht.mono J.le),aj.mono J.le J.bR⟩⟩
    |uF c o hH e' h'=>
     rw[f5]at cJ;rcases cJ with⟨n,rfl⟩|⟨aA,dh,w',g8,i,L',oi,f,I,J,h3,h4,h5,rfl,h7,e0,h8,h9⟩
     ·trivial
     ·exact .of_steps I (aev F hF hN (hk.mono J.le) (hd.mono J.le) h4 (ht.mono J.le) h3 (by have:=J.next;omega) (aj.mono J.le J.bR) h7 h5 h8 h9)
theorem FI (dE:Cw C.P) (hF:qS C F) (hN:sP C.P):∀(n:Nat) {fr:Fr} {cs:List Fr} {h:Hp} {ls:List LE} {M:Machine},Rel C bh f0 fr cs h ls M→fe C bh f0 M (run F n fr cs h ls)
 |0,fr,cs,h,ls,M,hr=>⟨M,.refl _ _,hr⟩
 |n+1,fr,cs,h,ls,M,hr=>by
  have I:=aeH F dE hF hN hr;have h0:run F (n+1) fr cs h ls=Nx.rec (motive:=fun _=>Nx) (fun fr cs h ls=>run F n fr cs h ls) (fun v h=>.done v h) (fun a b=>.bad a b) (step F fr cs h ls):=rfl;rw[h0];cases hs:step F fr cs h ls with
  |go fr' cs' h' pm=>
   rw[hs]at I;obtain⟨M',J,h3⟩:=I;exact .of_steps J (FI dE hF hN n h3)
  |done v h'=>rw[hs]at I;exact I
  |bad a b=>trivial
def Kept (w w':World):Prop:=w.heap.size≤w'.heap.size∧(∀i,i<w.heap.size→w'.heap[i]? =w.heap[i]?)∧w'.os=w.os∧w'.output=w.output
end Go.Ev
namespace Go.Ev
variable{P:Program} {nt:Nat} {ops:Array Oper}
theorem px (s i j:Nat):(Nat.lor s (2^i)).testBit j=true↔s.testBit j=true∨j=i:=by
 show(s|||2^i).testBit j=true↔_;rw[Nat.testBit_or,Nat.testBit_two_pow];simp only[Bool.or_eq_true,decide_eq_true_eq];constructor
 ·rintro(h|h)
  ·exact .inl h
  ·exact .inr h.symm
 ·rintro(h|h)
  ·exact .inl h
  ·exact .inr h.symm
theorem LQ (done:Nat) (d:cv):qE done d=true↔∀j,d.pred.testBit j=true→done.testBit j=true:=by
 unfold qE;rw[Nat.beq_eq];show(d.pred&&&done)=d.pred↔_;constructor
 ·intro h j hj;have:(d.pred&&&done).testBit j=true:=by rw[h];exact hj
  rw[Nat.testBit_and,Bool.and_eq_true]at this;exact this.2
 ·intro h;apply Nat.eq_of_testBit_eq;intro j;rw[Nat.testBit_and];cases hp:d.pred.testBit j with
  |false=>rfl
  |true=>rw[h j hp];(try rfl)
theorem FJ (o:Oper) (j:Nat):(y6 o).testBit j=true↔∃e∈o.after.toList,Region.binds .any e=true∧e.on=j:=by
 unfold y6;have:∀(es:List Edge) (s:Nat),(es.foldl K2 s).testBit j=true↔s.testBit j=true∨∃e∈es,Region.binds .any e=true∧e.on=j:=by
  intro es
  induction es with
  |nil=>intro s;simp
  |cons e es ih=>
   intro s;simp only[List.foldl_cons,ih,List.mem_cons,exists_eq_or_imp];unfold K2;cases hb:Region.binds .any e with
   |false=>simp
   |true=>
    simp only[cond_true,px,true_and];constructor
    ·rintro((h|h)|h)
     ·exact .inl h
     ·exact .inr (.inl h.symm)
     ·exact .inr (.inr h)
    ·rintro(h|h|h)
     ·exact .inl (.inl h)
     ·exact .inl (.inr h.symm)
     ·exact .inr h
 rw[this];simp
theorem aeI (f2:List Nat) (o:Oper) (j:Nat) (h:(uE f2 o).testBit j=true):∃e∈o.after.toList,Region.binds .any e=true∧(e.on=j∨(f2.getD e.on 0).testBit j=true):=by
 unfold uE at h;have:∀(es:List Edge) (s:Nat),(es.foldl (K3 f2) s).testBit j=true→s.testBit j=true∨∃e∈es,Region.binds .any e=true∧(e.on=j∨(f2.getD e.on 0).testBit j=true):=by
  intro es
  induction es with
  |nil=>intro s hs;exact .inl hs
  |cons e es ih=>
   intro s hs;simp only[List.foldl_cons]at hs;rcases ih _ hs with I|⟨e',I,J⟩
   ·unfold K3 at I;cases hb:Region.binds .any e with
    |false=>rw[hb]at I;exact .inl I
    |true=>
     rw[hb]at I;simp only[cond_true]at I;change (s|||(2^e.on|||f2.getD e.on 0)).testBit j=true at I;rw[Nat.testBit_or,Nat.testBit_or,Nat.testBit_two_pow]at I;simp only[Bool.or_eq_true,decide_eq_true_eq]at I;rcases I with I|I|I
     ·exact .inl I
     ·exact .inr ⟨e,by simp,hb,.inl I⟩
     ·exact .inr ⟨e,by simp,hb,.inr I⟩
   ·exact .inr ⟨e',by simp[I],J⟩
 rcases this _ 0 h with I|I
 ·simp at I
 ·exact I
theorem LR:∀(r:List Oper) (i:Nat) (f2:List Nat) (k:Nat),(e8 P nt ops r i f2)[k]? =(r[k]?).map fun o=>
 ⟨i+k,o,y6 o,uE (f2++((e8 P nt ops r i f2).take k).map (·.iA)) o,!(nR P nt ops o)⟩
 |[],i,f2,k=>by simp[e8]
 |o::r,i,f2,0=>by simp[e8]
 |o::r,i,f2,k+1=>by
  simp only[e8,List.getElem?_cons_succ,List.take_succ_cons,List.map_cons];rw[LR r (i+1) (f2++[uE f2 o]) k];cases r[k]? with
  |none=>rfl
  |some o'=>simp;omega
structure zg (P:Program) (nt:Nat) (ops:Array Oper) (l:List cv):Prop where
 get:∀d∈l,ops[d.i]? =some d.o∧d.pred=y6 d.o∧d.e7=!(nR P nt ops d.o)∧l[d.i]? =some d
 all:∀(i:Nat) o,ops[i]? =some o→∃d∈l,d.i=i∧d.o=o
 iA:∀d∈l,∀j,d.iA.testBit j=true→∃e∈d.o.after.toList,Region.binds .any e=true∧(e.on=j∨∃d'∈l,d'.i=e.on∧d'.i<d.i∧d'.iA.testBit j=true)
theorem aeJ:zg P nt ops (e8 P nt ops ops.toList 0 []):=by
 have hg:=LR (P:=P) (nt:=nt) (ops:=ops) ops.toList 0 [];simp only[Nat.zero_add,List.nil_append,Array.getElem?_toList]at hg;generalize e8 P nt ops ops.toList 0 []=l at hg;have key:∀d∈l,∃o,ops[d.i]? =some o∧l[d.i]? =some d∧d=⟨d.i,o,y6 o,uE ((l.take d.i).map (·.iA)) o,!(nR P nt ops o)⟩:=by
  intro d hd;obtain⟨k,hk⟩:=List.mem_iff_getElem?.1 hd;have:=hg k;rw[hk]at this;cases ho:ops[k]? with
  |none=>rw[ho]at this;simp at this
  |some o=>
   rw[ho]at this;simp only[Option.map_some,Option.some.injEq]at this;have hi:d.i=k:=by rw[this]
   exact⟨o,by rw[hi];exact ho,by rw[hi];exact hk,by rw[hi];exact this⟩
 refine⟨fun d hd=>?_,fun i o ho=>?_,fun d hd j hj=>?_⟩
 ·obtain⟨o,I,J,h3⟩:=key d hd;rw[h3];rw[h3]at J;exact⟨I,rfl,rfl,J⟩
 ·have:=hg i;rw[ho]at this;simp only[Option.map_some]at this;exact⟨_,List.mem_of_getElem? this,rfl,rfl⟩
 ·obtain⟨o,I,J,h3⟩:=key d hd;have ha:d.iA=uE ((l.take d.i).map (·.iA)) o:=by rw[h3]
  have xW:d.o=o:=by rw[h3]
  rw[ha]at hj;obtain⟨e,q1,q2,q3⟩:=aeI _ _ _ hj;refine⟨e,by rw[xW];exact q1,q2,q3.imp id fun q3=>?_⟩;rw[List.getD_eq_getElem?_getD,List.getElem?_map,List.getElem?_take]at q3;split at q3
  ·rename_i ap;cases hl:l[e.on]? with
   |none=>rw[hl]at q3;simp at q3
   |some d'=>
    rw[hl]at q3;simp only[Option.map_some,Option.getD_some]at q3;have hm:=List.mem_of_getElem? hl;obtain⟨o',k1,k2,k3⟩:=key d' hm;have tw:=hg e.on;rw[hl]at tw;have hi:d'.i=e.on:=by
     cases ho:ops[e.on]? with
     |none=>rw[ho]at tw;simp at tw
     |some o''=>rw[ho]at tw;simp only[Option.map_some,Option.some.injEq]at tw;rw[tw]
    exact⟨d',hm,hi,by omega,q3⟩
  ·simp at q3
theorem FL {l:List cv} (hl:zg P nt ops l) {X:Nat→Prop} (hX:∀d∈l,X d.i→∀j,d.pred.testBit j=true→X j):∀(n:Nat) (d:cv),d.i<n→d∈l→(∀j,d.pred.testBit j=true→X j)→
 ∀j,d.iA.testBit j=true→X j
 |0,d,hn,_,_,_,_=>absurd hn (Nat.not_lt_zero _)
 |n+1,d,hn,hd,hp,j,hj=>by
  obtain⟨e,I,J,h3⟩:=hl.iA d hd j hj;have N8:X e.on:=hp e.on (by rw[(hl.get d hd).2.1];exact(FJ _ _).2 ⟨e,I,J,rfl⟩);rcases h3 with rfl|⟨d',k1,k2,k3,k4⟩
  ·exact N8
  ·exact FL hl hX n d' (by omega) k1 (hX d' k1 (by rw[k2];exact N8)) j k4
inductive uQ (ops:Array Oper):Array Bool→List Nat→Prop
 |nil {listed:Array Bool} (h:Region.ready .any ops listed=[]):uQ ops listed []
 |cons {listed:Array Bool} {i:Nat} {L:List Nat} (h:i∈Region.ready .any ops listed) (t:uQ ops (listed.setIfInBounds i true) L):uQ ops listed (i::L)
theorem count_set:∀(l:List Bool) (i:Nat),l[i]? =some false→(l.set i true).count false+1=l.count false
 |[],i,hv=>by simp at hv
 |b::l,0,hv=>by simp at hv;subst hv;simp
 |b::l,i+1,hv=>by
  simp at hv;have:=count_set l i hv;simp only[List.set_cons_succ,List.count_cons];omega
theorem SS {listed:Array Bool} {i:Nat} (h:listed.getD i true=false):(listed.setIfInBounds i true).toList.count false+1=listed.toList.count false:=by
 have ap:i<listed.size:=by
  rcases Nat.lt_or_ge i listed.size with I|I
  ·exact I
  ·simp[I]at h
 have hv:listed.toList[i]? =some false:=by
  simp[ap]at h⊢;exact h
 rw[Array.toList_setIfInBounds];exact count_set _ _ hv
theorem SU:∀(fuel t:Nat) (listed:Array Bool),listed.toList.count false≤fuel→uQ ops listed (Region.linearise.go .any ops fuel t listed [])
 |0,t,listed,hf=>by
  have h0:Region.ready .any ops listed=[]:=by
   cases hr:Region.ready .any ops listed with
   |nil=>rfl
   |cons i r=>
    have hm:i∈Region.ready .any ops listed:=by rw[hr];simp
    have:=SS (mem_ready.1 hm).1;omega
  simpa[Region.linearise.go]using uQ.nil h0
 |fuel+1,t,listed,hf=>by
  simp only[Region.linearise.go];change uQ ops listed (match(Region.ready .any ops listed)[t%(Region.ready .any ops listed).length]? with
   |some i=>Region.linearise.go .any ops fuel (t/(Region.ready .any ops listed).length) (listed.setIfInBounds i true) [i]
   |none=>[].reverse)
  cases hi:(Region.ready .any ops listed)[t%(Region.ready .any ops listed).length]? with
  |none=>
   have Ah:Region.ready .any ops listed=[]:=by
    cases hr:Region.ready .any ops listed with
    |nil=>rfl
    |cons x xs=>
     rw[hr]at hi;have ap:t%(x::xs).length<(x::xs).length:=Nat.mod_lt _ (by simp);simp at hi;simp at ap;omega
   exact .nil Ah
  |some i=>
   simp only[];rw[linearise_go_acc,List.reverse_singleton,List.singleton_append];have hm:=List.mem_of_getElem? hi;have:=SS (mem_ready.1 hm).1;exact .cons hm (SU fuel _ _ (by omega))
theorem LS {p:cv→Bool}:∀{l:List cv},lr p l=none→∀x∈l,p x=false
 |[],_,x,hx=>by cases hx
 |d::l,h,x,hx=>by
  simp only[lr]at h;cases hd:p d with
  |true=>simp[hd]at h
  |false=>
   simp only[hd,cond_false]at h;cases ht:lr p l with
   |some q=>obtain⟨y,r⟩:=q;simp[ht]at h
   |none=>
    cases hx with
    |head=>exact hd
    |tail _ hx=>exact LS ht x hx
theorem LU {p:cv→Bool}:∀{l:List cv} {d:cv} {r:List cv},lr p l=some (d,r)→p d=true∧(∀x,x∈l↔x=d∨x∈r)∧r.length+1=l.length∧
 ((l.map (·.i)).Nodup→d.i∉r.map (·.i)∧(r.map (·.i)).Nodup)
 |[],d,r,h=>by simp[lr]at h
 |y::l,d,r,h=>by
  simp only[lr]at h;cases hy:p y with
  |true=>
   simp only[hy,cond_true,Option.some.injEq,Prod.mk.injEq]at h;obtain⟨rfl,rfl⟩:=h;exact⟨hy,fun x=>by simp,rfl,fun hn=>by simpa using hn⟩
  |false=>
   simp only[hy,cond_false]at h;cases ht:lr p l with
   |none=>simp[ht]at h
   |some q=>
    obtain⟨z,r'⟩:=q;simp only[ht,Option.some.injEq,Prod.mk.injEq]at h;obtain⟨rfl,rfl⟩:=h;obtain⟨I,J,h3,h4⟩:=LU ht;refine⟨I,fun x=>?_,by simp[h3],fun hn=>?_⟩
    ·simp only[List.mem_cons,J x];constructor
     ·rintro(h|h|h)
      ·exact .inr (.inl h)
      ·exact .inl h
      ·exact .inr (.inr h)
     ·rintro(h|h|h)
      ·exact .inr (.inl h)
      ·exact .inl h
      ·exact .inr (.inr h)
    ·simp only[List.map_cons,List.nodup_cons]at hn⊢;obtain⟨k1,k2⟩:=h4 hn.2;refine⟨?_,?_,k2⟩
     ·simp only[List.mem_cons,not_or];refine⟨fun e=>hn.1 (List.mem_map.2 ⟨z,(J z).2 (.inl rfl),e⟩),k1⟩
     ·intro hm;obtain⟨x,hx,HI⟩:=List.mem_map.1 hm;exact hn.1 (List.mem_map.2 ⟨x,(J x).2 (.inr hx),HI⟩)
def eh (listed:Array Bool) (i:Nat):Prop:=listed.getD i true=true
structure Inv (P:Program) (nt:Nat) (ops:Array Oper) (l:List cv) (done:Nat) (dO rem:List cv) (listed:Array Bool):Prop where
 size:listed.size=ops.size
 part:∀d∈l,(d∈dO∧done.testBit d.i=true)∨(d∈rem∧done.testBit d.i=false)
 pl:∀d∈dO,d∈l
 rl:∀d∈rem,d∈l
 FM:(rem.map (·.i)).Nodup
 CA:∀d∈rem,done.testBit d.i=false
 sd:∀i,i<ops.size→eh listed i→done.testBit i=true
 e7:∀d∈dO,d.e7=true→eh listed d.i
 sc:∀d∈l,eh listed d.i→∀j,d.pred.testBit j=true→eh listed j
 sK:∀d∈dO,∀j,d.pred.testBit j=true→done.testBit j=true
structure xd (P:Program) (nt:Nat) (ops:Array Oper) (l:List cv):Prop where
 ok:zg P nt ops l
 LV:∀d∈l,∀j,d.pred.testBit j=true→j<d.i
 self:∀d∈l,d.e7=false→∀t,d.o.dst=some t→t∉eF ops d.o
 pair:∀x∈l,∀y∈l,x.i≠y.i→∀t,x.o.dst=some t→y.o.dst≠some t∧(x.e7=false→t∈eF ops y.o→y.iA.testBit x.i=true)
def kB (done:Nat) (listed:Array Bool) (j:Nat):Prop:=done.testBit j=true∧listed.getD j true=false
theorem FN {l:List Nat} {t:Nat}:wY l t=true↔t∈l:=by
 unfold wY;rw[List.any_eq_true];constructor
 ·rintro⟨u,I,J⟩;have:=Nat.eq_of_beq_eq_true J;subst this;exact I
 ·intro h;exact⟨t,h,Nat.beq_refl t⟩
theorem aeK {l:List cv} (hl:zg P nt ops l) (h:y7 ops l=true):xd P nt ops l:=by
 unfold y7 at h;rw[List.all_eq_true]at h;refine⟨hl,fun d hd j hj=>?_,fun d hd he t ht hn=>?_,fun x hx y hy bx t ht=>?_⟩
 ·have:=h d hd;simp only[Bool.and_eq_true]at this;have I:=this.1;unfold Ry at I;rw[List.all_eq_true]at I;rw[(hl.get d hd).2.1,FJ]at hj;obtain⟨e,k1,k2,rfl⟩:=hj;have:=I e k1;rw[k2]at this;simp only[Bool.not_true,Bool.false_or]at this;exact Nat.lt_of_lt_of_le (Nat.lt_succ_self _) (Nat.le_of_ble_eq_true this)
 ·have:=h d hd;simp only[Bool.and_eq_true]at this;have I:=this.2.1;unfold Rx at I;rw[ht]at I;simp only[he,Bool.false_or,Bool.not_eq_true']at I;have:=FN.2 hn;rw[I]at this;cases this
 ·have:=h x hx;simp only[Bool.and_eq_true]at this;have I:=this.2.2;rw[List.all_eq_true]at I;have J:=I y hy;have hb:Nat.beq x.i y.i=false:=by
   cases hb:Nat.beq x.i y.i with
   |false=>rfl
   |true=>exact absurd (Nat.eq_of_beq_eq_true hb) bx
  rw[hb]at J;simp only[Bool.false_or]at J;unfold Rw at J;rw[ht]at J;simp only[Bool.and_eq_true,Bool.not_eq_true']at J;obtain⟨h3,h4⟩:=J;refine⟨fun e=>?_,fun he hn=>?_⟩
  ·unfold Rv at h3;rw[e]at h3;simp at h3
  ·rw[he,FN.2 hn]at h4;simpa using h4
theorem SX {listed:Array Bool} {i:Nat} (h:listed.getD i true=false):i<listed.size:=by
 rcases Nat.lt_or_ge i listed.size with I|I
 ·exact I
 ·simp[I]at h
theorem mM {listed:Array Bool} {i j:Nat}:eh (listed.setIfInBounds i true) j↔eh listed j∨j=i:=by
 unfold eh;by_cases dr:i=j
 ·subst dr;constructor
  ·intro _;exact .inr rfl
  ·intro _;rcases Nat.lt_or_ge i listed.size with I|I
   ·simp[I]
   ·simp[I]
 ·rw[getD_set_ne true dr];exact⟨.inl,fun h=>h.resolve_right (fun e=>dr e.symm)⟩
theorem mN {listed:Array Bool} {i:Nat}:listed.getD i true=false↔¬eh listed i:=by
 unfold eh;cases listed.getD i true<;>simp
theorem FO {l:List cv} (hs:xd P nt ops l) {listed:Array Bool} (bJ:listed.size=ops.size) (h:Region.ready .any ops listed=[]):∀(n i:Nat),i<n→i<ops.size→eh listed i
 |0,i,hn,_=>absurd hn (Nat.not_lt_zero _)
 |n+1,i,hn,hi=>by
  by_cases hL:eh listed i
  ·exact hL
  ·exfalso;have hm:i∈Region.ready .any ops listed:=by
    rw[mem_ready];refine⟨mN.2 hL,ops[i],by simp[hi],fun e he hb=>?_⟩;obtain⟨d,hd,rfl,xW⟩:=hs.ok.all i ops[i] (by simp[hi]);have oI:d.pred.testBit e.on=true:=by
     rw[(hs.ok.get d hd).2.1,FJ,xW];exact⟨e,by simpa using he,hb,rfl⟩
    have ap:=hs.LV d hd _ oI;have:=FO hs bJ h n e.on (by omega) (by omega);unfold eh at this;have J:e.on<listed.size:=by omega
    simp[J]at this⊢;exact this
   rw[h]at hm;cases hm
theorem FP {l:List cv} (hs:xd P nt ops l) {listed:Array Bool} (bJ:listed.size=ops.size) {i:Nat} (h:i∈Region.ready .any ops listed):
 ∃d∈l,d.i=i∧ops[i]? =some d.o∧¬eh listed i∧∀j,d.pred.testBit j=true→eh listed j∧j<ops.size:=by
 obtain⟨I,o,J,h3⟩:=mem_ready.1 h;obtain⟨d,hd,hi,xW⟩:=hs.ok.all i o J;refine⟨d,hd,hi,by rw[xW];exact J,mN.1 I,fun j hj=>?_⟩;have ap:=hs.LV d hd j hj;have i2:=(Array.getElem?_eq_some_iff.1 J).1;rw[(hs.ok.get d hd).2.1,FJ,xW]at hj;obtain⟨e,k1,k2,rfl⟩:=hj;have:=h3 e (by simpa using k1) k2;have tG:e.on<listed.size:=by omega
 refine⟨?_,by omega⟩;unfold eh;simp[tG]at this⊢;exact this
end Go.Ev
namespace Go.Ev
variable{P:Program} {nt:Nat} {ops:Array Oper} {l:List cv}
theorem zg.uniq (hl:zg P nt ops l) {x y:cv} (hx:x∈l) (hy:y∈l) (h:x.i=y.i):x=y:=by
 have I:=(hl.get x hx).2.2.2;have J:=(hl.get y hy).2.2.2;rw[h,J]at I;exact(Option.some.inj I).symm
theorem FQ {done:Nat} {dO rem:List cv} {listed:Array Bool} (hs:xd P nt ops l) (hi:Inv P nt ops l done dO rem listed) {j:Nat} {oj:Oper} (hp:kB done listed j) (hj:ops[j]? =some oj):
 ∃x∈dO,x∈l∧x.i=j∧x.o=oj∧x.e7=false:=by
 obtain⟨x,I,J,h3⟩:=hs.ok.all j oj hj;rcases hi.part x I with⟨k1,k2⟩|⟨k1,k2⟩
 ·refine⟨x,k1,I,J,h3,?_⟩;cases he:x.e7 with
  |false=>rfl
  |true=>
   have:=hi.e7 x k1 he;rw[J]at this;exact absurd this (mN.1 hp.2)
 ·rw[J,hp.1]at k2;cases k2
theorem SY {done:Nat} {dO rem:List cv} {listed:Array Bool} (hs:xd P nt ops l) (hi:Inv P nt ops l done dO rem listed) {d:cv} (hd:d∈l) (Ai:∀j,d.pred.testBit j=true→eh listed j)
 {j:Nat} {oj:Oper} {t:Nat} (hp:kB done listed j) (hj:ops[j]? =some oj) (ht:oj.dst=some t) (bx:j≠d.i):t∉eF ops d.o∧d.o.dst≠some t∧d.iA.testBit j=false:=by
 obtain⟨x,I,J,h3,h4,h5⟩:=FQ hs hi hp hj;have Dz:d.iA.testBit j=false:=by
  cases ha:d.iA.testBit j with
  |false=>rfl
  |true=>exact absurd (FL hs.ok (X:=eh listed) hi.sc (d.i+1) d (Nat.lt_succ_self _) hd Ai j ha) (mN.1 hp.2)
 obtain⟨p1,p2⟩:=hs.pair x J d hd (by rw[h3];exact bx) t (by rw[h4];exact ht);refine⟨fun hn=>?_,p1,Dz⟩;have:=p2 h5 hn;rw[h3,Dz]at this;cases this
theorem Inv.fill {done:Nat} {dO rem:List cv} {listed:Array Bool} (hs:xd P nt ops l) (hi:Inv P nt ops l done dO rem listed) {i:Nat} (hr:i∈Region.ready .any ops listed) (hd:done.testBit i=true):
 Inv P nt ops l done dO rem (listed.setIfInBounds i true):=by
 obtain⟨d,I,J,h3,h4,h5⟩:=FP hs hi.size hr;refine⟨by simp[hi.size],hi.part,hi.pl,hi.rl,hi.FM,hi.CA,fun j hj hL=>?_,fun x hx he=>mM.2 (.inl (hi.e7 x hx he)),fun x hx hL j hj=>?_,hi.sK⟩
 ·rcases mM.1 hL with h|rfl
  ·exact hi.sd j hj h
  ·exact hd
 ·rcases mM.1 hL with h|h
  ·exact mM.2 (.inl (hi.sc x hx h j hj))
  ·have:=hs.ok.uniq hx I (by rw[h,J]);subst this;exact mM.2 (.inl (h5 j hj).1)
theorem SZ (x:cv):∀(dO:List cv),∃tH:List (RO al),wZ P nt ops x dO=tH.map .cf∧
 ∀y∈dO,y.e7=false→x.iA.testBit y.i=false→ga P nt ops y.o∈tH∨(ke y.o.op=false∧∀d,x.o.dst=some d→d∉eF ops y.o)
 |[]=>⟨[],rfl,fun y hy=>by cases hy⟩
 |z::r=>by
  obtain⟨tH,I,J⟩:=SZ x r;simp only[wZ];cases he:z.e7 with
  |true=>
   refine⟨tH,I,fun y hy rF i0=>?_⟩;cases hy with
   |head=>rw[he]at rF;cases rF
   |tail _ hy=>exact J y hy rF i0
  |false=>
   simp only[cond_false];cases ha:x.iA.testBit z.i with
   |true=>
    refine⟨tH,I,fun y hy rF i0=>?_⟩;cases hy with
    |head=>rw[ha]at i0;cases i0
    |tail _ hy=>exact J y hy rF i0
   |false=>
    simp only[cond_false];cases hb:(ke z.o.op||(match x.o.dst with|some d=>wY (eF ops z.o) d|none=>false))with
    |true=>
     refine⟨ga P nt ops z.o::tH,by simp[I],fun y hy rF i0=>?_⟩;cases hy with
     |head=>exact .inl (by simp)
     |tail _ hy=>exact(J y hy rF i0).imp (fun h=>by simp[h]) id
    |false=>
     refine⟨tH,I,fun y hy rF i0=>?_⟩;cases hy with
     |head=>
      simp only[Bool.or_eq_false_iff]at hb;refine .inr ⟨hb.1,fun d hd hn=>?_⟩;have:=hb.2;rw[hd]at this;simp only at this;rw[FN.2 hn]at this;cases this
     |tail _ hy=>exact J y hy rF i0
theorem aeL {o:Oper} (h:nR P nt ops o=true):∃d,o.dst=some d:=by
 unfold nR at h;split at h
 ·cases h
 ·split at h
  ·split at h
   ·exact⟨_,by assumption⟩
   ·cases h
  ·split at h
   ·exact⟨_,by assumption⟩
   ·cases h
  ·cases h
  ·cases h
theorem Inv.next {done:Nat} {dO rem kw:List cv} {listed:Array Bool} (hi:Inv P nt ops l done dO rem listed) {d:cv} (fW:d∈l) (i9:qE done d=true) (Ae:∀x,x∈rem↔x=d∨x∈kw)
 (pW:d.i∉kw.map (·.i)∧(kw.map (·.i)).Nodup) {vD:Array Bool} (bJ:vD.size=ops.size) (I:∀j,eh listed j→eh vD j) (J:∀j,j<ops.size→eh vD j→eh listed j∨j=d.i)
 (h3:d.e7=true→eh vD d.i) (h4:∀x∈l,eh vD x.i→∀j,x.pred.testBit j=true→eh vD j):Inv P nt ops l (Nat.lor done (2^d.i)) (d::dO) kw vD:=by
 refine⟨bJ,fun x hx=>?_,fun x hx=>?_,fun x hx=>hi.rl x ((Ae x).2 (.inr hx)),pW.2,fun x hx=>?_,fun i ap hL=>?_,fun x hx he=>?_,h4,fun x hx j hj=>?_⟩
 ·rcases hi.part x hx with⟨k1,k2⟩|⟨k1,k2⟩
  ·exact .inl ⟨by simp[k1],(px _ _ _).2 (.inl k2)⟩
  ·rcases(Ae x).1 k1 with rfl|k3
   ·exact .inl ⟨by simp,(px _ _ _).2 (.inr rfl)⟩
   ·refine .inr ⟨k3,?_⟩;rw[Bool.eq_false_iff];intro hb;rcases(px _ _ _).1 hb with h|h
    ·rw[k2]at h;cases h
    ·exact pW.1 (List.mem_map.2 ⟨x,k3,h⟩)
 ·cases hx with
  |head=>exact fW
  |tail _ hx=>exact hi.pl x hx
 ·rw[Bool.eq_false_iff];intro hb;rcases(px _ _ _).1 hb with h|h
  ·rw[hi.CA x ((Ae x).2 (.inr hx))]at h;cases h
  ·exact pW.1 (List.mem_map.2 ⟨x,hx,h⟩)
 ·rcases J i ap hL with h|rfl
  ·exact(px _ _ _).2 (.inl (hi.sd i ap h))
  ·exact(px _ _ _).2 (.inr rfl)
 ·cases hx with
  |head=>exact h3 he
  |tail _ hx=>exact I _ (hi.e7 x hx he)
 ·cases hx with
  |head=>exact(px _ _ _).2 (.inl ((LQ _ _).1 i9 j hj))
  |tail _ hx=>exact(px _ _ _).2 (.inl (hi.sK x hx j hj))
theorem aeM {A:Nat→Prop} (hs:xd P nt ops l) (oJ:∀d∈l,d.e7=false→∀t,d.o.dst=some t→A t):∀(N f done:Nat) (dO rem:List cv) (listed:Array Bool) (L:List Nat),rem.length+L.length≤N→rem.length≤f→Inv P nt ops l done dO rem listed→uQ ops listed L→
 jk P nt ops A (qF P nt ops f done dO rem) L (kB done listed):=by
 intro N
 induction N with
 |zero=>
  intro f done dO rem listed L hN hf hi hL;have hr:rem=[]:=List.eq_nil_of_length_eq_zero (by omega);have hl:L=[]:=List.eq_nil_of_length_eq_zero (by omega);subst hr;subst hl;cases hL with
  |nil h=>
   have:qF P nt ops f done dO []=[]:=by cases f<;>simp[qF,lr]
   rw[this];refine .done fun j hp=>?_;have ap:=SX hp.2;rw[hi.size]at ap;exact mN.1 hp.2 (FO hs hi.size h (j+1) j (Nat.lt_succ_self _) ap)
 |succ N ih=>
  intro f done dO rem listed L hN hf hi hL;have fill:∀i L',L=i::L'→i∈Region.ready .any ops listed→uQ ops (listed.setIfInBounds i true) L'→done.testBit i=true→jk P nt ops A (qF P nt ops f done dO rem) (i::L') (kB done listed):=by
   intro i L' XR hr xX hd;subst XR;obtain⟨d,I,J,h3,h4,h5⟩:=FP hs hi.size hr;have hp:kB done listed i:=⟨hd,mN.2 h4⟩
   obtain⟨x,DA,x2,Aj,N9,Oa⟩:=FQ hs hi hp h3;have HJ:x=d:=hs.ok.uniq x2 I (by rw[Aj,J]);subst HJ;refine .fill (q:=kB done (listed.setIfInBounds i true)) i x.o h3 hp (fun j oj t hj g9 ht=>?_) (fun j=>?_) (ih f done dO rem _ L' (by simp at hN;omega) hf (hi.fill hs hr hd) xX)
   ·by_cases vz:j=i
    ·subst vz;rw[h3]at g9;cases g9;exact hs.self x I Oa t ht
    ·exact(SY hs hi I (fun j hj=>(h5 j hj).1) hj g9 ht (by rw[J];exact vz)).1
   ·unfold kB;rw[mN,mN,mM];constructor
    ·rintro⟨q1,q2⟩;exact⟨fun e=>q2 (.inr e),q1,fun h=>q2 (.inl h)⟩
    ·rintro⟨q1,q2,q3⟩;exact⟨q2,fun h=>h.elim q3 q1⟩
  cases rem with
  |nil=>
   have eK:∀i o,ops[i]? =some o→done.testBit i=true:=fun i o ho=>by
    obtain⟨d,I,J,h3⟩:=hs.ok.all i o ho;rcases hi.part d I with⟨_,k⟩|⟨k,_⟩
    ·rw[←J];exact k
    ·cases k
   cases hL with
   |nil h=>
    have:qF P nt ops f done dO []=[]:=by cases f<;>simp[qF,lr]
    rw[this];refine .done fun j hp=>?_;have ap:=SX hp.2;rw[hi.size]at ap;exact mN.1 hp.2 (FO hs hi.size h (j+1) j (Nat.lt_succ_self _) ap)
   | @cons _ i L' hr xX=>
     obtain⟨d,I,J,h3,h4,h5⟩:=FP hs hi.size hr;exact fill i L' rfl hr xX (eK i d.o h3)
  |cons r0 rest=>
   generalize Oc:r0::rest=rem at hi hN hf fill;have bx:rem≠[]:=by rw[←Oc];simp
   cases f with
   |zero=>exact absurd (List.eq_nil_of_length_eq_zero (by omega)) bx
   |succ f=>
    simp only[qF]at fill⊢;cases HK:lr (fun d=>!d.e7&&qE done d) rem with
    |some q=>
     obtain⟨d,kw⟩:=q;simp only;obtain⟨t1,t2,t3,t4⟩:=LU HK;simp only[Bool.and_eq_true,Bool.not_eq_true']at t1;have me:d∈rem:=(t2 d).2 (.inl rfl);have fW:=hi.rl d me;obtain⟨o1,o2,p3,p4⟩:=hs.ok.get d fW;have tt:nR P nt ops d.o=true:=by rw[t1.1]at p3;simpa using p3.symm
     obtain⟨t,ht⟩:=aeL tt;have oI:done.testBit d.i=false:=hi.CA d me;have ap:d.i<ops.size:=(Array.getElem?_eq_some_iff.1 o1).1;have d2:¬eh listed d.i:=fun h=>by have:=hi.sd d.i ap h;rw[oI]at this;cases this
     refine .ghost (q:=kB (Nat.lor done (2^d.i)) listed) d.i t d.o o1 tt ht (hs.self d fW t1.1 t ht) (oJ d fW t1.1 t ht) (fun h=>by rw[h.1]at oI;cases oI) (fun j oj hj g9=>?_) (fun j=>?_)
      (ih f _ _ kw listed L (by omega) (by omega) (hi.next fW t1.2 t2 (t4 hi.FM) hi.size (fun _ h=>h) (fun _ _ h=>.inl h) (fun h=>by rw[t1.1]at h;cases h) hi.sc) hL)
     ·obtain⟨x,DA,x2,Aj,N9,Oa⟩:=FQ hs hi hj g9;have XS:d.i≠x.i:=fun e=>by rw[Aj]at e;have I:=hj.1;rw[←e,oI]at I;cases I
      obtain⟨p1,p2⟩:=hs.pair d fW x x2 XS t ht;rw[N9]at p1 p2;refine⟨p1,fun hn=>?_⟩;have ha:=p2 t1.1 hn;have:=FL hs.ok (X:=fun i=>done.testBit i=true) (fun y hy hb j hj=>by
       rcases hi.part y hy with⟨k1,_⟩|⟨_,k2⟩
       ·exact hi.sK y k1 j hj
       ·rw[hb]at k2;cases k2) (x.i+1) x (Nat.lt_succ_self _) x2 (hi.sK x DA) d.i ha
      rw[oI]at this;cases this
     ·unfold kB;rw[px];constructor
      ·rintro⟨I|I,J⟩
       ·exact .inr ⟨I,J⟩
       ·exact .inl I
      ·rintro(rfl|⟨I,J⟩)
       ·exact⟨.inr rfl,mN.2 d2⟩
       ·exact⟨.inl I,J⟩
    |none=>
     simp only[HK]at fill;simp only;have W2:=LS HK;cases i3:lr (qE done) rem with
     |none=>
      exfalso;have XT:=LS i3;have none:∀(n:Nat) (d:cv),d.i<n→d∈rem→False:=by
       intro n
       induction n with
       |zero=>intro d hn;exact absurd hn (Nat.not_lt_zero _)
       |succ n XU=>
        intro d hn hd;have fW:=hi.rl d hd;have i9:qE done d=true:=(LQ _ _).2 fun j hj=>by
         have ap:=hs.LV d fW j hj;have N2:=(Array.getElem?_eq_some_iff.1 (hs.ok.get d fW).1).1;have XV:j<ops.size:=by omega
         obtain⟨y,y1,y2,Ak⟩:=hs.ok.all j ops[j] (by simp[XV]);rcases hi.part y y1 with⟨_,k⟩|⟨k,_⟩
         ·rw[←y2];exact k
         ·exact(XU y (by omega) k).elim
        rw[XT d hd]at i9;cases i9
      exact none (r0.i+1) r0 (Nat.lt_succ_self _) (by rw[←Oc];simp)
     |some q=>
      obtain⟨d,kw⟩:=q;simp only[i3]at fill;simp only;obtain⟨t1,t2,t3,t4⟩:=LU i3;cases HL:kw.any (qE done)with
      |true=>simp only[cond_true];exact .stop 26 none
      |false=>
       simp only[HL,cond_false]at fill;simp only[cond_false];have me:d∈rem:=(t2 d).2 (.inl rfl);have fW:=hi.rl d me;obtain⟨o1,o2,p3,p4⟩:=hs.ok.get d fW;have ap:d.i<ops.size:=(Array.getElem?_eq_some_iff.1 o1).1;have oI:done.testBit d.i=false:=hi.CA d me;have d2:¬eh listed d.i:=fun h=>by have:=hi.sd d.i ap h;rw[oI]at this;cases this
       cases hL with
       |nil h=>exact absurd (FO hs hi.size h (d.i+1) d.i (Nat.lt_succ_self _) ap) d2
       | @cons _ i L' hr xX=>
         cases rG:done.testBit i with
         |true=>exact fill i L' rfl hr xX rG
         |false=>
          obtain⟨x,I,J,h3,h4,h5⟩:=FP hs hi.size hr;have HM:x∈rem:=by
           rcases hi.part x I with⟨_,k⟩|⟨k,_⟩
           ·rw[J,rG]at k;cases k
           ·exact k
          have HJ:x=d:=by
           rcases(t2 x).1 HM with h|h
           ·exact h
           ·rw[List.any_eq_false]at HL;exact absurd ((LQ _ _).2 fun j hj=>hi.sd j (h5 j hj).2 (h5 j hj).1) (HL x h)
          subst HJ;subst J;obtain⟨tH,fK,jw⟩:=SZ (P:=P) (nt:=nt) (ops:=ops) x dO;rw[fK];have hp:kB (Nat.lor done (2^x.i)) (listed.setIfInBounds x.i true)=kB done listed:=by
           funext j;apply propext;unfold kB;rw[px,mN,mN,mM];constructor
           ·rintro⟨q1,q2⟩;have bx:j≠x.i:=fun e=>q2 (.inr e);exact⟨q1.resolve_right bx,fun h=>q2 (.inl h)⟩
           ·rintro⟨q1,q2⟩;refine⟨.inl q1,fun h=>h.elim q2 fun e=>?_⟩;rw[e,oI]at q1;cases q1
          have Ai:∀j,x.pred.testBit j=true→eh listed j:=fun j hj=>(h5 j hj).1;have bx:∀j,kB done listed j→j≠x.i:=fun j hj e=>by have I:=hj.1;rw[e,oI]at I;cases I
          refine .e7 x.i x.o h3 (fun j oj t hj g9 ht=>?_) (fun j oj hj g9=>?_) ?_
          ·obtain⟨n1,n2,_⟩:=SY hs hi I Ai hj g9 ht (bx j hj);exact⟨n1,n2⟩
          ·obtain⟨y,y1,y2,Ak,Oe,Of⟩:=FQ hs hi hj g9;have Dz:x.iA.testBit y.i=false:=by
            cases ha:x.iA.testBit y.i with
            |false=>rfl
            |true=>
             rw[Ak]at ha;exact absurd (FL hs.ok (X:=eh listed) hi.sc (x.i+1) x (Nat.lt_succ_self _) I Ai j ha) (mN.1 hj.2)
           rw[←Oe];exact jw y y1 Of Dz
          ·rw[←hp];refine ih f _ _ kw _ L' (by simp at hN;omega) (by omega) (hi.next fW t1 t2 (t4 hi.FM) (by simp[hi.size]) (fun _ h=>mM.2 (.inl h)) (fun _ _ h=>mM.1 h) (fun _=>mM.2 (.inr rfl)) ?_) xX;intro y hy XW j hj;rcases mM.1 XW with h|h
           ·exact mM.2 (.inl (hi.sc y hy h j hj))
           ·have:=hs.ok.uniq hy I h;subst this;exact mM.2 (.inl (Ai j hj))
theorem LW (P:Program):Cw P:=by
 intro nt ce ops rs t hd;unfold drawn at hd;cases hb:(P.follows .mixedOrders&&(y7 ops (e8 P nt ops ops.toList 0 [])&&Cg ce (e8 P nt ops ops.toList 0 [])))with
 |false=>rw[hb]at hd;cases hd
 |true=>
  rw[hb]at hd;simp only[cond_true]at hd;cases hd;simp only[Bool.and_eq_true]at hb;have rB:∀d∈e8 P nt ops ops.toList 0 [],d.e7=false→∀t,d.o.dst=some t→t∉ce:=fun d hd he t ht hm=>by
   have I:=hb.2.2;unfold Cg at I;rw[List.all_eq_true]at I;have J:=I d hd;rw[he,ht]at J;simp only[Bool.false_or]at J;rw[FN.2 hm]at J;cases J
  have HN:=aeJ (P:=P) (nt:=nt) (ops:=ops);have hs:=aeK HN hb.2.1;have hlen:(e8 P nt ops ops.toList 0 []).length=ops.size:=by
   have:∀(r:List Oper) (i:Nat) (a:List Nat),(e8 P nt ops r i a).length=r.length:=by
    intro r
    induction r with
    |nil=>intro i a;rfl
    |cons o r ih=>intro i a;simp[e8,ih]
   rw[this];simp
  have Og:(e8 P nt ops ops.toList 0 []).map (·.i)=List.range ops.size:=by
   apply List.ext_getElem?;intro k;rw[List.getElem?_map,LR,Array.getElem?_toList];rcases Nat.lt_or_ge k ops.size with h|h
   ·simp[h]
   ·simp[h]
  have Oh:∀j,¬eh (Array.replicate ops.size false) j∨ops.size≤j:=fun j=>by
   rcases Nat.lt_or_ge j ops.size with h|h
   ·left;unfold eh;simp[h]
   ·exact .inr h
  generalize e8 P nt ops ops.toList 0 []=l at HN hs hlen Og rB;have ap:∀d∈l,d.i<ops.size:=fun d hd=>(Array.getElem?_eq_some_iff.1 (HN.get d hd).1).1;have hinv:Inv P nt ops l 0 [] l (Array.replicate ops.size false):=by
   exact{size:=by simp,part:=fun d hd=>.inr ⟨hd,by simp⟩,pl:=fun d hd=>(by cases hd),rl:=fun d hd=>hd,FM:=by rw[Og];exact List.nodup_range,CA:=fun d _=>by simp,
         sd:=fun i hi hL=>absurd hL ((Oh i).resolve_right (by omega)),e7:=fun d hd=>(by cases hd),
         sc:=fun d hd hL=>absurd hL ((Oh d.i).resolve_right (by have:=ap d hd;omega)),sK:=fun d hd=>(by cases hd)}
  have hw:=aeM (A:=fun t=>t∉ce) hs rB (l.length+(Region.linearise .any ops t).length) ops.size 0 [] l (Array.replicate ops.size false) (Region.linearise .any ops t) (Nat.le_refl _) (by omega) hinv
   (SU ops.size t _ (by simp))
  have hp:kB 0 (Array.replicate ops.size false)=fun _=>False:=by
   funext j;apply propext;unfold kB;simp
  rw[hp]at hw;unfold Region.schedule;rw[hb.1];simpa using hw
end Go.Ev
namespace Go.Ev
def xe (P:Program):Bool:=P.funcs.toList.all fun fn=>fn.body.isNone||!(fn.name== "runtime.NumGoroutine")
theorem LX {P:Program} (h:xe P=true):sP P:=by
 intro f fn c hf hb;unfold xe at h;rw[List.all_eq_true]at h;have:=h fn (by simpa using Array.mem_of_getElem? hf);rw[hb]at this;simpa using this
end Go.Ev
namespace Go.Ev
variable{C:Cx} {ls:List LE} {bh:List Frame} {f0:Nat} {U:AM} {Λ:Pa→Prop} {h h':Hp} {w:World}
structure aeN where
 fr:Fr
 cs:List Fr
 h:Hp
 ls:List LE
end Go.Ev
namespace Go.Ev
end Go.Ev
namespace Go.Ev
noncomputable section
def LY:Nat→List (RS al)→List (RS al)
 |0,l=>l
 |n+1,l=>match l with
  |[]=>[]
  |_::l=>LY n l
end
noncomputable def FR (P:Program) (f:Nat):aeN:=
 match e9 P f with
 |some fn=>⟨enter fn f [] false,[],jO,[]⟩
 |none=>⟨⟨⟨f,0,false,none⟩,.E,[],[],.run⟩,[],jO,[]⟩
noncomputable def FT (P:Program) (f:Nat):Bool:=
 match e9 P f with
 |some _=>true
 |none=>false
end Go.Ev
namespace Go.Ev
open Go.RowKit (Below)
variable{C:Cx} {ls:List LE} {U:AM} {Λ:Pa→Prop} {h:Hp} {w:World}
theorem aP.below {w':World} (s:aP C U Λ h ls w) (d3:C.sd=false) (hb:Below w.heap.size w w'):aP C U Λ h ls w' where
 ia:=s.ia
 aw:=fun a L ha bn=>let⟨b,I,J⟩:=s.aw a L ha bn;⟨b,I,J.mono (AM.le_refl U) (fun _ _ h=>h) (hb.block _ (s.lt ha bn))⟩
 inj:=s.inj
 live:=s.live
 wr:=s.wr
 low:=fun i hi=>by rw[hb.block i (Nat.lt_of_lt_of_le hi s.size)];exact s.low i hi
 size:=Nat.le_trans s.size hb.size
 still:=s.still.RF d3 ⟨hb.os,hb.output⟩
 fresh:=s.fresh
 jj:=s.jj
theorem S0 (l:List UInt8):∀n,uI l n=Go.Lib.repeatL l n
 |0=>rfl
 |n+1=>by rw[uI,Go.Lib.repeatL,S0 l n]
theorem aeO {P:Program} {f:Nat} (hc:∀(s:ByteArray) (c:Nat) (w:World),c≤9223372036854775807→s.size*c≤140737488355328→
 Calls P f #[.string s,.int .i64 c] w fun e w'=>e=.returned (.string ⟨(Go.Lib.repeatL s.data.toList c).toArray⟩)∧Below w.heap.size w w'):zf P f ji:=by
 intro C U Λ h ls w args cE v h' jX d3 s ha hg;cases ha with
 |nil=>cases hg
 |cons x XX r HO hx hr=>
  cases hx<;>simp only[ji]at hg<;>(try(cases hg;done))
  rename_i b;cases hr with
  |nil=>cases hg
  |cons y XY r HO hy hr=>
   cases hr with
   |cons=>cases hg
   |nil=>
    cases hy<;>simp only at hg<;>(try(cases hg;done))
    rename_i k i;cases k<;>simp only at hg<;>(try(cases hg;done))
    cases i with
    |negSucc n=>cases hg
    |ofNat n=>
     simp only at hg;cases I:Nat.ble n 9223372036854775807 with
     |false=>rw[I]at hg;cases hg
     |true=>
      cases J:Nat.ble (Nat.mul b.data.toList.length n) 140737488355328 with
      |false=>rw[I,J]at hg;cases hg
      |true=>
       rw[I,J]at hg;simp only[cond_true,Option.some.injEq,Prod.mk.injEq]at hg;obtain⟨rfl,rfl⟩:=hg;have h3:b.size*n≤140737488355328:=by
        have:=Nat.le_of_ble_eq_true J;have e1:b.data.toList.length=b.size:=Array.length_toList;rw[e1]at this;exact this
       refine(hc b n w (Nat.le_of_ble_eq_true I) h3).mono fun e w' hh=>?_;obtain⟨rfl,hb⟩:=hh;refine⟨_,U,Λ,rfl,AM.le_refl U,s.below d3 hb,?_,fun a I J=>absurd I J,Nat.le_refl _⟩;rw[S0];exact VR.str (U:=U) (⟨(Go.Lib.repeatL b.data.toList n).toArray⟩:ByteArray)
theorem S3 {P:Program}:∀(l:List (Nat×(List V→Hp→Option (V×Hp)))),(∀p∈l,FT P p.1=true∧zf P p.1 p.2)→sQ P (uJ P l)
 |[],_=>LN P
 |p::r,hl=>by
  have ih:=S3 r fun q hq=>hl q (List.mem_cons_of_mem _ hq);obtain⟨I,J⟩:=hl p (by simp);have he:∀i,uJ P (p::r) i=bif Nat.beq p.1 i then some (.c7 p.2)else uJ P r i:=fun _=>rfl
  refine⟨fun f i hf=>?_,fun f g hf=>?_⟩
  ·rw[he]at hf;cases hb:Nat.beq p.1 f with
   |true=>simp[hb]at hf
   |false=>simp only[hb,cond_false]at hf;exact ih.code f i hf
  ·rw[he]at hf;cases hb:Nat.beq p.1 f with
   |true=>
    have:=Nat.eq_of_beq_eq_true hb;subst this;simp only[hb,cond_true,Option.some.injEq,aN.c7.injEq]at hf;subst hf;refine⟨?_,J⟩;unfold FT at I;split at I
    ·rename_i fn Ab;exact⟨fn,Ab⟩
    ·cases I
   |false=>simp only[hb,cond_false]at hf;exact ih.c7 f g hf
end Go.Ev
namespace Go.Ev
variable{C:Cx} {ls:List LE} {U:AM} {Λ:Pa→Prop} {h:Hp} {w:World}
theorem aP.aeP (s:aP C U Λ h ls w) {a:Pa} {L:Loc} (ha:U a=some L) {o n:Nat} {l:List V} (hl:h.cl a o n=some l):
 ∃cs:List Value,cs.length=n∧bd U l cs∧∀(j:Nat) (c:Value),cs[j]? =some c→w.cell? ⟨L.aw,L.base+o+j,none⟩=some c:=by
 unfold bm.cl at hl;cases hc:h.cells a with
 |none=>simp[hc]at hl
 |some m=>
  simp only[hc,qI]at hl;obtain⟨I,J⟩:=w3 hl;have zQ:=s.cells ha hc;have hlen:l.length=n:=by rw[J];simp at I⊢;omega
  have bE:∀(i:Nat) (v:V),l[i]? =some v→∃c,w.cell? ⟨L.aw,L.base+o+i,none⟩=some c∧VR U v c:=by
   intro i v hv;rw[J,List.getElem?_take]at hv;split at hv
   ·rw[List.getElem?_drop]at hv;obtain⟨c,k1,k2⟩:=zQ _ _ hv;exact⟨c,by rw[Nat.add_assoc];exact k1,k2⟩
   ·cases hv
  have:∀(m:List V) (o':Nat),(∀(i:Nat) (v:V),m[i]? =some v→∃c,w.cell? ⟨L.aw,o'+i,none⟩=some c∧VR U v c)→
   ∃cs:List Value,cs.length=m.length∧bd U m cs∧∀(j:Nat) (c:Value),cs[j]? =some c→w.cell? ⟨L.aw,o'+j,none⟩=some c:=by
   intro m
   induction m with
   |nil=>intro o' _;exact⟨[],rfl,.nil,fun j c hj=>by simp at hj⟩
   |cons v m ih=>
    intro o' hm;obtain⟨c,k1,k2⟩:=hm 0 v (by simp);obtain⟨cs,k3,k4,k5⟩:=ih (o'+1) (fun i u hu=>by
     obtain⟨d,e1,e2⟩:=hm (i+1) u (by simpa using hu);exact⟨d,by rw[show o'+1+i=o'+(i+1)from by omega];exact e1,e2⟩)
    refine⟨c::cs,by simp[k3],.cons _ _ _ _ k2 k4,fun j d hd=>?_⟩;cases j with
    |zero=>simp at hd;subst hd;simpa using k1
    |succ j=>simp at hd;rw[show o'+(j+1)=o'+1+j from by omega];exact k5 j d hd
  obtain⟨cs,k1,k2,k3⟩:=this l (L.base+o) bE;exact⟨cs,by rw[k1,hlen],k2,k3⟩
end Go.Ev
namespace Go.Ev
variable{C:Cx} {ls:List LE} {U:AM} {Λ:Pa→Prop} {h:Hp} {w:World}
theorem aP.aeQ (s:aP C U Λ h ls w) {a:Pa} {L:Loc} {l:List V} (ha:U a=some L) (hg:h.get a=some (.cells l false)):
 Λ a∧∃cs el fr,w.heap[L.aw]? =some (.cells cs el fr)∧cs.size=L.top∧quietAt cs.size fr∧po U l cs L.base∧K9 L.eb fr:=by
 have bn:Λ a:=by
  rcases s.live a L _ ha hg with I|⟨m,I⟩
  ·exact I
  ·cases I
 obtain⟨b',I,J⟩:=s.aw a L ha bn;rw[hg]at I;cases I;exact⟨bn,J⟩
theorem zh {U:Type} {n:Nat} {l:List U} (h:n≤l.length):takeN n l=some (l.take n):=by
 induction n generalizing l with
 |zero=>cases l<;>simp[takeN]
 |succ n ih=>cases l with
  |nil=>simp at h
  |cons a l=>simp only[takeN];rw[ih (by simpa using h)];simp
theorem S4 {a:Pa} {o n:Nat} {m:List V} (hc:h.cells a=some m) (hn:o+n≤m.length):h.cl a o n=some ((m.drop o).take n):=by
 unfold bm.cl;simp only[hc,qI];exact zh (by rw[List.length_drop];omega)
end Go.Ev
namespace Go.Ev
open Go.RowKit (Below)
variable{C:Cx} {ls:List LE} {U:AM} {Λ:Pa→Prop} {h:Hp} {w:World}
end Go.Ev
namespace Go.Ev
section
variable(F:Nat→Option aN)
inductive Reach:Nx→Nx→Prop
 |refl (a:Nx):Reach a a
 |step {fr:Fr} {cs:List Fr} {h:Hp} {ls:List LE} {b:Nx}:Reach (step F fr cs h ls) b→Reach (.go fr cs h ls) b
variable{F}
theorem Reach.trans {a b c:Nx} (h:Reach F a b) (k:Reach F b c):Reach F a c:=by
 induction h with
 |refl=>exact k
 |step _ ih=>exact .step (ih k)
theorem Reach.of_eq {a b:Nx} (h:a=b):Reach F a b:=h▸.refl a
theorem Reach.one {fr:Fr} {cs:List Fr} {h:Hp} {ls:List LE} {b:Nx} (hs:Go.Ev.step F fr cs h ls=b):Reach F (.go fr cs h ls) b:=.step (.of_eq hs)
theorem Reach.run {a:Nx} {v:V} {h':Hp} (hr:Reach F a (.done v h')):∀{fr:Fr} {cs:List Fr} {h:Hp} {ls:List LE},a=.go fr cs h ls→∃n,run F n fr cs h ls=.done v h':=by
 generalize hb:Nx.done v h'=b at hr
 induction hr with
 |refl a=>intro fr cs h ls e;subst hb;cases e
 | @step fr cs h ls b hs ih=>
   intro fr' cs' h0 pm e;cases e;cases hx:Go.Ev.step F fr cs h ls with
   |go fr2 Oi J ls2=>
    obtain⟨n,hn⟩:=ih hb hx;refine⟨n+1,?_⟩;show Nx.rec (motive:=fun _=>Nx) (fun fr cs h ls=>Go.Ev.run F n fr cs h ls) (fun v h=>.done v h) (fun a b=>.bad a b) (Go.Ev.step F fr cs h ls)=_;rw[hx];exact hn
   |done v2 J=>
    refine⟨1,?_⟩;show Nx.rec (motive:=fun _=>Nx) (fun fr cs h ls=>Go.Ev.run F 0 fr cs h ls) (fun v h=>.done v h) (fun a b=>.bad a b) (Go.Ev.step F fr cs h ls)=_;rw[hx]at hs⊢;subst hb;cases hs;rfl
   |bad x y=>
    rw[hx]at hs;subst hb;cases hs
abbrev Env:=List (Nat×V)
def lk (n:Nat):Env→Option V
 |[]=>none
 |(m,v)::r=>bif Nat.beq m n then some v else lk n r
def ch (e:T V) (E:Env):Prop:=∀n v,lk n E=some v→e.get (pa n)=some v
theorem aeR {a b:Nat} (h:pa a=pa b):a=b:=by have:=congrArg Pa.toNat h;simpa[gY]using this
theorem ch.set {e:T V} {E:Env} (h:ch e E) (d:Nat) (v:V):ch (e.set v (pa d)) ((d,v)::E):=by
 intro n u hn;rw[T.gX];simp only[lk]at hn;by_cases hd:d=n
 ·subst hd;rw[Nat.beq_refl]at hn;simpa using hn
 ·have I:Nat.beq d n=false:=by
   cases hb:Nat.beq d n with
   |false=>rfl
   |true=>exact absurd (Nat.eq_of_beq_eq_true hb) hd
  rw[I]at hn;rw[if_neg (fun e1=>hd (aeR e1))];exact h n u hn
def Sub (E' E:Env):Prop:=∀n v,lk n E'=some v→lk n E=some v
theorem ch.sub {e:T V} {E E':Env} (h:ch e E) (hs:Sub E' E):ch e E':=fun n v hn=>h n v (hs n v hn)
theorem Sub.nil (E:Env):Sub [] E:=fun _ _ h=>by cases h
theorem Sub.cons {n:Nat} {v:V} {E' E:Env} (h:lk n E=some v) (hs:Sub E' E):Sub ((n,v)::E') E:=by
 intro m u hm;simp only[lk]at hm;cases hb:Nat.beq n m with
 |true=>
  have:=Nat.eq_of_beq_eq_true hb;subst this;rw[hb]at hm;simp at hm;subst hm;exact h
 |false=>rw[hb]at hm;exact hs m u hm
def ax (E:Env) (x:Od) (a:V):Prop:=∀e,ch e E→x.ev e=a
theorem ax.c {E:Env} {a:V}:ax E (.c a) a:=fun _ _=>rfl
theorem ax.t {E:Env} {n:Nat} {a:V} (h:lk n E=some a):ax E (.t (pa n)) a:=fun e he=>by
 show e.val (pa n)=a;unfold T.val;rw[he n a h]
inductive py (E:Env):List Od→List V→Prop
 |nil:py E [] []
 |cons {x:Od} {a:V} {xs:List Od} {vs:List V} (h:ax E x a) (hs:py E xs vs):py E (x::xs) (a::vs)
theorem py.ev {E:Env} {xs:List Od} {vs:List V} (h:py E xs vs) {e:T V} (he:ch e E):ea e xs=vs:=by
 induction h with
 |nil=>rfl
 |cons h _ ih=>rw[ea,h e he,ih]
structure KX where
 k:FK
 L:List LE→Prop
structure fu where
 n:Env→Hp→List Pa→Prop
 x:Nat→Env→Hp→List Pa→Prop
 r:Env→Hp→List Pa→Prop
 p:Env→V→Hp→List Pa→Prop
def fu.sh (Q:fu) (ms:List Pa):fu where
 n:=fun E h m=>Q.n E h (m++ms)
 x:=fun i E h m=>Q.x i E h (m++ms)
 r:=fun E h m=>Q.r E h (m++ms)
 p:=fun E v h m=>Q.p E v h (m++ms)
def marks (ms:List Pa) (ds:List Def):List Def:=ms.map .mark++ds
theorem FU (a b:List Pa) (ds:List Def):marks a (marks b ds)=marks (a++b) ds:=by simp[marks]
inductive pz where
 |n (e:T V) (h:Hp) (ms:List Pa)
 |x (id:Nat) (e:T V) (h:Hp) (ms:List Pa)
 |r (e:T V) (h:Hp) (ms:List Pa)
 |p (e:T V) (v:V) (h:Hp) (ms:List Pa)
inductive fu.Holds (Q:fu):pz→Prop
 |n {e:T V} {h:Hp} {ms:List Pa} {E:Env} (he:ch e E) (hq:Q.n E h ms):Holds Q (.n e h ms)
 |x {id:Nat} {e:T V} {h:Hp} {ms:List Pa} {E:Env} (he:ch e E) (hq:Q.x id E h ms):Holds Q (.x id e h ms)
 |r {e:T V} {h:Hp} {ms:List Pa} {E:Env} (he:ch e E) (hq:Q.r E h ms):Holds Q (.r e h ms)
 |p {e:T V} {v:V} {h:Hp} {ms:List Pa} {E:Env} (he:ch e E) (hq:Q.p E v h ms):Holds Q (.p e v h ms)
def FV (K:KX) (ms:List Pa) (ls:List LE):Prop:=K.L ls∧(K.k.round≠none→ms=[])
inductive Ends (K:KX) (k:List Item) (ds:List Def) (cs:List Fr) (ls:List LE):pz→Nx→Prop
 |n (e:T V) (h:Hp) (ms:List Pa) (xs:List LE) (hL:FV K ms (xs++ls)):Ends K k ds cs ls (.n e h ms) (.go ⟨K.k,e,k,marks ms ds,.run⟩ cs h (xs++ls))
 |x {id:Nat} {e:T V} {h:Hp} {ms:List Pa} {k':List Item} (xs:List LE) (hL:FV K ms (xs++ls)) (hk:exitTo id k=some k'):Ends K k ds cs ls (.x id e h ms) (.go ⟨K.k,e,k',marks ms ds,.run⟩ cs h (xs++ls))
 |r (e:T V) (h:Hp) (ms:List Pa) (td:List Item) (xs:List LE) (hL:FV K ms (xs++ls)):Ends K k ds cs ls (.r e h ms) (uH ⟨K.k,e,td,marks ms ds,.run⟩ cs h (xs++ls) (some .ret))
 |p (e:T V) (v:V) (h:Hp) (ms:List Pa) (td:List Item) (xs:List LE) (hL:FV K ms (xs++ls)):Ends K k ds cs ls (.p e v h ms) (.go ⟨K.k,e,td,marks ms ds,.panicking v false⟩ cs h (xs++ls))
theorem Ends.more {K:KX} {k:List Item} {ds:List Def} {cs:List Fr} {ls xs:List LE} {r:pz} {x:Nx} (h:Ends K k ds cs (xs++ls) r x):Ends K k ds cs ls r x:=by
 cases h with
 |n e h ms ys hL=>rw[←List.append_assoc]at hL⊢;exact .n e h ms _ hL
 |x ys hL hk=>rw[←List.append_assoc]at hL⊢;exact .x _ hL hk
 |r e h ms td ys hL=>rw[←List.append_assoc]at hL⊢;exact .r e h ms td _ hL
 |p e v h ms td ys hL=>rw[←List.append_assoc]at hL⊢;exact .p e v h ms td _ hL
def qT (r:pz) (k:List Item):Prop:=∀id e h ms,r=.x id e h ms→∃k',exitTo id k=some k'
variable(F)in
def WC (K:KX) (c:IC al) (E:Env) (h:Hp) (Q:fu):Prop:=
 ∀e,ch e E→∃r,Q.Holds r∧∀k ds cs ls,K.L ls→qT r k→∃x,Ends K k ds cs ls r x∧Reach F (.go ⟨K.k,e,fI c k,ds,.run⟩ cs h ls) x
variable(F)in
def WR (K:KX) (rs:List (RS al)) (E:Env) (h:Hp) (Q:fu):Prop:=
 ∀e,ch e E→∃r,Q.Holds r∧∀k ds cs ls,K.L ls→qT r k→∃x,Ends K k ds cs ls r x∧Reach F (jN F K.k e k ds cs h ls (.dc rs)) x
variable(F)in
def CB (f:Nat) (args:List V) (h:Hp) (v:V) (h':Hp):Prop:=∀fr cs ls,∃xs,Reach F (mJ F fr cs h ls f args) (finish fr v cs h' (xs++ls))
variable(F)in
def S5 (f:Nat) (args:List V) (h:Hp) (v:V) (h':Hp):Prop:=∀fr cs ls,fr.mode=.run→∃xs,Reach F (mJ F fr cs h ls f args) (.go ⟨fr.k,fr.env,fr.todo,fr.defers,.panicking v false⟩ cs h' (xs++ls))
class gd (K:KX):Prop where
 up:∀xs ls,K.L ls→K.L (xs++ls)
instance(k:FK):gd ⟨k,fun _=>True⟩:=⟨fun _ _ _=>trivial⟩
variable{K:KX} {E:Env} {h:Hp} {Q:fu}
theorem WC.sub {c:IC al} {E':Env} (hs:Sub E' E) (hw:WC F K c E' h Q):WC F K c E h Q:=fun e he=>hw e (he.sub hs)
theorem fu.Holds.mono {Q':fu} (hn:∀E h m,Q.n E h m→Q'.n E h m) (hx:∀i E h m,Q.x i E h m→Q'.x i E h m) (hr:∀E h m,Q.r E h m→Q'.r E h m) (hp:∀E v h m,Q.p E v h m→Q'.p E v h m) {r:pz} (hE:Q.Holds r):Q'.Holds r:=by
 cases hE with
 |n he hq=>exact .n he (hn _ _ _ hq)
 |x he hq=>exact .x he (hx _ _ _ _ hq)
 |r he hq=>exact .r he (hr _ _ _ hq)
 |p he hq=>exact .p he (hp _ _ _ _ hq)
def pz.add (ms:List Pa):pz→pz
 |.n e h m=>.n e h (m++ms)
 |.x i e h m=>.x i e h (m++ms)
 |.r e h m=>.r e h (m++ms)
 |.p e v h m=>.p e v h (m++ms)
theorem fu.Holds.add {ms:List Pa} {r:pz} (hE:(Q.sh ms).Holds r):Q.Holds (r.add ms):=by
 cases hE with
 |n he hq=>exact .n he hq
 |x he hq=>exact .x he hq
 |r he hq=>exact .r he hq
 |p he hq=>exact .p he hq
theorem Ends.add {K:KX} {k:List Item} {ds:List Def} {cs:List Fr} {ls:List LE} {ms:List Pa} {r:pz} {x:Nx} (h0:K.k.round≠none→ms=[]) (h:Ends K k (marks ms ds) cs ls r x):Ends K k ds cs ls (r.add ms) x:=by
 cases h with
 |n e h m xs hL=>rw[FU];exact .n e h _ xs ⟨hL.1,fun q=>by rw[hL.2 q,h0 q];(try rfl)⟩
 |x xs hL hk=>rw[FU];exact .x xs ⟨hL.1,fun q=>by rw[hL.2 q,h0 q];(try rfl)⟩ hk
 |r e h m td xs hL=>rw[FU];exact .r e h _ td xs ⟨hL.1,fun q=>by rw[hL.2 q,h0 q];(try rfl)⟩
 |p e v h m td xs hL=>rw[FU];exact .p e v h _ td xs ⟨hL.1,fun q=>by rw[hL.2 q,h0 q];(try rfl)⟩
theorem qT.add {ms:List Pa} {r:pz} {k:List Item} (h:qT (r.add ms) k):qT r k:=by
 intro id e h' m e1;subst e1;exact h id e h' (m++ms) rfl
theorem aeS (ds:List Def):marks [] ds=ds:=rfl
theorem WC.mono {c:IC al} {Q':fu} (hn:∀E h m,Q.n E h m→Q'.n E h m) (hx:∀i E h m,Q.x i E h m→Q'.x i E h m) (hr:∀E h m,Q.r E h m→Q'.r E h m) (hp:∀E v h m,Q.p E v h m→Q'.p E v h m) (hw:WC F K c E h Q):WC F K c E h Q':=
 fun e he=>let⟨r,I,J⟩:=hw e he;⟨r,I.mono hn hx hr hp,J⟩
theorem WC.skip (hq:Q.n E h []):WC F K .skip E h Q:=fun e he=>⟨.n e h [],.n he hq,fun _ _ _ _ hL _=>⟨_,.n e h [] [] ⟨hL,fun _=>rfl⟩,.refl _⟩⟩
theorem WC.region {rs:List (RS al)} (hw:WR F K rs E h Q):WC F K (.region rs) E h Q:=fun e he=>
 let⟨r,I,J⟩:=hw e he
 ⟨r,I,fun k ds cs ls hL ho=>let⟨x,hx,hr⟩:=J k ds cs ls hL ho;⟨x,hx,.step hr⟩⟩
theorem qU (K:FK) (c:IC al) (e:T V) (k:List Item) (ds:List Def) (cs:List Fr) (h:Hp) (ls:List LE):
 Reach F (.go ⟨K,e,.code c::k,ds,.run⟩ cs h ls) (.go ⟨K,e,fI c k,ds,.run⟩ cs h ls):=by
 cases c<;>first|exact .refl _|exact .one rfl
def fu.then (Q:fu) (n:Env→Hp→List Pa→Prop):fu:={Q with n:=n}
theorem WC.seq {a b:IC al} (hw:WC F K a E h (Q.then fun E' h' m=>WC F K b E' h' (Q.sh m))):WC F K (.seq a b) E h Q:=by
 intro e he;obtain⟨r,I,J⟩:=hw e he;have DC:∀k,fI (.seq a b) k=fI a (.code b::k):=fun _=>rfl;cases I with
 | @n e' h' m E' ca hq=>
   obtain⟨r2,g1,g2⟩:=hq _ ca;refine⟨r2.add m,g1.add,fun k ds cs ls hL ho=>?_⟩;obtain⟨x,hx,hr⟩:=J (.code b::k) ds cs ls hL (fun _ _ _ _ e1=>by cases e1);cases hx with|n _ _ _ xs d8=>
   obtain⟨y,hy,mf⟩:=g2 k (marks m ds) cs (xs++ls) d8.1 ho.add;exact⟨y,.add d8.2 hy.more,by rw[DC];exact hr.trans ((qU _ _ _ _ _ _ _ _).trans mf)⟩
 | @x id e' h' m E' ca hq=>
   refine⟨_,.x ca hq,fun k ds cs ls hL ho=>?_⟩;obtain⟨x,hx,hr⟩:=J (.code b::k) ds cs ls hL (fun _ _ _ _ e1=>by cases e1;obtain⟨k',dZ⟩:=ho _ _ _ _ rfl;exact⟨k',by simpa[exitTo]using dZ⟩);cases hx with
   |x xs d8 hk=>exact⟨_,.x xs d8 (by simpa[exitTo]using hk),by rw[DC];exact hr⟩
 | @r e' h' m E' ca hq=>
   refine⟨_,.r ca hq,fun k ds cs ls hL ho=>?_⟩;obtain⟨x,hx,hr⟩:=J (.code b::k) ds cs ls hL (fun _ _ _ _ e1=>by cases e1);cases hx with
   |r _ _ _ td xs d8=>exact⟨_,.r _ _ _ td xs d8,by rw[DC];exact hr⟩
 | @p e2 v h' m E2 jz hq=>
   refine⟨_,.p jz hq,fun k ds cs ls hL ho=>?_⟩;obtain⟨x,hx,hr⟩:=J (.code b::k) ds cs ls hL (fun _ _ _ _ e1=>by cases e1);cases hx with
   |p _ _ _ _ td xs d8=>exact⟨_,.p _ _ _ _ td xs d8,by rw[DC];exact hr⟩
theorem WC.cond {c:Od} {a b:IC al} {t:Bool} (hc:ax E c (.bool t)) (hw:WC F K (bif t then a else b) E h Q):WC F K (.cond c a b) E h Q:=by
 intro e he;obtain⟨r,I,J⟩:=hw e he;refine⟨r,I,fun k ds cs ls hL ho=>?_⟩;obtain⟨x,hx,hr⟩:=J k ds cs ls hL ho;refine⟨x,hx,.trans (.one ?_) hr⟩;show kg F K.k e k ds cs h ls (.cond c a b)=_;simp only[kg,hc e he]
theorem xf {a b:Nat} (h:a≠b):Nat.beq a b=false:=by
 cases hb:Nat.beq a b with
 |false=>rfl
 |true=>exact absurd (Nat.eq_of_beq_eq_true hb) h
theorem WC.block {id:Nat} {b:IC al} (hw:WC F K b E h {Q with x:=fun i E' h' m=>if i=id then Q.n E' h' m else Q.x i E' h' m}):WC F K (.block id b) E h Q:=by
 intro e he;obtain⟨r,I,J⟩:=hw e he;have h0:∀k ds cs ls,Reach F (.go ⟨K.k,e,fI (.block id b) k,ds,.run⟩ cs h ls) (.go ⟨K.k,e,fI b (.inBlock id::k),ds,.run⟩ cs h ls):=fun _ _ _ _=>.one rfl;cases I with
 | @n e' h' m E' ca hq=>
   refine⟨_,.n ca hq,fun k ds cs ls hL ho=>?_⟩;obtain⟨x,hx,hr⟩:=J (.inBlock id::k) ds cs ls hL (fun _ _ _ _ e1=>by cases e1);cases hx with|n _ _ _ xs d8=>
   exact⟨_,.n _ _ _ xs d8,(h0 k ds cs ls).trans (hr.trans (.one rfl))⟩
 | @x i e' h' m E' ca hq=>
   by_cases hi:i=id
   ·subst hi;simp only[if_true]at hq;refine⟨_,.n ca hq,fun k ds cs ls hL ho=>?_⟩;obtain⟨x,hx,hr⟩:=J (.inBlock i::k) ds cs ls hL (fun _ _ _ _ e1=>by cases e1;exact⟨k,by simp[exitTo]⟩);cases hx with
    |x xs d8 hk=>
     simp[exitTo]at hk;subst hk;exact⟨_,.n _ _ _ xs d8,(h0 k ds cs ls).trans hr⟩
   ·simp only[hi,if_false]at hq;refine⟨_,.x ca hq,fun k ds cs ls hL ho=>?_⟩;obtain⟨k',dZ⟩:=ho _ _ _ _ rfl;obtain⟨x,hx,hr⟩:=J (.inBlock id::k) ds cs ls hL (fun _ _ _ _ e1=>by cases e1;exact⟨k',by simp only[exitTo,xf (Ne.symm hi),cond_false];exact dZ⟩);cases hx with
    |x xs d8 hk=>
     simp only[exitTo,xf (Ne.symm hi),cond_false]at hk;exact⟨_,.x xs d8 hk,(h0 k ds cs ls).trans hr⟩
 | @r e' h' m E' ca hq=>
   refine⟨_,.r ca hq,fun k ds cs ls hL ho=>?_⟩;obtain⟨x,hx,hr⟩:=J (.inBlock id::k) ds cs ls hL (fun _ _ _ _ e1=>by cases e1);cases hx with
   |r _ _ _ td xs d8=>exact⟨_,.r _ _ _ td xs d8,(h0 k ds cs ls).trans hr⟩
 | @p e2 v h' m E2 jz hq=>
   refine⟨_,.p jz hq,fun k ds cs ls hL ho=>?_⟩;obtain⟨x,hx,hr⟩:=J (.inBlock id::k) ds cs ls hL (fun _ _ _ _ e1=>by cases e1);cases hx with
   |p _ _ _ _ td xs d8=>exact⟨_,.p _ _ _ _ td xs d8,(h0 k ds cs ls).trans hr⟩
theorem WC.exit {id:Nat} (hq:Q.x id E h []):WC F K (.exit id) E h Q:=by
 intro e he;refine⟨_,.x he hq,fun k ds cs ls hL ho=>?_⟩;obtain⟨k',dZ⟩:=ho _ _ _ _ rfl;refine⟨_,.x [] ⟨hL,fun _=>rfl⟩ dZ,.one ?_⟩;show kg F K.k e k ds cs h ls (.exit id)=_;simp only[kg,dZ,aeS];rfl
theorem WC.ret (hq:Q.r E h []):WC F K .ret E h Q:=by
 intro e he;refine⟨_,.r he hq,fun k ds cs ls hL ho=>⟨_,.r e h [] k [] ⟨hL,fun _=>rfl⟩,.one ?_⟩⟩;rfl
theorem WC.loop {b:IC al} (d0:Nat→Env→Hp→List Pa→Prop) {m:Nat} (hi:d0 m E h []) (hb:∀m E h ms,d0 m E h ms→WC F K b E h ((Q.sh ms).then fun E' h' rH=>∃m',m'<m∧d0 m' E' h' (rH++ms))):WC F K (.loop b) E h Q:=by
 suffices hs:∀m E h ms,d0 m E h ms→∀e,ch e E→∃r,(Q.sh ms).Holds r∧∀k ds cs ls,K.L ls→qT r k→∃x,Ends K k ds cs ls r x∧Reach F (.go ⟨K.k,e,fI b (.inLoop b::k),ds,.run⟩ cs h ls) x by
  intro e he;obtain⟨r,I,J⟩:=hs m E h [] hi e he;have e0:Q.sh []=Q:=by simp[fu.sh]
  rw[e0]at I;exact⟨r,I,fun k ds cs ls hL ho=>let⟨x,hx,hr⟩:=J k ds cs ls hL ho;⟨x,hx,.trans (.one rfl) hr⟩⟩
 intro m
 induction m using Nat.strongRecOn with
 |ind m ih=>
  intro E h ms hi e he;obtain⟨r,I,J⟩:=hb m E h ms hi e he;cases I with
  | @n e' h' rH E' ca hq=>
    obtain⟨m',rD,b8⟩:=hq;obtain⟨r2,g1,g2⟩:=ih m' rD _ _ _ b8 _ ca;have e1:Q.sh (rH++ms)=(Q.sh ms).sh rH:=by simp[fu.sh]
    rw[e1]at g1;refine⟨r2.add rH,g1.add,fun k ds cs ls hL ho=>?_⟩;obtain⟨x,hx,hr⟩:=J (.inLoop b::k) ds cs ls hL (fun _ _ _ _ e1=>by cases e1);cases hx with|n _ _ _ xs d8=>
    obtain⟨y,hy,mf⟩:=g2 k (marks rH ds) cs (xs++ls) d8.1 ho.add;exact⟨y,.add d8.2 hy.more,hr.trans (.trans (.one rfl) mf)⟩
  | @x id e' h' rH E' ca hq=>
    refine⟨_,.x ca hq,fun k ds cs ls hL ho=>?_⟩;obtain⟨x,hx,hr⟩:=J (.inLoop b::k) ds cs ls hL (fun _ _ _ _ e1=>by cases e1;obtain⟨k',dZ⟩:=ho _ _ _ _ rfl;exact⟨k',by simpa[exitTo]using dZ⟩);cases hx with
    |x xs d8 hk=>exact⟨_,.x xs d8 (by simpa[exitTo]using hk),hr⟩
  | @r e' h' rH E' ca hq=>
    refine⟨_,.r ca hq,fun k ds cs ls hL ho=>?_⟩;obtain⟨x,hx,hr⟩:=J (.inLoop b::k) ds cs ls hL (fun _ _ _ _ e1=>by cases e1);cases hx with
    |r _ _ _ td xs d8=>exact⟨_,.r _ _ _ td xs d8,hr⟩
  | @p e2 v h' rH E2 jz hq=>
    refine⟨_,.p jz hq,fun k ds cs ls hL ho=>?_⟩;obtain⟨x,hx,hr⟩:=J (.inLoop b::k) ds cs ls hL (fun _ _ _ _ e1=>by cases e1);cases hx with
    |p _ _ _ _ td xs d8=>exact⟨_,.p _ _ _ _ td xs d8,hr⟩
theorem WR.nil (hq:Q.n E h []):WR F K [] E h Q:=fun e he=>⟨_,.n he hq,fun _ _ _ _ hL _=>⟨_,.n e h [] [] ⟨hL,fun _=>rfl⟩,.refl _⟩⟩
def az (E:Env):Option (Pa×Bool)→W3→Prop:=fun g w=>∀e,ch e E→fa e g=w
theorem az.none:az E none .yes:=fun _ _=>rfl
theorem az.yes {n:Nat} {b:Bool} (h:lk n E=some (.bool b)):az E (some (pa n,b)) .yes:=fun e he=>by
 simp only[fa,he n _ h];cases b<;>rfl
theorem az.no {n:Nat} {b c:Bool} (h:lk n E=some (.bool c)) (vu:c=!b):az E (some (pa n,b)) .no:=fun e he=>by
 simp only[fa,he n _ h,vu];cases b<;>rfl
theorem az.S6 {n:Nat} {b:Bool} {l:List V} (h:lk n E=some (.aM l)):az E (some (pa n,b)) .no:=fun e he=>by
 simp only[fa,he n _ h]
def xg (E:Env) (v:V):Option Nat→Env
 |none=>E
 |some d=>(d,v)::E
theorem ch.put {e:T V} (he:ch e E) (v:V) (d:Option Nat):ch (e.put v (d.map pa)) (xg E v d):=by
 cases d with
 |none=>exact he
 |some d=>exact he.set d v
theorem zi {rs hH:List (RS al)} {e e':T V} {h h':Hp} (cJ:gW rs e h=gW hH e' h') (k:List Item) (ds:List Def) (cs:List Fr) (ls:List LE):
 jN F K.k e k ds cs h ls (.dc rs)=jN F K.k e' k ds cs h' ls (.dc hH):=by
 simp only[jN,cJ]
theorem WR.pu {d:Option Nat} {g:Option (Pa×Bool)} {f:T V→Hp→Option V} {rs:List (RS al)} {v:V} (hw:az E g .yes) (hf:∀e,ch e E→f e h=some v) (hn:WR F K rs (xg E v d) h Q):
 WR F K (.op ⟨d.map pa,.pu f,g⟩::rs) E h Q:=by
 intro e he;obtain⟨r,I,J⟩:=hn _ (he.put v d);refine⟨r,I,fun k ds cs ls hL ho=>?_⟩;obtain⟨x,hx,hr⟩:=J k ds cs ls hL ho;refine⟨x,hx,?_⟩;rw[zi (hH:=rs) (e':=e.put v (d.map pa)) (h':=h) ?_]
 ·exact hr
 ·rw[sN (hw e he)];simp only[hf e he]
theorem WR.dw {d:Option Nat} {g:Option (Pa×Bool)} {f:T V→Option (al×(Pa→V))} {rs:List (RS al)} {b:al} {mk:Pa→V} (hw:az E g .yes) (hf:∀e,ch e E→f e=some (b,mk)) (hn:WR F K rs (xg E (mk h.next) d) (h.alloc b) Q):
 WR F K (.op ⟨d.map pa,.dw f,g⟩::rs) E h Q:=by
 intro e he;obtain⟨r,I,J⟩:=hn _ (he.put _ d);refine⟨r,I,fun k ds cs ls hL ho=>?_⟩;obtain⟨x,hx,hr⟩:=J k ds cs ls hL ho;refine⟨x,hx,?_⟩;rw[zi (hH:=rs) (e':=e.put (mk h.next) (d.map pa)) (h':=h.alloc b) ?_]
 ·exact hr
 ·rw[sN (hw e he)];simp only[hf e he]
theorem WR.st {d:Option Nat} {g:Option (Pa×Bool)} {f:T V→Hp→Option (V×Hp)} {rs:List (RS al)} {v:V} {h':Hp} (hw:az E g .yes) (hf:∀e,ch e E→f e h=some (v,h')) (hn:WR F K rs (xg E v d) h' Q):
 WR F K (.op ⟨d.map pa,.st f,g⟩::rs) E h Q:=by
 intro e he;obtain⟨r,I,J⟩:=hn _ (he.put v d);refine⟨r,I,fun k ds cs ls hL ho=>?_⟩;obtain⟨x,hx,hr⟩:=J k ds cs ls hL ho;refine⟨x,hx,?_⟩;rw[zi (hH:=rs) (e':=e.put v (d.map pa)) (h':=h') ?_]
 ·exact hr
 ·rw[sN (hw e he)];simp only[hf e he]
theorem WR.no {d:Option Nat} {g:Option (Pa×Bool)} {sm:bz} {rs:List (RS al)} (hw:az E g .no) (hn:WR F K rs (xg E dm d) h Q):
 WR F K (.op ⟨d.map pa,sm,g⟩::rs) E h Q:=by
 intro e he;obtain⟨r,I,J⟩:=hn _ (he.put dm d);refine⟨r,I,fun k ds cs ls hL ho=>?_⟩;obtain⟨x,hx,hr⟩:=J k ds cs ls hL ho;refine⟨x,hx,?_⟩;rw[zi (hH:=rs) (e':=e.put dm (d.map pa)) (h':=h) (LH (hw e he))];exact hr
theorem WR.cf {o:RO al} {rs:List (RS al)} (hc:∀e,ch e E→lu e h o=true) (hn:WR F K rs E h Q):WR F K (.cf o::rs) E h Q:=by
 intro e he;obtain⟨r,I,J⟩:=hn _ he;refine⟨r,I,fun k ds cs ls hL ho=>?_⟩;obtain⟨x,hx,hr⟩:=J k ds cs ls hL ho;refine⟨x,hx,?_⟩;rw[zi (hH:=rs) (e':=e) (h':=h) ?_]
 ·exact hr
 ·show Bool.rec (motive:=fun _=>OR) (.bad 92) (gW rs e h) (lu e h o)=_;rw[hc e he]
theorem CC {d:Option Nat} {g:Option (Pa×Bool)} {f:T V→lj} {c:lj} {rs:List (RS al)} {e:T V} (hw:fa e g=.yes) (hf:f e=c) (k:List Item) (ds:List Def) (cs:List Fr) (ls:List LE):
 jN F K.k e k ds cs h ls (.dc (.op ⟨d.map pa,.ed f,g⟩::rs))=uG F K.k e ⟨d.map pa,.ed f,g⟩ rs k ds cs h ls c:=by
 have:gW (.op ⟨d.map pa,.ed f,g⟩::rs) e h=.uF c ⟨d.map pa,.ed f,g⟩ rs e h:=by
  rw[sN hw];simp only[hf]
 simp only[jN,this]
theorem WR.call [gd K] {d:Option Nat} {g:Option (Pa×Bool)} {f:T V→lj} {n:Nat} {args:List V} {rs:List (RS al)} {v:V} {h':Hp} (hw:az E g .yes) (hf:∀e,ch e E→f e=.call n args) (hc:CB F n args h v h')
 (hn:WR F K rs (xg E v d) h' Q):WR F K (.op ⟨d.map pa,.ed f,g⟩::rs) E h Q:=by
 intro e he;obtain⟨r,I,J⟩:=hn _ (he.put v d);refine⟨r,I,fun k ds cs ls hL ho=>?_⟩;obtain⟨xs,oD⟩:=hc ⟨K.k,e,.dc (.op ⟨d.map pa,.ed f,g⟩::rs)::k,ds,.run⟩ cs ls;obtain⟨x,hx,hr⟩:=J k ds cs (xs++ls) (gd.up xs ls hL) ho;refine⟨x,hx.more,?_⟩;rw[CC (hw e he) (hf e he)];exact oD.trans (.step hr)
theorem WR.aeT [gd K] {d:Option Nat} {g:Option (Pa×Bool)} {f:T V→lj} {n:Nat} {args:List V} {rs:List (RS al)} {v:V} {h':Hp} (hw:az E g .yes) (hf:∀e,ch e E→f e=.call n args) (hc:S5 F n args h v h') (hq:Q.p E v h' []):
 WR F K (.op ⟨d.map pa,.ed f,g⟩::rs) E h Q:=by
 intro e he;refine⟨_,.p he hq,fun k ds cs ls hL ho=>?_⟩;obtain⟨xs,oD⟩:=hc ⟨K.k,e,.dc (.op ⟨d.map pa,.ed f,g⟩::rs)::k,ds,.run⟩ cs ls rfl;refine⟨_,.p e v h' [] (.dc (.op ⟨d.map pa,.ed f,g⟩::rs)::k) xs ⟨gd.up xs ls hL,fun _=>rfl⟩,?_⟩;rw[CC (hw e he) (hf e he)];exact oD
theorem WR.panic {d:Option Nat} {g:Option (Pa×Bool)} {f:T V→lj} {v:V} {rs:List (RS al)} (hw:az E g .yes) (hf:∀e,ch e E→f e=.panic v) (hq:Q.p E v h []):WR F K (.op ⟨d.map pa,.ed f,g⟩::rs) E h Q:=by
 intro e he;refine⟨_,.p he hq,fun k ds cs ls hL ho=>⟨_,.p e v h [] (.dc (.op ⟨d.map pa,.ed f,g⟩::rs)::k) [] ⟨hL,fun _=>rfl⟩,?_⟩⟩;rw[CC (hw e he) (hf e he)];exact .refl _
def ie:Nat→List V→Env
 |_,[]=>[]
 |n,v::r=>(n,v)::ie (n+1) r
theorem S7:∀(l:List V) (i:Pa) (e:T V),(∀n v,lk n (ie i.toNat l)=some v→(h2 l i e).get (pa n)=some v)∧(∀p:Pa,p.toNat<i.toNat→(h2 l i e).get p=e.get p)
 |[],i,e=>⟨(fun n v h=>by cases h),fun p _=>rfl⟩
 |v::r,i,e=>by
  obtain⟨I,J⟩:=S7 r i.succ (e.set v i);have hs:i.succ.toNat=i.toNat+1:=Pa.iB i;refine⟨fun n u hn=>?_,fun p hp=>?_⟩
  ·simp only[ie,lk]at hn;show(h2 r i.succ (e.set v i)).get (pa n)=some u;cases hb:Nat.beq i.toNat n with
   |true=>
    have:=Nat.eq_of_beq_eq_true hb;rw[hb]at hn;simp at hn;subst hn;rw[J (pa n) (by rw[gY,hs];omega),T.gX,if_pos (Pa.toNat_inj (by rw[gY];exact this))]
   |false=>
    rw[hb]at hn;exact I n u (by rw[hs];exact hn)
  ·show(h2 r i.succ (e.set v i)).get p=e.get p;rw[J p (by rw[hs];omega),T.gX,if_neg (fun e1=>by subst e1;omega)]
theorem zj (l:List V):ch (h2 l .z .E) (ie 0 l):=fun n v hn=>(S7 l .z .E).1 n v hn
def kC (E:Env) (h:Hp) (res:List (Pa×Option (Option Nat))) (l:List V):Prop:=∀e,ch e E→kf e h res=some l
theorem kC.nil:kC E h [] []:=fun _ _=>rfl
theorem kC.t {n:Nat} {v:V} {r:List (Pa×Option (Option Nat))} {l:List V} (hv:lk n E=some v) (hr:kC E h r l):kC E h ((pa n,none)::r) (v::l):=fun e he=>by
 simp only[kf,T.val,he n v hv,hr e he]
theorem kC.c {n:Nat} {a v:V} {sh:Option Nat} {r:List (Pa×Option (Option Nat))} {l:List V} (hv:lk n E=some a) (hl:fH h sh a=some v) (hr:kC E h r l):kC E h ((pa n,some sh)::r) (v::l):=fun e he=>by
 simp only[kf,T.val,he n a hv,hl,hr e he]
noncomputable def kill:List Pa→Hp→Hp
 |[],h=>h
 |m::ms,h=>kill ms (h.put m (.dH false))
def mO:List Pa→Hp→Prop
 |[],_=>True
 |m::ms,h=>h.get m=some (.dH true)∧mO ms (h.put m (.dH false))
theorem sR {fr:Fr}:∀(ms:List Pa) {h:Hp} {ds:List Def} {cs:List Fr} {ls:List LE},mO ms h→fr.mode≠.run→Reach F (.go ⟨fr.k,fr.env,fr.todo,marks ms ds,fr.mode⟩ cs h ls) (.go ⟨fr.k,fr.env,fr.todo,ds,fr.mode⟩ cs (kill ms h) ls)
 |[],h,ds,cs,ls,_,_=>.refl _
 |m::ms,h,ds,cs,ls,ha,hm=>by
  refine .trans (.one ?_) (sR ms ha.2 hm);obtain⟨k,e,td,rI,md⟩:=fr;cases md with
  |run=>exact absurd rfl hm
  |returning=>
   show unwind F ⟨k,e,td,.mark m::marks ms ds,.returning⟩ cs h ls=_;simp only[unwind,ha.1,cond_true]
  |panicking v r=>
   show unwind F ⟨k,e,td,.mark m::marks ms ds,.panicking v r⟩ cs h ls=_;simp only[unwind,ha.1,cond_true]
def CD (res:List (Pa×Option (Option Nat))) (ad:V→Hp→Prop) (Up:V→Hp→Prop):fu where
 n:=fun E h ms=>mO ms h∧∃l,kC E (kill ms h) res l∧ad (oneOf l) (kill ms h)
 x:=fun _ _ _ _=>False
 r:=fun E h ms=>mO ms h∧∃l,kC E (kill ms h) res l∧ad (oneOf l) (kill ms h)
 p:=fun _ v h ms=>mO ms h∧Up v (kill ms h)
variable(F)in
def S8 (f:Nat) (args:List V) (h:Hp) (ad:V→Hp→Prop) (Up:V→Hp→Prop):Prop:=
 (∃v h',CB F f args h v h'∧ad v h')∨∃v h',S5 F f args h v h'∧Up v h'
theorem aeU {f:Nat} {fn:hZ} {args:List V} {ad Up:V→Hp→Prop} (hf:F f=some (.code fn)) (hw:WC F ⟨⟨f,fn.nt,false,none⟩,fun _=>True⟩ fn.body (ie 0 args) h (CD fn.res ad Up)):S8 F f args h ad Up:=by
 obtain⟨r,I,J⟩:=hw _ (zj args);have h0:∀fr cs ls,mJ F fr cs h ls f args=.go ⟨⟨f,fn.nt,false,none⟩,h2 args .z .E,[.code fn.body],[],.run⟩ (fr::cs) h ls:=fun fr cs ls=>by simp only[mJ,hf,enter]
 have go:∀fr cs ls,qT r []→∃x,Ends ⟨⟨f,fn.nt,false,none⟩,fun _=>True⟩ [] [] (fr::cs) ls r x∧Reach F (mJ F fr cs h ls f args) x:=by
  intro fr cs ls ho;obtain⟨x,hx,hr⟩:=J [] [] (fr::cs) ls trivial ho;exact⟨x,hx,by rw[h0];exact(qU _ _ _ _ _ _ _ _).trans hr⟩
 have back:∀(e:T V) (E:Env) (h':Hp) (ms:List Pa) (l:List V) (td:List Item),ch e E→mO ms h'→kC E (kill ms h') fn.res l→∀fr cs ls,Reach F (.go ⟨⟨f,fn.nt,false,none⟩,e,td,marks ms [],.returning⟩ (fr::cs) h' ls) (finish fr (oneOf l) cs (kill ms h') ls):=by
  intro e E h' ms l td he ha hl fr cs ls;refine(sR (fr:=⟨⟨f,fn.nt,false,none⟩,e,td,[],.returning⟩) ms ha (by intro e;cases e)).trans (.one ?_);show unwind F ⟨⟨f,fn.nt,false,none⟩,e,td,[],.returning⟩ (fr::cs) (kill ms h') ls=_;simp only[unwind,hf,hl e he,doReturn,cond_false]
 cases I with
 | @n e' h' ms E' ca hq=>
   obtain⟨ha,l,hl,hR⟩:=hq;refine .inl ⟨_,kill ms h',fun fr cs ls=>?_,hR⟩;obtain⟨x,hx,hr⟩:=go fr cs ls (fun _ _ _ _ e1=>by cases e1);cases hx with|n _ _ _ xs _=>
   exact⟨xs,hr.trans (.trans (.one rfl) (back _ _ _ _ _ _ ca ha hl fr cs _))⟩
 |x _ hq=>exact hq.elim
 | @r e' h' ms E' ca hq=>
   obtain⟨ha,l,hl,hR⟩:=hq;refine .inl ⟨_,kill ms h',fun fr cs ls=>?_,hR⟩;obtain⟨x,hx,hr⟩:=go fr cs ls (fun _ _ _ _ e1=>by cases e1);cases hx with
   |r _ _ _ td xs _=>exact⟨xs,hr.trans (back _ _ _ _ _ _ ca ha hl fr cs _)⟩
 | @p e2 v h' ms E2 jz hq=>
   refine .inr ⟨v,kill ms h',fun fr cs ls hm=>?_,hq.2⟩;obtain⟨x,hx,hr⟩:=go fr cs ls (fun _ _ _ _ e1=>by cases e1);cases hx with
   |p _ _ _ _ td xs _=>
    refine⟨xs,hr.trans ((sR (fr:=⟨⟨f,fn.nt,false,none⟩,e2,td,[],.panicking v false⟩) ms hq.1 (by intro e;cases e)).trans (.one ?_))⟩;show unwind F ⟨⟨f,fn.nt,false,none⟩,e2,td,[],.panicking v false⟩ (fr::cs) (kill ms h') (xs++ls)=_;simp only[unwind,cond_false,hf,hm]
theorem LZ {f:Nat} {g:List V→Hp→Option (V×Hp)} {args:List V} {v:V} {h':Hp} (hf:F f=some (.c7 g)) (hg:g args h=some (v,h')):CB F f args h v h':=fun fr cs ls=>by
 have:mJ F fr cs h ls f args=finish fr v cs h' ls:=by simp only[mJ,hf,hg]
 rw[this];exact⟨[],.refl _⟩
theorem aeV {f:Nat} {fn:hZ} {args:List V} (hf:F f=some (.code fn)) (hw:WC F ⟨⟨f,fn.nt,false,none⟩,fun _=>True⟩ fn.body (ie 0 args) h (CD fn.res (fun v _=>v=.bool true) (fun _ _=>False))):
 ∃n h',run F n (enter fn f args false) [] h []=.done (.bool true) h':=by
 obtain⟨r,I,J⟩:=hw _ (zj args);have e0:enter fn f args false=⟨⟨f,fn.nt,false,none⟩,h2 args .z .E,[.code fn.body],[],.run⟩:=rfl;have back:∀(e:T V) (E:Env) (h':Hp) (ms:List Pa) (l:List V) (td:List Item),ch e E→mO ms h'→kC E (kill ms h') fn.res l→∀ls,Reach F (.go ⟨⟨f,fn.nt,false,none⟩,e,td,marks ms [],.returning⟩ [] h' ls) (.done (oneOf l) (kill ms h')):=by
  intro e E h' ms l td he ha hl ls;refine(sR (fr:=⟨⟨f,fn.nt,false,none⟩,e,td,[],.returning⟩) ms ha (by intro e;cases e)).trans (.one ?_);show unwind F ⟨⟨f,fn.nt,false,none⟩,e,td,[],.returning⟩ [] (kill ms h') ls=_;simp only[unwind,hf,hl e he,doReturn,cond_false]
 have go:qT r []→∃x,Ends ⟨⟨f,fn.nt,false,none⟩,fun _=>True⟩ [] [] [] [] r x∧Reach F (.go (enter fn f args false) [] h []) x:=fun ho=>by
  obtain⟨x,hx,hr⟩:=J [] [] [] [] trivial ho;exact⟨x,hx,by rw[e0];exact(qU _ _ _ _ _ _ _ _).trans hr⟩
 have fin:∀v h',Reach F (.go (enter fn f args false) [] h []) (.done v h')→v=.bool true→∃n h',run F n (enter fn f args false) [] h []=.done (.bool true) h':=fun v h' hr hv=>by
  subst hv;obtain⟨n,hn⟩:=hr.run rfl;exact⟨n,h',hn⟩
 cases I with
 | @n e' h' ms E' ca hq=>
   obtain⟨ha,l,hl,hR⟩:=hq;obtain⟨x,hx,hr⟩:=go (fun _ _ _ _ e1=>by cases e1);cases hx with|n _ _ _ xs _=>
   exact fin _ _ (hr.trans (.trans (.one rfl) (back _ _ _ _ _ _ ca ha hl _))) hR
 |x _ hq=>exact hq.elim
 | @r e' h' ms E' ca hq=>
   obtain⟨ha,l,hl,hR⟩:=hq;obtain⟨x,hx,hr⟩:=go (fun _ _ _ _ e1=>by cases e1);cases hx with
   |r _ _ _ td xs _=>exact fin _ _ (hr.trans (back _ _ _ _ _ _ ca ha hl _)) hR
 |p _ hq=>exact hq.2.elim
theorem aeW {P:Program} (hN:xe P=true) (hF:sQ P F) {f:Nat} {fn:hZ} (hf:F f=some (.code fn)) {args:List V} {cE:List Value} {w:World} {U:AM} {Λ:Pa→Prop} {h0:Hp}
 (s0:aP ⟨P,w,w.heap.size,false⟩ U Λ h0 [] w) (ha:bd U args cE)
 (hw:WC F ⟨⟨f,fn.nt,false,none⟩,fun _=>True⟩ fn.body (ie 0 args) h0 (CD fn.res (fun v _=>v=.bool true) (fun _ _=>False))):
 Calls P f cE.toArray w fun e w'=>e=.returned (.bool true)∧Kept w w':=by
 intro bh;have hc:=hF.code f fn hf;obtain⟨n,h',cJ⟩:=aeV hf hw;have fm:=ze (C:=⟨P,w,w.heap.size,false⟩) (U:=U) (h:=h0) (m:=0) (f:=f) hc (args:=args) (cE:=cE) ha false;have Al:Rel ⟨P,w,w.heap.size,false⟩ bh f (enter fn f args false) [] h0 [] (lone (Frame.enter P f cE.toArray .normal) bh w):=
  ⟨_,_,w,0,_,_,rfl,s0,Nat.zero_le _,fm.1,by rw[fm.2.1,fm.2.2];exact .nil 0⟩
 have tI:=FI (C:=⟨P,w,w.heap.size,false⟩) (bh:=bh) (f0:=f) F (LW P) (hF.c rfl) (LX hN) n Al;rw[cJ]at tI;obtain⟨dQ,w',c,aA,dh,pm,I,J,h3,h4,h5⟩:=tI;cases h5;exact⟨.returned (.bool true),w',dQ,⟨rfl,h4.size,fun i hi=>h4.low i hi,h4.still.1,h4.still.2.1⟩,I,J,h3⟩
end
theorem aP.start (P:Program) (w:World):aP ⟨P,w,w.heap.size,false⟩ (fun _=>none) (fun _=>False) jO [] w:=by
 have no:∀(a:Pa) (L:Loc),(fun _=>none:AM) a=some L→False:=fun a L h=>by cases h
 exact{ia:=fun a L h=>(no a L h).elim,aw:=fun a L h=>(no a L h).elim,inj:=fun a _ L _ h=>(no a L h).elim,live:=fun a L _ h=>(no a L h).elim,wr:=fun a L _ h=>(no a L h).elim,
       low:=fun i _=>rfl,size:=Nat.le_refl _,still:=pq.refl _ w,fresh:=fun a _=>by(show T.E.get a=none);cases a<;>rfl,jj:=fun a x h=>by(simp[gb]at h)}
theorem aP.S9 {C:Cx} {U:AM} {Λ:Pa→Prop} {h:Hp} {ls:List LE} {w:World} (s:aP C U Λ h ls w) {L:Loc} {l:List V} (hL:L.aw<C.N0) {cs:Array Value} {el:TypeId} {fr:Nat×Nat} (hb:w.heap[L.aw]? =some (.cells cs el fr)) (ht:cs.size=L.top)
 (hc:po (U.put h.next L) l cs L.base):aP C (U.put h.next L) (fun x=>Λ x∨x=h.next) (h.alloc (.ro l)) ls w:=by
 have vr:=s.lB;have ac:=AM.lA (U:=U) (a:=h.next) (L:=L) vr;have bE:∀x,(h.alloc (.ro l)).get x=if h.next=x then some (.ro l)else h.get x:=fun x=>by simp[bm.alloc,bm.get,T.gX]
 have b3:(h.alloc (.ro l)).next.toNat=h.next.toNat+1:=Pa.iB _;have aD:∀x M,(U.put h.next L) x=some M→x≠h.next→U x=some M:=fun x M hx bM=>by simpa[AM.put,bM]using hx
 have new:∀M,(U.put h.next L) h.next=some M→M=L:=fun M hM=>by simp[AM.put]at hM;exact hM.symm
 refine⟨fun x M hx=>?_,fun x M hx fd=>?_,fun x y M K hx hy fd vm e tt=>?_,fun x M c hx cZ=>?_,fun x M c hx fd cZ hr=>?_,s.low,s.size,s.still,fun x hx=>?_,fun x y hx=>?_⟩
 ·rw[b3];by_cases b9:x=h.next
  ·subst b9;omega
  ·exact Nat.lt_succ_of_lt (s.ia x M (aD x M hx b9))
 ·by_cases b9:x=h.next
  ·subst b9;rw[new M hx];exact⟨.ro l,by rw[bE];simp,cs,el,fr,hb,ht,hc⟩
  ·have I:=fd.resolve_right b9;obtain⟨c,h3,h4⟩:=s.aw x M (aD x M hx b9) I;exact⟨c,by rw[bE,if_neg (Ne.symm b9)];exact h3,h4.mono ac (fun _ _ h=>h) rfl⟩
 ·by_cases b9:x=h.next
  ·by_cases l7:y=h.next
   ·rw[b9,l7]
   ·exfalso;subst b9;rw[new M hx]at tt;omega
  ·by_cases l7:y=h.next
   ·exfalso;subst l7;rw[new K hy]at e;omega
   ·exact s.inj x y M K (aD x M hx b9) (aD y K hy l7) (fd.resolve_right b9) (vm.resolve_right l7) e tt
 ·by_cases b9:x=h.next
  ·exact .inl (.inr b9)
  ·rw[bE,if_neg (Ne.symm b9)]at cZ;rcases s.live x M c (aD x M hx b9) cZ with I|I
   ·exact .inl (.inl I)
   ·exact .inr I
 ·by_cases b9:x=h.next
  ·subst b9;rw[bE,if_pos rfl]at cZ;cases cZ;cases hr
  ·have I:=fd.resolve_right b9;rw[bE,if_neg (Ne.symm b9)]at cZ;exact s.wr x M c (aD x M hx b9) I cZ hr
 ·rw[b3]at hx;have e1:h.next≠x:=fun e=>by subst e;omega
  rw[bE,if_neg e1];exact s.fresh x (by omega)
 ·rw[b3];exact Nat.lt_succ_of_lt (s.jj x y hx)
end Go.Ev
namespace Go.Ev
inductive pA (E:Env):List (Nat×Nat×Od)→List V→List V→Prop
 |nil {z:List V}:pA E [] z z
 |cons {o n:Nat} {x:Od} {a:V} {r:List (Nat×Nat×Od)} {z z' l:List V} (hx:ax E x a) (hn:Nat.beq a.cells.length n=true) (hs:aY a.cells=true) (hz:dk o z a.cells=some z') (hr:pA E r z' l):pA E ((o,n,x)::r) z l
theorem pA.ev {E:Env} {ps:List (Nat×Nat×Od)} {z l:List V} (h:pA E ps z l) {e:T V} (he:ch e E):jd e ps z=some l:=by
 induction h with
 |nil=>rfl
 |cons hx hn hs hz _ ih=>simp only[jd,hx e he,hn,hs,hz,cond_true,ih]
def jl (E:Env) (x:Option Od) (a:Option V):Prop:=∀e,ch e E→aZ e x=a
theorem jl.none {E:Env}:jl E none none:=fun _ _=>rfl
theorem jl.some {E:Env} {x:Od} {a:V} (h:ax E x a):jl E (some x) (some a):=fun e he=>by simp only[aZ,h e he]
namespace ad
variable{F:Nat→Option aN} {K:KX} {E:Env} {h:Hp} {Q:fu} {rs:List (RS al)} {d:Nat} {g:Option (Pa×Bool)}
theorem pu {f:T V→Hp→Option V} {v:V} (hw:az E g .yes) (hf:∀e,ch e E→f e h=some v) (hn:WR F K rs ((d,v)::E) h Q):WR F K (.op ⟨some (pa d),.pu f,g⟩::rs) E h Q:=WR.pu (d:=some d) hw hf hn
theorem dw {f:T V→Option (al×(Pa→V))} {b:al} {mk:Pa→V} (hw:az E g .yes) (hf:∀e,ch e E→f e=some (b,mk)) (hn:WR F K rs ((d,mk h.next)::E) (h.alloc b) Q):WR F K (.op ⟨some (pa d),.dw f,g⟩::rs) E h Q:=WR.dw (d:=some d) hw hf hn
theorem st {f:T V→Hp→Option (V×Hp)} {v:V} {h':Hp} (hw:az E g .yes) (hf:∀e,ch e E→f e h=some (v,h')) (hn:WR F K rs ((d,v)::E) h' Q):WR F K (.op ⟨some (pa d),.st f,g⟩::rs) E h Q:=WR.st (d:=some d) hw hf hn
theorem FR {f:T V→Hp→Option (V×Hp)} {v:V} {h':Hp} (hw:az E g .yes) (hf:∀e,ch e E→f e h=some (v,h')) (hn:WR F K rs E h' Q):WR F K (.op ⟨none,.st f,g⟩::rs) E h Q:=WR.st (d:=none) hw hf hn
theorem no {sm:bz} (hw:az E g .no) (hn:WR F K rs ((d,dm)::E) h Q):WR F K (.op ⟨some (pa d),sm,g⟩::rs) E h Q:=WR.no (d:=some d) hw hn
theorem mv {x:Od} {a:V} (hw:az E g .yes) (hx:ax E x a) (hn:WR F K rs ((d,a)::E) h Q):WR F K (.op ⟨some (pa d),qA x,g⟩::rs) E h Q:=
 pu hw (fun e he=>by simp only[hx e he]) hn
theorem build {z l:List V} {ps:List (Nat×Nat×Od)} (hw:az E g .yes) (hf:pA E ps z l) (hn:WR F K rs ((d,.agg l)::E) h Q):WR F K (.op ⟨some (pa d),aL z ps,g⟩::rs) E h Q:=
 pu hw (fun e he=>by simp only[hf.ev he]) hn
theorem load {n:Option Nat} {x:Od} {a v:V} (hw:az E g .yes) (hx:ax E x a) (hl:fH h n a=some v) (hn:WR F K rs ((d,v)::E) h Q):WR F K (.op ⟨some (pa d),bY n x,g⟩::rs) E h Q:=
 pu hw (fun e he=>by simp only[hx e he,hl]) hn
theorem nil? {x:Od} {a:Pa} {o:Nat} (hw:az E g .yes) (hx:ax E x (.ptr a o)) (hn:WR F K rs ((d,.ptr a o)::E) h Q):WR F K (.op ⟨some (pa d),jf x,g⟩::rs) E h Q:=
 pu hw (fun e he=>by simp only[hx e he]) hn
theorem bin {op:BinOp} {q:cV} {x y:Od} {a b v:V} (hw:az E g .yes) (hx:ax E x a) (hy:ax E y b) (hv:cg op q a b=some v) (hn:WR F K rs ((d,v)::E) h Q):WR F K (.op ⟨some (pa d),a1 op q x y,g⟩::rs) E h Q:=
 pu hw (fun e he=>by simp only[hx e he,hy e he,hv]) hn
theorem un {op:UnOp} {x:Od} {a v:V} (hw:az E g .yes) (hx:ax E x a) (hv:yX op a=some v) (hn:WR F K rs ((d,v)::E) h Q):WR F K (.op ⟨some (pa d),dS op x,g⟩::rs) E h Q:=
 pu hw (fun e he=>by simp only[hx e he,hv]) hn
theorem qV {k j:IntKind} {x:Od} {n:Int} (hw:az E g .yes) (hx:ax E x (.int j n)) (hn:WR F K rs ((d,.int k (e6 k n))::E) h Q):WR F K (.op ⟨some (pa d),cH k x,g⟩::rs) E h Q:=
 pu hw (fun e he=>by simp only[hx e he]) hn
theorem FW {x:Od} {a:Pa} {o n:Nat} {c:hW} {l:List V} {s:List UInt8} (hw:az E g .yes) (hx:ax E x (.sl a o n c)) (hl:h.cl a o n=some l) (hs:bytesOf l=some s) (hn:WR F K rs ((d,.str s)::E) h Q):
 WR F K (.op ⟨some (pa d),dT x,g⟩::rs) E h Q:=
 pu hw (fun e he=>by simp only[hx e he,hl,hs]) hn
theorem aeX {x:Od} (hw:az E g .yes) (hx:ax E x (.no .sl)) (hn:WR F K rs ((d,.str [])::E) h Q):WR F K (.op ⟨some (pa d),dT x,g⟩::rs) E h Q:=
 pu hw (fun e he=>by simp only[hx e he]) hn
theorem L0 {t:Nat} {x:Od} {a:V} (hw:az E g .yes) (hx:ax E x a) (hn:WR F K rs ((d,.iface t a)::E) h Q):WR F K (.op ⟨some (pa d),Ca t x,g⟩::rs) E h Q:=
 pu hw (fun e he=>by simp only[hx e he]) hn
theorem FX {f:Nat} {xs:List Od} {vs:List V} (hw:az E g .yes) (hx:py E xs vs) (hn:WR F K rs ((d,.fn f vs)::E) h Q):WR F K (.op ⟨some (pa d),qB f xs,g⟩::rs) E h Q:=
 pu hw (fun e he=>by simp only[hx.ev he]) hn
theorem slice {s:Nat} {x:Od} {lo hi mx:Option Od} {a v:V} {kU b8 p5:Option V} (hw:az E g .yes) (hx:ax E x a) (I:jl E lo kU) (J:jl E hi b8) (h3:jl E mx p5) (hv:ef s a kU b8 p5=some v) (hn:WR F K rs ((d,v)::E) h Q):
 WR F K (.op ⟨some (pa d),eE s x lo hi mx,g⟩::rs) E h Q:=
 pu hw (fun e he=>by simp only[hx e he,I e he,J e he,h3 e he,hv];cases p5<;>rfl) hn
theorem je {x:Od} {lo hi:Option Od} {a v:V} {kU b8:Option V} (hw:az E g .yes) (hx:ax E x a) (I:jl E lo kU) (J:jl E hi b8) (hv:Go.Ev.je a kU b8=some v) (hn:WR F K rs ((d,v)::E) h Q):
 WR F K (.op ⟨some (pa d),sD x lo hi,g⟩::rs) E h Q:=
 pu hw (fun e he=>by simp only[hx e he,I e he,J e he,hv]) hn
theorem aE {off:Nat} {x:Od} {a:Pa} {o:Nat} (hw:az E g .yes) (hx:ax E x (.ptr a o)) (hn:WR F K rs ((d,.ptr a (o+off))::E) h Q):WR F K (.op ⟨some (pa d),qC off x,g⟩::rs) E h Q:=
 pu hw (fun e he=>by simp only[hx e he]) hn
theorem zk {s:Nat} {x i:Od} {a:Pa} {o n j:Nat} {c:hW} {k:IntKind} (hw:az E g .yes) (hx:ax E x (.sl a o n c)) (hi:ax E i (.int k (j:Int))) (hj:j<n) (hn:WR F K rs ((d,.ptr a (o+j*s))::E) h Q):
 WR F K (.op ⟨some (pa d),bA none s x i,g⟩::rs) E h Q:=
 pu hw (fun e he=>by
  have hb:Nat.blt j n=true:=by simpa[Nat.blt_eq]using hj
  have b8:i.ev e=.int k (.ofNat j):=hi e he;simp only[hx e he,b8,hb,cond_true]) hn
theorem zl {s len:Nat} {x i:Od} {a:Pa} {o j:Nat} {k:IntKind} (hw:az E g .yes) (hx:ax E x (.ptr a o)) (hi:ax E i (.int k (j:Int))) (hj:j<len) (hn:WR F K rs ((d,.ptr a (o+j*s))::E) h Q):
 WR F K (.op ⟨some (pa d),bA (some len) s x i,g⟩::rs) E h Q:=
 pu hw (fun e he=>by
  have hb:Nat.blt j len=true:=by simpa[Nat.blt_eq]using hj
  have b8:i.ev e=.int k (.ofNat j):=hi e he;simp only[hx e he,b8,hb,cond_true]) hn
theorem iS {x i:Od} {s:List UInt8} {j:Nat} {k:IntKind} {b:UInt8} (hw:az E g .yes) (hx:ax E x (.str s)) (hi:ax E i (.int k (j:Int))) (hj:s[j]? =some b) (hn:WR F K rs ((d,.int .u8 (b.toNat:Int))::E) h Q):
 WR F K (.op ⟨some (pa d),iy x i,g⟩::rs) E h Q:=
 pu hw (fun e he=>by
  have b8:i.ev e=.int k (.ofNat j):=hi e he;simp only[hx e he,b8,qH,hj];rfl) hn
theorem ext {x:Od} {i:Nat} {l:List V} {v:V} (hw:az E g .yes) (hx:ax E x (.aM l)) (hv:nth l i=some v) (hn:WR F K rs ((d,v)::E) h Q):WR F K (.op ⟨some (pa d),KU x i,g⟩::rs) E h Q:=
 pu hw (fun e he=>by simp only[hx e he,hv]) hn
theorem cD {x:Od} {s:List UInt8} (hw:az E g .yes) (hx:ax E x (.str s)) (hn:WR F K rs ((d,.int .i64 (s.length:Int))::E) h Q):WR F K (.op ⟨some (pa d),cq x,g⟩::rs) E h Q:=
 pu hw (fun e he=>by simp only[hx e he];rfl) hn
theorem pB {m:Bool} {x y:Od} {a b:V} {v:V} (hw:az E g .yes) (hx:ax E x a) (hy:ax E y b) (hv:mm m a b=some v) (hn:WR F K rs ((d,v)::E) h Q):WR F K (.op ⟨some (pa d),ll m x [y],g⟩::rs) E h Q:=
 pu hw (fun e he=>by simp only[qz,hx e he,hy e he,hv]) hn
theorem look {q:cV} {z:V} {x i:Od} {ok:Bool} {a b v:V} (hw:az E g .yes) (hx:ax E x a) (hi:ax E i b) (hv:yY h q z a b ok=some v) (hn:WR F K rs ((d,v)::E) h Q):WR F K (.op ⟨some (pa d),Cb q z x i ok,g⟩::rs) E h Q:=
 pu hw (fun e he=>by simp only[hx e he,hi e he,hv]) hn
theorem alloc {z:List V} (hw:az E g .yes) (hn:WR F K rs ((d,.ptr h.next 0)::E) (h.alloc (.cells z false)) Q):WR F K (.op ⟨some (pa d),ar z,g⟩::rs) E h Q:=
 dw (mk:=fun a=>.ptr a 0) hw (fun _ _=>rfl) hn
theorem box {x:Od} {a:V} (hw:az E g .yes) (hx:ax E x a) (hs:aY a.cells=true) (hn:WR F K rs ((d,.ptr h.next 0)::E) (h.alloc (.cells a.cells false)) Q):WR F K (.op ⟨some (pa d),Fc x,g⟩::rs) E h Q:=
 dw (mk:=fun a=>.ptr a 0) hw (fun e he=>by simp only[hx e he,hs,cond_true]) hn
theorem a8 {z l:List V} {n:Nat} {ps:List (Nat×Nat×Od)} (hw:az E g .yes) (hf:pA E ps z l) (hs:aY l=true) (hn:WR F K rs ((d,.sl h.next 0 n (.ex n))::E) (h.alloc (.cells l false)) Q):
 WR F K (.op ⟨some (pa d),aG z n ps,g⟩::rs) E h Q:=
 dw (mk:=fun a=>.sl a 0 n (.ex n)) hw (fun e he=>by simp only[hf.ev he,hs,cond_true]) hn
theorem FY {x:Od} {s:List UInt8} (hw:az E g .yes) (hx:ax E x (.str s)) (hn:WR F K rs ((d,.sl h.next 0 s.length (.un 1))::E) (h.alloc (.cells (s.map c5) false)) Q):WR F K (.op ⟨some (pa d),gx x,g⟩::rs) E h Q:=
 dw (mk:=fun a=>.sl a 0 s.length (.un 1)) hw (fun e he=>by simp only[hx e he]) hn
theorem xh {z:List V} {tJ:Nat} {l c:Od} {n m:Nat} {k j:IntKind} (hw:az E g .yes) (hl:ax E l (.int k (n:Int))) (hc:ax E c (.int j (m:Int))) (rJ:n≤m) (hm:m≤281474976710656) (hb:tJ*m≤281474976710656)
 (hn:WR F K rs ((d,.sl h.next 0 n (.ex m))::E) (h.alloc (.cells (dI z m) false)) Q):WR F K (.op ⟨some (pa d),jg z tJ l c,g⟩::rs) E h Q:=
 dw (mk:=fun a=>.sl a 0 n (.ex m)) hw (fun e he=>by
  have I:l.ev e=.int k (.ofNat n):=hl e he;have J:c.ev e=.int j (.ofNat m):=hc e he;simp only[I,J,iz,Nat.ble_eq_true_of_le rJ,Nat.ble_eq_true_of_le hm,Nat.ble_eq_true_of_le hb,Bool.and_true,cond_true]) hn
theorem store {n:Nat} {a x:Od} {b:Pa} {o:Nat} {v:V} {h':Hp} (hw:az E g .yes) (ha:ax E a (.ptr b o)) (hx:ax E x v) (hl:Nat.beq v.cells.length n=true) (hs:h.db b o v.cells=some h') (hn:WR F K rs E h' Q):
 WR F K (.op ⟨none,gy n a x,g⟩::rs) E h Q:=
 FR (v:=dm) hw (fun e he=>by simp only[ha e he,hx e he,hl,hs,cond_true,oH]) hn
theorem app {ba:Nat} {s x:Od} {a b v:V} {h':Hp} (hw:az E g .yes) (hs:ax E s a) (hx:ax E x b) (hv:yZ h ba a b=some (v,h')) (hn:WR F K rs ((d,v)::E) h' Q):WR F K (.op ⟨some (pa d),Cc ba s x,g⟩::rs) E h Q:=
 st hw (fun e he=>by simp only[hs e he,hx e he,hv]) hn
theorem copy {ba:Nat} {s x:Od} {a b v:V} {h':Hp} (hw:az E g .yes) (hs:ax E s a) (hx:ax E x b) (hv:Cd h ba a b=some (v,h')) (hn:WR F K rs ((d,v)::E) h' Q):WR F K (.op ⟨some (pa d),Ce ba s x,g⟩::rs) E h Q:=
 st hw (fun e he=>by simp only[hs e he,hx e he,hv]) hn
theorem call [gd K] {n:Nat} {xs:List Od} {vs:List V} {v:V} {h':Hp} (hw:az E g .yes) (hx:py E xs vs) (hc:CB F n vs h v h') (hn:WR F K rs ((d,v)::E) h' Q):WR F K (.op ⟨some (pa d),aC n xs,g⟩::rs) E h Q:=
 WR.call (d:=some d) hw (fun e he=>by simp only[hx.ev he]) hc hn
theorem aeY [gd K] {n:Nat} {f:Od} {xs:List Od} {vs bf:List V} {v:V} {h':Hp} (hw:az E g .yes) (hf:ax E f (.fn n bf)) (hx:py E xs vs) (hc:CB F n (vs++bf) h v h') (hn:WR F K rs ((d,v)::E) h' Q):
 WR F K (.op ⟨some (pa d),wW f xs,g⟩::rs) E h Q:=
 WR.call (d:=some d) hw (fun e he=>by simp only[hf e he,hx.ev he]) hc hn
end ad
end Go.Ev
