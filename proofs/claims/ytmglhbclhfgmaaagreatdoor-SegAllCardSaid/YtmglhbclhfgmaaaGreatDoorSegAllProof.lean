/- Proved: 'glacislaw15.SegAll' returns true, whatever its bytes and its numbers, and the world that it is called in; the bytes read behind the call as they read before; no condition (the three listed variables of the library are not read on its way). The program's functions are told by an evaluator that is proved to say of each run what the model says of it; what each function does is said for all arguments. The texts are made short by a program: no remarks, short names. -/
import Derived.Test.YtmglhbclhfgmaaaGreatDoorWN
import Derived.Test.YtmglhbclhfgmaaaGreatDoorRows
import Derived.WalkKit
import Derived.ProofKit
import Derived.OpenShut
import Derived.LaidMore
import Derived.Stop.Joined
import Derived.SevenTiedAt
import Derived.Test.YtmglhbclhfgmaaaGreatDoorTie
import Derived.Test.YtmglhbclhfgmaaaGreatDoorCards
namespace Go.Proofs.YtmglhbclhfgmaaaGreatDoor.segAll
open Go.ChangeShapes Go.WideShapes Go.ChangeAt Go.RowKit
open Go.Ev Go.Ev.G8
theorem own:ownKnob Tryz.prog.godebug=none:=by kernel_rfl
theorem laidOut:laidOutB Tryz.prog=true:=by kernel_rfl
noncomputable def G9:Nat→Option aN:=uJ Tryz.prog [(37,nh 38),(223,ji)]
theorem skip {P:Program} {p:Nat×(List V→Hp→Option (V×Hp))} {l:List (Nat×(List V→Hp→Option (V×Hp)))} {n:Nat} (h:n≠p.1):uJ P (p::l) n=uJ P l n:=by
 have e1:Nat.beq p.1 n=false:=by rw[←Bool.not_eq_true,Nat.beq_eq];exact fun e=>h e.symm
 simp only[uJ,e1,cond_false]
theorem amF:NJ G9:=fun _ I J=>(skip I).trans (skip J)
instance fx0:Fx G9:=WZ amF
theorem fits:sQ Tryz.prog G9:=
 S3 _ fun p hp=>by
  simp only[List.mem_cons,List.not_mem_nil,or_false]at hp;rcases hp with rfl|rfl
  ·exact⟨by kernel_rfl,amE⟩
  ·exact⟨by kernel_rfl,aeO Tryz.strings_Repeat⟩
def Ha {H:Type}:List (String×DataW H):=[("math/bits.deBruijn32tab",Rows.laid_math_bits_deBruijn32tab),("math/bits.deBruijn64tab",Rows.laid_math_bits_deBruijn64tab),("internal/strconv.uint64pow10",Rows.laid_internal_strconv_uint64pow10)]
theorem amG (os:Os) (args:Array Value):laidMetH Tryz.prog Ha ((World.doorLaid Tryz.prog 24 os).forCall (fun _ _=>0) ⟨#[],args,[]⟩).memory:=
 laidMetH_of_parts3 (fuel:=8) (laidMet_of_run' 8 (by kernel_rfl) (by kernel_rfl)) (by kernel_rfl) (by kernel_rfl)
theorem W1 {a:Int} (h:(decide (IntKind.min .i64≤a)&&decide (a≤IntKind.max .i64))=true):a≤9223372036854775807:=by
 simp only[Bool.and_eq_true,decide_eq_true_eq]at h;exact h.2
set_option maxRecDepth 100000 in
theorem lifted (os:Os) (started:os.Started) (H:Type) (enc:TypeId×Value→H):
 ReturnsInHanded {} Tryz.checked os 4 .any (fun w args=>(Rows.segAllSpec.pre enc Tryz.prog Tryz.f4 [] false w args∧laidMetH Tryz.prog Ha w)∧sizedMet enc Tryz.prog Tryz.f4 (OpenSpec.ofChange Rows.segAllSpec) false w args)
  (Rows.segAllSpec.post enc Tryz.prog Tryz.f4 false true false false):=by
 refine returnsInHanded_of_change_and (C:=Tryz.checked) (X:=fun w _=>laidMetH Tryz.prog Ha w) (fun _ _ _ hh h=>h.of_heap hh) own started (by kernel_rfl) Tryz.func4
  (ChangeSpec.witness_shaped (enc:=enc) (C:=Tryz.checked) (os:=os) (X:=fun w _=>laidMetH Tryz.prog Ha w) false (World.doorLaid Tryz.prog 24 os) #[.slice none 0 0,.int .i64 0,.int .i64 0,.int .i64 0,.int .u16 0] 8 rfl (World.shaped_of_RefB (by kernel_rfl) (by kernel_rfl)) (by kernel_rfl) (by kernel_rfl) (by kernel_rfl) (amG os _)) ?_
 intro W base args ds apJ before Rp yx _ _ _ _;have yW:∀(j:Nat) t v,Tryz.f4.params[j]? =some t→args[j]? =some v→Value.okWide Tryz.prog W .any base t v:=Rp;have Rq:=yx;obtain⟨p,q,Rr,acb,rfl,hfz,pW⟩:=yx;have oJ:DataW.TrodAll enc Tryz.prog W 0 (fun _=>true) true Tryz.f4.params.toList args.toList ds p:=Rr;have Ru:=oJ;rw[Tryz.params4]at oJ yW Ru;obtain⟨v0,vs0,rI,ds0,apK,apL,apM,rfl,rfl,h0,r0⟩:=trodAll_cons oJ;obtain⟨v1,vs1,mA,ds1,p1,q1,rfl,rfl,rfl,I,r1⟩:=trodAll_cons r0;obtain⟨v2,vs2,fV,ds2,p2,q2,rfl,rfl,rfl,J,r2⟩:=trodAll_cons r1;obtain⟨v3,vs3,apN,ds3,HC,q3,rfl,rfl,rfl,h3,r3⟩:=trodAll_cons r2;obtain⟨v4,vs4,apO,ds4,apP,Dr,rfl,rfl,rfl,h4,r4⟩:=trodAll_cons r3;obtain⟨rfl,rfl,rfl⟩:=trodAll_nil r4;obtain rfl:args=#[v0,v1,v2,v3,v4]:=by cases args;simp_all
 obtain⟨rfl,rfl⟩:=trodVars_none acb;obtain⟨acc,Qt,α0,Λ0,m0,s0,_,vr0,dV,acd,BS⟩:=ae5 (t:=22) (e:=5) Tryz.underlying22 Tryz.underlying5 (by kernel_rfl) (yW 0 22 v0 rfl rfl) h0 (aP.start Tryz.prog W) WF.start;obtain⟨bs,rfl,e1,e1',w1⟩:=open_int Tryz.underlying3 (yW 1 3 v1 rfl rfl) I;obtain⟨a2,rfl,e2,e2',w2⟩:=open_int Tryz.underlying3 (yW 2 3 v2 rfl rfl) J;obtain⟨a3,rfl,e3,e3',I8⟩:=open_int Tryz.underlying3 (yW 3 3 v3 rfl rfl) h3;obtain⟨a4,rfl,AF,e4',I9⟩:=open_int Tryz.underlying56 (yW 4 56 v4 rfl rfl) h4;clear Rr Rp;simp only[List.append_nil]at Rq;have apQ:0≤a4∧a4≤65535:=by
  have w1:(decide (IntKind.min .u16≤a4)&&decide (a4≤IntKind.max .u16))=true:=I9;simp only[Bool.and_eq_true,decide_eq_true_eq]at w1;exact w1
 obtain⟨x,rfl⟩:∃x:Nat,a4=(x:Int):=⟨a4.toNat,by omega⟩
 have hc:=al3 (P:=Tryz.prog) (F:=G9) names fits (f:=4) (args:=[acc,.int .i64 bs,.int .i64 a2,.int .i64 a3,.int .u16 (x:Int)]) (cE:=[v0,.int .i64 bs,.int .i64 a2,.int .i64 a3,.int .u16 (x:Int)]) (Fx.h (c:=(B.Gb,124,[(pa 10,none)])) rfl) s0 (.cons _ _ _ _ vr0 (.cons _ _ _ _ (.int _ _) (.cons _ _ _ _ (.int _ _) (.cons _ _ _ _ (.int _ _) (.cons _ _ _ _ (.int _ _) .nil))))) (SH.all BS.wf)
  (amw (by rfl) (by rfl) (by unfold aa;rw[qX];exact FS.al2 dV acd) (W1 w2) (W1 I8) (by omega))
 refine hc.mono fun e W' ⟨he,hg⟩=>?_;subst he;exact⟨_,rfl,_,[],_,[],_,[],Rq,trodAll_cons_mk (shut_bool Tryz.underlying4 _) trodAll_mk0,Tp laidOut hg (by decide+kernel) Ru,rfl,ae6 hg _,fun h=>by cases h⟩
theorem over:Rows.segAllRow.holds Tryz.pinned (OpenSpec.ofChange Rows.segAllSpec):=
 OpenClaim.holds_of_wide 4 Tryz.f4 rfl rfl rfl rfl rfl rfl rfl ⟨rfl,rfl,rfl,rfl,rfl⟩ rfl rfl rfl rfl rfl (by kernel_rfl) Tryz.func4 (by kernel_rfl)
  (of_decide_eq_true (by kernel_rfl)) (by unfold Func.isWrapper;first|(rw[if_pos (by decide+kernel)];kernel_rfl)|(rw[if_neg (by decide+kernel)];exact⟨rfl,rfl⟩))
  (fun os started H enc _=>lifted os started H enc)
theorem amH:Claim7.holds Tryz.pinned (.plain (OpenSpec.ofChange Rows.segAllSpec)) Rows.segAllCard:=
 Claim7.holds_tied_plain_at .later [] [.data,.data,.data] true Rows.segAllCard.stood.harness true
  over (fun _ h=>by cases h) (by kernel_rfl) (fun _ h=>by cases h) segAll_row_tie rfl ⟨rfl,rfl⟩ (by kernel_rfl) rfl
  (fun f fn hf Ab=>by
    obtain rfl:f=4:=Option.some.inj ((show Tryz.prog.funcNamed "glacis/glacislaw15.SegAll" =some 4 by kernel_rfl).symm.trans hf)|>.symm;obtain rfl:fn=Tryz.f4:=(Option.some.inj (Tryz.func4.symm.trans Ab)).symm;exact⟨by kernel_rfl,fun j t ht=>by
     rw[Tryz.params4]at ht;have hm:t∈[22,3,3,3,56]:=by simpa using Array.mem_of_getElem? ht
     have eK:([22,3,3,3,56].all fun u=>!Tryz.prog.wantsStandIn u)=true:=by kernel_rfl
     exact(show Tryz.prog.wantsStandIn t=false by simpa using List.all_eq_true.1 eK t hm)⟩)
  (by kernel_rfl)
end Go.Proofs.YtmglhbclhfgmaaaGreatDoor.segAll
namespace Go.Proofs.YtmglhbclhfgmaaaGreatDoor
theorem segAll_holds:Rows.SegAllCardSaid:=segAll.amH
#print axioms segAll_holds
end Go.Proofs.YtmglhbclhfgmaaaGreatDoor
