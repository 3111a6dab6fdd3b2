/- Proved: 'glacislaw13.LiveAll' returns true, whatever its bytes and its numbers, and the world that it is called in; the bytes read behind the call as they read before; no condition (the three listed variables of the library are not read on its way). The program's functions are told by an evaluator that is proved to say of each run what the model says of it; what each function does is said for all arguments. The texts are made short by a program: no remarks, short names. -/
import Derived.Test.YtmglhbclhfgmaaaGreatDoorVN
import Derived.Test.YtmglhbclhfgmaaaGreatDoorRows
import Derived.WalkKit
import Derived.ProofKit
import Derived.OpenShut
import Derived.LaidMore
import Derived.Stop.Joined
import Derived.SevenTiedAt
import Derived.Test.YtmglhbclhfgmaaaGreatDoorTie
import Derived.Test.YtmglhbclhfgmaaaGreatDoorCards
namespace Go.Proofs.YtmglhbclhfgmaaaGreatDoor.liveAll
open Go.ChangeShapes Go.WideShapes Go.ChangeAt Go.RowKit
open Go.Ev Go.Ev.G8
theorem own:ownKnob Tryz.prog.godebug=none:=by kernel_rfl
theorem laidOut:laidOutB Tryz.prog=true:=by kernel_rfl
noncomputable def G9:Nat→Option aN:=uJ Tryz.prog [(37,nh 38),(223,ji)]
theorem skip {P:Program} {p:Nat×(List V→Hp→Option (V×Hp))} {l:List (Nat×(List V→Hp→Option (V×Hp)))} {n:Nat} (h:n≠p.1):uJ P (p::l) n=uJ P l n:=by
 have e1:Nat.beq p.1 n=false:=by rw[←Bool.not_eq_true,Nat.beq_eq];exact fun e=>h e.symm
 simp only[uJ,e1,cond_false]
theorem amF:NJ G9:=fun _ I J=>(skip I).trans (skip J)
instance fx0:Fx G9:=WZ amF
theorem fits:sQ Tryz.prog G9:=
 S3 _ fun p hp=>by
  simp only[List.mem_cons,List.not_mem_nil,or_false]at hp;rcases hp with rfl|rfl
  ·exact⟨by kernel_rfl,amE⟩
  ·exact⟨by kernel_rfl,aeO Tryz.strings_Repeat⟩
def Ha {H:Type}:List (String×DataW H):=[("math/bits.deBruijn32tab",Rows.laid_math_bits_deBruijn32tab),("math/bits.deBruijn64tab",Rows.laid_math_bits_deBruijn64tab),("internal/strconv.uint64pow10",Rows.laid_internal_strconv_uint64pow10)]
theorem amG (os:Os) (args:Array Value):laidMetH Tryz.prog Ha ((World.doorLaid Tryz.prog 24 os).forCall (fun _ _=>0) ⟨#[],args,[]⟩).memory:=
 laidMetH_of_parts3 (fuel:=8) (laidMet_of_run' 8 (by kernel_rfl) (by kernel_rfl)) (by kernel_rfl) (by kernel_rfl)
theorem ar3 {a:Int} (h:(decide (IntKind.min .u8≤a)&&decide (a≤IntKind.max .u8))=true):∃x:Nat,a=(x:Int)∧x<256:=by
 simp only[Bool.and_eq_true,decide_eq_true_eq]at h;have I:0≤a∧a≤255:=h;exact⟨a.toNat,by omega,by omega⟩
set_option maxRecDepth 100000 in
theorem lifted (os:Os) (started:os.Started) (H:Type) (enc:TypeId×Value→H):
 ReturnsInHanded {} Tryz.checked os 3 .any (fun w args=>(Rows.liveAllSpec.pre enc Tryz.prog Tryz.f3 [] false w args∧laidMetH Tryz.prog Ha w)∧sizedMet enc Tryz.prog Tryz.f3 (OpenSpec.ofChange Rows.liveAllSpec) false w args)
  (Rows.liveAllSpec.post enc Tryz.prog Tryz.f3 false true false false):=by
 refine returnsInHanded_of_change_and (C:=Tryz.checked) (X:=fun w _=>laidMetH Tryz.prog Ha w) (fun _ _ _ hh h=>h.of_heap hh) own started (by kernel_rfl) Tryz.func3
  (ChangeSpec.witness_shaped (enc:=enc) (C:=Tryz.checked) (os:=os) (X:=fun w _=>laidMetH Tryz.prog Ha w) false (World.doorLaid Tryz.prog 24 os) #[.slice none 0 0,.int .u8 0,.int .u8 0,.int .u8 0,.int .i64 0] 8 rfl (World.shaped_of_RefB (by kernel_rfl) (by kernel_rfl)) (by kernel_rfl) (by kernel_rfl) (by kernel_rfl) (amG os _)) ?_
 intro W base args ds apJ before Rp yx _ _ _ _;have yW:∀(j:Nat) t v,Tryz.f3.params[j]? =some t→args[j]? =some v→Value.okWide Tryz.prog W .any base t v:=Rp;have Rq:=yx;obtain⟨p,q,Rr,acb,rfl,hfz,pW⟩:=yx;have oJ:DataW.TrodAll enc Tryz.prog W 0 (fun _=>true) true Tryz.f3.params.toList args.toList ds p:=Rr;have Ru:=oJ;rw[Tryz.params3]at oJ yW Ru;obtain⟨v0,vs0,rI,ds0,apK,apL,apM,rfl,rfl,h0,r0⟩:=trodAll_cons oJ;obtain⟨v1,vs1,mA,ds1,p1,q1,rfl,rfl,rfl,I,r1⟩:=trodAll_cons r0;obtain⟨v2,vs2,fV,ds2,p2,q2,rfl,rfl,rfl,J,r2⟩:=trodAll_cons r1;obtain⟨v3,vs3,apN,ds3,HC,q3,rfl,rfl,rfl,h3,r3⟩:=trodAll_cons r2;obtain⟨v4,vs4,apO,ds4,apP,Dr,rfl,rfl,rfl,h4,r4⟩:=trodAll_cons r3;obtain⟨rfl,rfl,rfl⟩:=trodAll_nil r4;obtain rfl:args=#[v0,v1,v2,v3,v4]:=by cases args;simp_all
 obtain⟨rfl,rfl⟩:=trodVars_none acb;obtain⟨acc,Qt,α0,Λ0,m0,s0,_,vr0,dV,acd,BS⟩:=ae5 (t:=22) (e:=5) Tryz.underlying22 Tryz.underlying5 (by kernel_rfl) (yW 0 22 v0 rfl rfl) h0 (aP.start Tryz.prog W) WF.start;obtain⟨bs,rfl,e1,e1',w1⟩:=open_int Tryz.underlying5 (yW 1 5 v1 rfl rfl) I;obtain⟨a2,rfl,e2,e2',w2⟩:=open_int Tryz.underlying5 (yW 2 5 v2 rfl rfl) J;obtain⟨a3,rfl,e3,e3',I8⟩:=open_int Tryz.underlying5 (yW 3 5 v3 rfl rfl) h3;obtain⟨a4,rfl,AF,e4',I9⟩:=open_int Tryz.underlying3 (yW 4 3 v4 rfl rfl) h4;clear Rr Rp;simp only[List.append_nil]at Rq;obtain⟨DA,rfl,ci⟩:=ar3 w1;obtain⟨x2,rfl,eq⟩:=ar3 w2;obtain⟨Aj,rfl,f7⟩:=ar3 I8;have hc:=al3 (P:=Tryz.prog) (F:=G9) names fits (f:=3) (args:=[acc,.int .u8 (DA:Int),.int .u8 (x2:Int),.int .u8 (Aj:Int),.int .i64 a4]) (cE:=[v0,.int .u8 (DA:Int),.int .u8 (x2:Int),.int .u8 (Aj:Int),.int .i64 a4]) (Fx.h (c:=(B.ah5,201,[(pa 10,none)])) rfl) s0 (.cons _ _ _ _ vr0 (.cons _ _ _ _ (.int _ _) (.cons _ _ _ _ (.int _ _) (.cons _ _ _ _ (.int _ _) (.cons _ _ _ _ (.int _ _) .nil))))) (SH.all BS.wf)
  (asS (by rfl) (by rfl) (by unfold aa;rw[qX];exact FS.al2 dV acd) ci eq f7)
 refine hc.mono fun e W' ⟨he,hg⟩=>?_;subst he;exact⟨_,rfl,_,[],_,[],_,[],Rq,trodAll_cons_mk (shut_bool Tryz.underlying4 _) trodAll_mk0,Tp laidOut hg (by decide+kernel) Ru,rfl,ae6 hg _,fun h=>by cases h⟩
theorem over:Rows.liveAllRow.holds Tryz.pinned (OpenSpec.ofChange Rows.liveAllSpec):=
 OpenClaim.holds_of_wide 3 Tryz.f3 rfl rfl rfl rfl rfl rfl rfl ⟨rfl,rfl,rfl,rfl,rfl⟩ rfl rfl rfl rfl rfl (by kernel_rfl) Tryz.func3 (by kernel_rfl)
  (of_decide_eq_true (by kernel_rfl)) (by unfold Func.isWrapper;first|(rw[if_pos (by decide+kernel)];kernel_rfl)|(rw[if_neg (by decide+kernel)];exact⟨rfl,rfl⟩))
  (fun os started H enc _=>lifted os started H enc)
theorem amH:Claim7.holds Tryz.pinned (.plain (OpenSpec.ofChange Rows.liveAllSpec)) Rows.liveAllCard:=
 Claim7.holds_tied_plain_at .later [] [.data,.data,.data] true Rows.liveAllCard.stood.harness true
  over (fun _ h=>by cases h) (by kernel_rfl) (fun _ h=>by cases h) liveAll_row_tie rfl ⟨rfl,rfl⟩ (by kernel_rfl) rfl
  (fun f fn hf Ab=>by
    obtain rfl:f=3:=Option.some.inj ((show Tryz.prog.funcNamed "glacis/glacislaw13.LiveAll" =some 3 by kernel_rfl).symm.trans hf)|>.symm;obtain rfl:fn=Tryz.f3:=(Option.some.inj (Tryz.func3.symm.trans Ab)).symm;exact⟨by kernel_rfl,fun j t ht=>by
     rw[Tryz.params3]at ht;have hm:t∈[22,5,5,5,3]:=by simpa using Array.mem_of_getElem? ht
     have eK:([22,5,5,5,3].all fun u=>!Tryz.prog.wantsStandIn u)=true:=by kernel_rfl
     exact(show Tryz.prog.wantsStandIn t=false by simpa using List.all_eq_true.1 eK t hm)⟩)
  (by kernel_rfl)
end Go.Proofs.YtmglhbclhfgmaaaGreatDoor.liveAll
namespace Go.Proofs.YtmglhbclhfgmaaaGreatDoor
theorem liveAll_holds:Rows.LiveAllCardSaid:=liveAll.amH
#print axioms liveAll_holds
end Go.Proofs.YtmglhbclhfgmaaaGreatDoor
