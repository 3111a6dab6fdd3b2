/- Proved: 'glacislaw13.LiveOnce' returns true, whatever its bytes and its numbers, and the world that it is called in; the bytes read behind the call as they read before; no condition (the three listed variables of the library are not read on its way). The program's functions are told by an evaluator that is proved to say of each run what the model says of it; what each function does is said for all arguments. The texts are made short by a program: no remarks, short names. -/
import Derived.Test.YtebhegkangheiaaGreatDoorOP
import Derived.Test.YtebhegkangheiaaGreatDoorRows
import Derived.WalkKit
import Derived.ProofKit
import Derived.OpenShut
import Derived.LaidMore
import Derived.Stop.Joined
import Derived.SevenTiedAt
import Derived.Test.YtebhegkangheiaaGreatDoorTie
import Derived.Test.YtebhegkangheiaaGreatDoorCards
namespace Go.Proofs.YtebhegkangheiaaGreatDoor.CR
open Go.ChangeShapes Go.WideShapes Go.ChangeAt Go.RowKit
open Go.Ev Go.Ev.tV
theorem own:ownKnob Tryz.prog.godebug=none:=by kernel_rfl
theorem laidOut:laidOutB Tryz.prog=true:=by kernel_rfl
noncomputable def F0:Nat->Option aP:=np Tryz.prog [(38,jQ 39),(215,gR)]
theorem skip {P:Program} {p:Nat×(List V->Hp->Option (V×Hp))} {l:List (Nat×(List V->Hp->Option (V×Hp)))} {n:Nat} (h:n≠p.1):np P (p::l) n=np P l n:=by
 have d:Nat.beq p.1 n=false:=by rw[<-Bool.not_eq_true,Nat.beq_eq];exact fun e=>h e.symm
 simp only[np,d,cond_false]
theorem OI:xt F0:=fun _ o aj=>(skip o).trans (skip aj)
instance OS:Fx F0:=CZ OI
theorem fits:mr Tryz.prog F0:=
 yM _ fun p hp=>by
  simp only[List.mem_cons,List.not_mem_nil,or_false]at hp;rcases hp with rfl|rfl
  ·exact⟨by kernel_rfl,OH⟩
  ·exact⟨by kernel_rfl,FP Tryz.strings_Repeat⟩
def tW {H:Type}:List (String×DataW H):=[("math/bits.deBruijn32tab",Rows.laid_math_bits_deBruijn32tab),("math/bits.deBruijn64tab",Rows.laid_math_bits_deBruijn64tab),("internal/strconv.uint64pow10",Rows.laid_internal_strconv_uint64pow10)]
theorem OJ (os:Os) (args:Array Value):laidMetH Tryz.prog tW ((World.doorLaid Tryz.prog 24 os).forCall (fun _ _=>0) ⟨#[],args,[]⟩).memory:=
 laidMetH_of_parts3 (fuel:=8) (laidMet_of_run' 8 (by kernel_rfl) (by kernel_rfl)) (by kernel_rfl) (by kernel_rfl)
theorem Rj {a:Int} (h:(decide (IntKind.min .u8<=a)&&decide (a<=IntKind.max .u8))=true):0<=a/\a<=255:=by
 simp only[Bool.and_eq_true,decide_eq_true_eq]at h;exact h
set_option maxRecDepth 100000 in
theorem lifted (os:Os) (started:os.Started) (H:Type) (enc:TypeId×Value->H):
 ReturnsInHanded {} Tryz.checked os 4 .any (fun w args=>(Rows.liveOnceSpec.pre enc Tryz.prog Tryz.f4 [] false w args/\laidMetH Tryz.prog tW w)/\sizedMet enc Tryz.prog Tryz.f4 (OpenSpec.ofChange Rows.liveOnceSpec) false w args)
  (Rows.liveOnceSpec.post enc Tryz.prog Tryz.f4 false true false false):=by
 refine returnsInHanded_of_change_and (C:=Tryz.checked) (X:=fun w _=>laidMetH Tryz.prog tW w) (fun _ _ _ ab h=>h.of_heap ab) own started (by kernel_rfl) Tryz.func4
  (ChangeSpec.witness_shaped (enc:=enc) (C:=Tryz.checked) (os:=os) (X:=fun w _=>laidMetH Tryz.prog tW w) false (World.doorLaid Tryz.prog 24 os) #[.slice none 0 0,.int .u8 0,.agg #[.int .u8 0,.int .u8 0,.int .u8 0,.int .u8 0,.int .u8 0,.int .u8 0,.int .u8 0,.int .u8 0]] 8 rfl (World.shaped_of_RefB (by kernel_rfl) (by kernel_rfl)) (by kernel_rfl) (by kernel_rfl) (by kernel_rfl) (OJ os _)) ?_
 intro W base args ds aB before R M _ _ _ _;have D:∀(j:Nat) t v,Tryz.f4.params[j]? =some t->args[j]? =some v->Value.okWide Tryz.prog W .any base t v:=R;have O:=M;obtain⟨p,q,I,Z,rfl,aD,aE⟩:=M;have A:DataW.TrodAll enc Tryz.prog W 0 (fun _=>true) true Tryz.f4.params.toList args.toList ds p:=I;have L:=A;rw[Tryz.params4]at A D L;obtain⟨v0,aP,ap,av,aI,aL,aC,rfl,rfl,h0,ag⟩:=trodAll_cons A;obtain⟨S,aQ,ar,aw,aJ,aM,rfl,rfl,rfl,o,ah⟩:=trodAll_cons ag;obtain⟨v2,aR,au,ay,aK,aO,rfl,rfl,rfl,aj,ai⟩:=trodAll_cons ah;obtain⟨rfl,rfl,rfl⟩:=trodAll_nil ai;obtain rfl:args=#[v0,S,v2]:=by cases args;simp_all
 obtain⟨rfl,rfl⟩:=trodVars_none Z;obtain⟨al,aF,aV,aU,aH,ak,_,am,de,Y,ac⟩:=Oy (t:=22) (e:=5) Tryz.underlying22 Tryz.underlying5 (by kernel_rfl) (D 0 22 v0 rfl rfl) h0 (aS.start Tryz.prog W) WF.start;obtain⟨G,rfl,az,aA,an⟩:=open_int Tryz.underlying5 (D 1 5 S rfl rfl) o;have aT:=Rj an;obtain⟨U,rfl⟩:∃x:Nat,G=(x:Int):=⟨G.toNat,by omega⟩
 obtain⟨d,ae,rfl⟩:=Ri (by decide) Tryz.underlying70 Tryz.underlying5 (by kernel_rfl) (by kernel_rfl) aj;clear I R;simp only[List.append_nil]at O;have hc:=Nk (P:=Tryz.prog) (F:=F0) names fits (f:=4) (args:=[al,.int .u8 (U:Int),.agg (d.map cz)]) (ce:=[v0,.int .u8 (U:Int),.agg (d.map fun b=>Value.int .u8 (b.toNat:Int)).toArray]) (Fx.h (c:=(B.CV,131,[(pa 6,none)])) rfl) ak (.cons _ _ _ _ am (.cons _ _ _ _ (.int _ _) (.cons _ _ _ _ (.agg _ _ (QZ d)) .nil))) (SH.all ac.wf)
  (Rh (by rfl) (by rfl) (by unfold aa;rw[lI];exact FS.Nj de Y) (by omega) ae)
 refine hc.mono fun e ao ⟨he,Q⟩=>?_;subst he;exact⟨_,rfl,_,[],_,[],_,[],O,trodAll_cons_mk (shut_bool Tryz.underlying4 _) trodAll_mk0,CW laidOut Q (by decide+kernel) L,rfl,Oz Q _,fun h=>by cases h⟩
theorem over:Rows.liveOnceRow.holds Tryz.pinned (OpenSpec.ofChange Rows.liveOnceSpec):=
 OpenClaim.holds_of_wide 4 Tryz.f4 rfl rfl rfl rfl rfl rfl rfl ⟨rfl,rfl,rfl,rfl,rfl⟩ rfl rfl rfl rfl rfl (by kernel_rfl) Tryz.func4 closed
  (of_decide_eq_true (by kernel_rfl)) (by unfold Func.isWrapper;first|(rw[if_pos (by decide+kernel)];kernel_rfl)|(rw[if_neg (by decide+kernel)];exact⟨rfl,rfl⟩))
  (fun os started H enc _=>lifted os started H enc)
theorem OK:Claim7.holds Tryz.pinned (.plain (OpenSpec.ofChange Rows.liveOnceSpec)) Rows.liveOnceCard:=
 Claim7.holds_tied_plain_at .later [] [.data,.data,.data] true Rows.liveOnceCard.stood.harness true
  over (fun _ h=>by cases h) Ps (fun _ h=>by cases h) liveOnce_row_tie rfl ⟨rfl,rfl⟩ Pt rfl
  (fun f fn o A=>by
    obtain rfl:f=4:=Option.some.inj (Pw.symm.trans o)|>.symm;obtain rfl:fn=Tryz.f4:=(Option.some.inj (Tryz.func4.symm.trans A)).symm;exact⟨Pu,fun j t ht=>by
     rw[Tryz.params4]at ht;have hm:t∈[22,5,70]:=by simpa using Array.mem_of_getElem? ht
     have d:([22,5,70].all fun u=>!Tryz.prog.wantsStandIn u)=true:=by kernel_rfl
     exact(show Tryz.prog.wantsStandIn t=false by simpa using List.all_eq_true.1 d t hm)⟩)
  Pv
end Go.Proofs.YtebhegkangheiaaGreatDoor.CR
namespace Go.Proofs.YtebhegkangheiaaGreatDoor
theorem liveOnce_holds:Rows.LiveOnceCardSaid:=CR.OK
#print axioms liveOnce_holds
end Go.Proofs.YtebhegkangheiaaGreatDoor
