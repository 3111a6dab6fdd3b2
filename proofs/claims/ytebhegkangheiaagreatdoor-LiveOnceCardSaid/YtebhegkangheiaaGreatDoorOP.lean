/- A part of the proof of glacislaw13.LiveOnce. -/
import Derived.Test.YtebhegkangheiaaGreatDoorOO
import Derived.Test.YtebhegkangheiaaGreatDoorRows
import Derived.WalkKit
import Derived.ProofKit
import Derived.OpenShut
import Derived.Stop.Joined
import Derived.SevenTiedAt
import Derived.Test.YtebhegkangheiaaGreatDoorTie
import Derived.Test.YtebhegkangheiaaGreatDoorCards
namespace Go.Proofs.YtebhegkangheiaaGreatDoor.CR
open Go.ChangeShapes Go.WideShapes Go.ChangeAt Go.RowKit
theorem O4 {a b:Bool} (ha:a=true) (d:b=true):(a&&b)=true:=by rw[ha,d];(try rfl)
theorem Pq:(Rows.liveOnceRow.wf (OpenSpec.ofChange Rows.liveOnceSpec))=true:=by kernel_rfl
theorem eH:(laidOutB Tryz.prog)=true:=by kernel_rfl
theorem Pf:(mapsRowed Tryz.prog)=true:=by kernel_rfl
theorem Pm:(Tryz.f4.params.all (Tryz.prog.readableRec ·))=true:=by kernel_rfl
theorem O9:(namedTie Tryz.prog Rows.liveOnceRow.named Rows.liveOnceSpec.vars)=true:=by kernel_rfl
theorem Po:((Rows.liveOnceRow.stops==[]))=true:=by kernel_rfl
theorem Pe:((Tryz.prog.stops==[]))=true:=by kernel_rfl
theorem Pk:((Rows.liveOnceRow.knobs==[]))=true:=by kernel_rfl
theorem Pc:((Tryz.prog.stopKnobs==[]))=true:=by kernel_rfl
theorem O7:((Rows.liveOnceRow.inPlace==Tryz.prog.inPlace 4))=true:=by kernel_rfl
theorem OU:((Rows.liveOnceRow.unfollowed==Tryz.prog.unfollowed 4))=true:=by kernel_rfl
theorem Pg:((Rows.liveOnceRow.recurses==Tryz.prog.recurses 4))=true:=by kernel_rfl
theorem Ph:((Rows.liveOnceRow.named==Tryz.prog.varsNamed 4))=true:=by kernel_rfl
theorem O6:((Rows.liveOnceRow.maps==(Tryz.f4.params.toList++Rows.liveOnceSpec.plain.varTypes Tryz.prog).any (Tryz.prog.mapsRec ·)))=true:=by kernel_rfl
theorem O0:((Rows.liveOnceRow.ifaces==(Tryz.f4.params.toList++Rows.liveOnceSpec.plain.varTypes Tryz.prog).any (Tryz.prog.ifacesRec ·)))=true:=by kernel_rfl
theorem OX:((Rows.liveOnceRow.mapsOut==Tryz.prog.mapsAmong Tryz.f4.resultTypes.toList))=true:=by kernel_rfl
theorem O3:((Rows.liveOnceRow.loops==(Tryz.f4.params.toList++Rows.liveOnceSpec.plain.varTypes Tryz.prog).any (Tryz.prog.loopsFrom ·)))=true:=by kernel_rfl
theorem O1:((Rows.liveOnceRow.wideKeys==(Tryz.f4.params.toList++Rows.liveOnceSpec.plain.varTypes Tryz.prog++Tryz.f4.resultTypes.toList).any (Tryz.prog.wideKeysFrom ·)))=true:=by kernel_rfl
theorem OY:(Rows.liveOnceSpec.vars.all (Tryz.prog.varReadable ·))=true:=by kernel_rfl
theorem OZ:(Tryz.f4.resultTypes.all (fun t=>Tryz.prog.readableRec t&&decide (t<Tryz.prog.types.size)))=true:=by kernel_rfl
theorem Pb:((Rows.liveOnceRow.ifacesOut==Tryz.f4.resultTypes.toList.any (Tryz.prog.ifacesRec ·)))=true:=by kernel_rfl
theorem Pl:((Rows.liveOnceRow.loopsOut==Tryz.f4.resultTypes.toList.any (Tryz.prog.loopsFrom ·)))=true:=by kernel_rfl
theorem O2:((Rows.liveOnceRow.plainKeys==Tryz.prog.plainKeys))=true:=by kernel_rfl
theorem O5:(Rows.liveOnceRow.shortTexts.isNone)=true:=by kernel_rfl
theorem O8:(Tryz.prog.stopsHeard)=true:=by kernel_rfl
theorem OW:(Tryz.prog.mayEnter)=true:=by kernel_rfl
theorem Pj:((Rows.liveOnceRow.lifted==Tryz.prog.liftsFinal))=true:=by kernel_rfl
theorem Pd:((Tryz.prog.make==some Rows.liveOnceRow.make))=true:=by kernel_rfl
theorem OT:((Rows.liveOnceRow.kinds==(if Rows.liveOnceRow.domain.isEmpty then[]else Tryz.f4.params.toList.map fun t=>match Tryz.prog.underlying t with|some (.int k)=>some k|_=>none)))=true:=by kernel_rfl
theorem Pr:((Rows.liveOnceRow.pinned==Rows.liveOnceRow.pinnedBy))=true:=by kernel_rfl
theorem Pn:((Rows.liveOnceRow.veiled==(Tryz.f4.params.toList++Rows.liveOnceSpec.plain.varTypes Tryz.prog++Tryz.f4.resultTypes.toList).any (Tryz.prog.veiledRec ·)))=true:=by kernel_rfl
theorem Pp:(Rows.liveOnceRow.veiledFits Tryz.prog Tryz.f4.params.toList (Tryz.f4.params.toList++Rows.liveOnceSpec.plain.varTypes Tryz.prog++Tryz.f4.resultTypes.toList))=true:=by kernel_rfl
set_option maxRecDepth 100000 in
theorem closed:joinedFacts Tryz.prog 4 Tryz.f4 Rows.liveOnceSpec Rows.liveOnceRow=true:=by
 delta joinedFacts;exact(O4 (O4 (O4 (O4 (O4 (O4 (O4 (O4 (O4 (O4 (O4 (O4 (O4 (O4 (O4 (O4 (O4 (O4 (O4 (O4 (O4 (O4 (O4 (O4 (O4 (O4 (O4 (O4 (O4 (O4 (O4 Pq eH) Pf) Pm) O9) Po) Pe) Pk) Pc) O7) OU) Pg) Ph) O6) O0) OX) O3) O1) OY) OZ) Pb) Pl) O2) O5) O8) OW) Pj) Pd) OT) Pr) Pn) Pp)
end Go.Proofs.YtebhegkangheiaaGreatDoor.CR
namespace Go.Proofs.YtebhegkangheiaaGreatDoor.CR
open Go.ChangeShapes Go.WideShapes Go.ChangeAt Go.RowKit
theorem Ps:Rows.liveOnceRow.wfByText (OpenSpec.ofChange Rows.liveOnceSpec)=true:=by kernel_rfl
theorem Pt:Tryz.pinned.checked.prog.mainIs=some (Rows.liveOnceCard.stood.harness.1,Rows.liveOnceCard.stood.harness.2.toList):=by kernel_rfl
theorem Pu:true=Tryz.pinned.checked.prog.looks []:=by kernel_rfl
theorem Pv:false=Rows.liveOnceRow.goesBy Tryz.pinned.checked.prog:=by kernel_rfl
theorem Pw:Tryz.prog.funcNamed "glacis/glacislaw13.LiveOnce" =some 4:=by kernel_rfl
end Go.Proofs.YtebhegkangheiaaGreatDoor.CR
