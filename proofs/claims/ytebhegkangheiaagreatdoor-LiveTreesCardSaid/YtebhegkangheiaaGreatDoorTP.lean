/- A part of the proof of glacislaw13.LiveTrees (made short by a program). -/
import Derived.Test.YtebhegkangheiaaGreatDoorTO
import Derived.Test.YtebhegkangheiaaGreatDoorRows
import Derived.WalkKit
import Derived.ProofKit
import Derived.OpenShut
import Derived.Stop.Joined
import Derived.SevenTiedAt
import Derived.Test.YtebhegkangheiaaGreatDoorTie
import Derived.Test.YtebhegkangheiaaGreatDoorCards
namespace Go.Proofs.YtebhegkangheiaaGreatDoor.CR
open Go.ChangeShapes Go.WideShapes Go.ChangeAt Go.RowKit
theorem O4 {a b:Bool} (ha:a=true) (d:b=true):(a&&b)=true:=by rw[ha,d];(try rfl)
theorem Pq:(Rows.liveTreesRow.wf (OpenSpec.ofChange Rows.liveTreesSpec))=true:=by kernel_rfl
theorem eH:(laidOutB Tryz.prog)=true:=by kernel_rfl
theorem Pf:(mapsRowed Tryz.prog)=true:=by kernel_rfl
theorem Pm:(Tryz.f3.params.all (Tryz.prog.readableRec ·))=true:=by kernel_rfl
theorem O9:(namedTie Tryz.prog Rows.liveTreesRow.named Rows.liveTreesSpec.vars)=true:=by kernel_rfl
theorem Po:((Rows.liveTreesRow.stops==[]))=true:=by kernel_rfl
theorem Pe:((Tryz.prog.stops==[]))=true:=by kernel_rfl
theorem Pk:((Rows.liveTreesRow.knobs==[]))=true:=by kernel_rfl
theorem Pc:((Tryz.prog.stopKnobs==[]))=true:=by kernel_rfl
theorem O7:((Rows.liveTreesRow.inPlace==Tryz.prog.inPlace 3))=true:=by kernel_rfl
theorem OU:((Rows.liveTreesRow.unfollowed==Tryz.prog.unfollowed 3))=true:=by kernel_rfl
theorem Pg:((Rows.liveTreesRow.recurses==Tryz.prog.recurses 3))=true:=by kernel_rfl
theorem Ph:((Rows.liveTreesRow.named==Tryz.prog.varsNamed 3))=true:=by kernel_rfl
theorem O6:((Rows.liveTreesRow.maps==(Tryz.f3.params.toList++Rows.liveTreesSpec.plain.varTypes Tryz.prog).any (Tryz.prog.mapsRec ·)))=true:=by kernel_rfl
theorem O0:((Rows.liveTreesRow.ifaces==(Tryz.f3.params.toList++Rows.liveTreesSpec.plain.varTypes Tryz.prog).any (Tryz.prog.ifacesRec ·)))=true:=by kernel_rfl
theorem OX:((Rows.liveTreesRow.mapsOut==Tryz.prog.mapsAmong Tryz.f3.resultTypes.toList))=true:=by kernel_rfl
theorem O3:((Rows.liveTreesRow.loops==(Tryz.f3.params.toList++Rows.liveTreesSpec.plain.varTypes Tryz.prog).any (Tryz.prog.loopsFrom ·)))=true:=by kernel_rfl
theorem O1:((Rows.liveTreesRow.wideKeys==(Tryz.f3.params.toList++Rows.liveTreesSpec.plain.varTypes Tryz.prog++Tryz.f3.resultTypes.toList).any (Tryz.prog.wideKeysFrom ·)))=true:=by kernel_rfl
theorem OY:(Rows.liveTreesSpec.vars.all (Tryz.prog.varReadable ·))=true:=by kernel_rfl
theorem OZ:(Tryz.f3.resultTypes.all (fun t=>Tryz.prog.readableRec t&&decide (t<Tryz.prog.types.size)))=true:=by kernel_rfl
theorem Pb:((Rows.liveTreesRow.ifacesOut==Tryz.f3.resultTypes.toList.any (Tryz.prog.ifacesRec ·)))=true:=by kernel_rfl
theorem Pl:((Rows.liveTreesRow.loopsOut==Tryz.f3.resultTypes.toList.any (Tryz.prog.loopsFrom ·)))=true:=by kernel_rfl
theorem O2:((Rows.liveTreesRow.plainKeys==Tryz.prog.plainKeys))=true:=by kernel_rfl
theorem O5:(Rows.liveTreesRow.shortTexts.isNone)=true:=by kernel_rfl
theorem O8:(Tryz.prog.stopsHeard)=true:=by kernel_rfl
theorem OW:(Tryz.prog.mayEnter)=true:=by kernel_rfl
theorem Pj:((Rows.liveTreesRow.lifted==Tryz.prog.liftsFinal))=true:=by kernel_rfl
theorem Pd:((Tryz.prog.make==some Rows.liveTreesRow.make))=true:=by kernel_rfl
theorem OT:((Rows.liveTreesRow.kinds==(if Rows.liveTreesRow.domain.isEmpty then[]else Tryz.f3.params.toList.map fun t=>match Tryz.prog.underlying t with|some (.int k)=>some k|_=>none)))=true:=by kernel_rfl
theorem Pr:((Rows.liveTreesRow.pinned==Rows.liveTreesRow.pinnedBy))=true:=by kernel_rfl
theorem Pn:((Rows.liveTreesRow.veiled==(Tryz.f3.params.toList++Rows.liveTreesSpec.plain.varTypes Tryz.prog++Tryz.f3.resultTypes.toList).any (Tryz.prog.veiledRec ·)))=true:=by kernel_rfl
theorem Pp:(Rows.liveTreesRow.veiledFits Tryz.prog Tryz.f3.params.toList (Tryz.f3.params.toList++Rows.liveTreesSpec.plain.varTypes Tryz.prog++Tryz.f3.resultTypes.toList))=true:=by kernel_rfl
set_option maxRecDepth 100000 in
theorem closed:joinedFacts Tryz.prog 3 Tryz.f3 Rows.liveTreesSpec Rows.liveTreesRow=true:=by
 delta joinedFacts;exact(O4 (O4 (O4 (O4 (O4 (O4 (O4 (O4 (O4 (O4 (O4 (O4 (O4 (O4 (O4 (O4 (O4 (O4 (O4 (O4 (O4 (O4 (O4 (O4 (O4 (O4 (O4 (O4 (O4 (O4 (O4 Pq eH) Pf) Pm) O9) Po) Pe) Pk) Pc) O7) OU) Pg) Ph) O6) O0) OX) O3) O1) OY) OZ) Pb) Pl) O2) O5) O8) OW) Pj) Pd) OT) Pr) Pn) Pp)
end Go.Proofs.YtebhegkangheiaaGreatDoor.CR
namespace Go.Proofs.YtebhegkangheiaaGreatDoor.CR
open Go.ChangeShapes Go.WideShapes Go.ChangeAt Go.RowKit
theorem Ps:Rows.liveTreesRow.wfByText (OpenSpec.ofChange Rows.liveTreesSpec)=true:=by kernel_rfl
theorem Pt:Tryz.pinned.checked.prog.mainIs=some (Rows.liveTreesCard.stood.harness.1,Rows.liveTreesCard.stood.harness.2.toList):=by kernel_rfl
theorem Pu:true=Tryz.pinned.checked.prog.looks []:=by kernel_rfl
theorem Pv:false=Rows.liveTreesRow.goesBy Tryz.pinned.checked.prog:=by kernel_rfl
theorem Pw:Tryz.prog.funcNamed "glacis/glacislaw13.LiveTrees" =some 3:=by kernel_rfl
end Go.Proofs.YtebhegkangheiaaGreatDoor.CR
