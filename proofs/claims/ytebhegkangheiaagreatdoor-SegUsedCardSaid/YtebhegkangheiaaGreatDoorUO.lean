/- A part of the proof of glacislaw15.SegUsed (made short by a program). -/
import Derived.Test.YtebhegkangheiaaGreatDoorUN
import Derived.Test.YtebhegkangheiaaGreatDoorRows
import Derived.WalkKit
import Derived.ProofKit
import Derived.OpenShut
import Derived.Stop.Joined
import Derived.SevenTiedAt
import Derived.Test.YtebhegkangheiaaGreatDoorTie
import Derived.Test.YtebhegkangheiaaGreatDoorCards
namespace Go.Proofs.YtebhegkangheiaaGreatDoor.C4
open Go.ChangeShapes Go.WideShapes Go.ChangeAt Go.RowKit
theorem O4 {a b:Bool} (ha:a=true) (d:b=true):(a&&b)=true:=by rw[ha,d];(try rfl)
theorem Pq:(Rows.segUsedRow.wf (OpenSpec.ofChange Rows.segUsedSpec))=true:=by kernel_rfl
theorem eH:(laidOutB Tryz.prog)=true:=by kernel_rfl
theorem Pf:(mapsRowed Tryz.prog)=true:=by kernel_rfl
theorem Pm:(Tryz.f5.params.all (Tryz.prog.readableRec ·))=true:=by kernel_rfl
theorem O9:(namedTie Tryz.prog Rows.segUsedRow.named Rows.segUsedSpec.vars)=true:=by kernel_rfl
theorem Po:((Rows.segUsedRow.stops==[]))=true:=by kernel_rfl
theorem Pe:((Tryz.prog.stops==[]))=true:=by kernel_rfl
theorem Pk:((Rows.segUsedRow.knobs==[]))=true:=by kernel_rfl
theorem Pc:((Tryz.prog.stopKnobs==[]))=true:=by kernel_rfl
theorem O7:((Rows.segUsedRow.inPlace==Tryz.prog.inPlace 5))=true:=by kernel_rfl
theorem OU:((Rows.segUsedRow.unfollowed==Tryz.prog.unfollowed 5))=true:=by kernel_rfl
theorem Pg:((Rows.segUsedRow.recurses==Tryz.prog.recurses 5))=true:=by kernel_rfl
theorem Ph:((Rows.segUsedRow.named==Tryz.prog.varsNamed 5))=true:=by kernel_rfl
theorem O6:((Rows.segUsedRow.maps==(Tryz.f5.params.toList++Rows.segUsedSpec.plain.varTypes Tryz.prog).any (Tryz.prog.mapsRec ·)))=true:=by kernel_rfl
theorem O0:((Rows.segUsedRow.ifaces==(Tryz.f5.params.toList++Rows.segUsedSpec.plain.varTypes Tryz.prog).any (Tryz.prog.ifacesRec ·)))=true:=by kernel_rfl
theorem OX:((Rows.segUsedRow.mapsOut==Tryz.prog.mapsAmong Tryz.f5.resultTypes.toList))=true:=by kernel_rfl
theorem O3:((Rows.segUsedRow.loops==(Tryz.f5.params.toList++Rows.segUsedSpec.plain.varTypes Tryz.prog).any (Tryz.prog.loopsFrom ·)))=true:=by kernel_rfl
theorem O1:((Rows.segUsedRow.wideKeys==(Tryz.f5.params.toList++Rows.segUsedSpec.plain.varTypes Tryz.prog++Tryz.f5.resultTypes.toList).any (Tryz.prog.wideKeysFrom ·)))=true:=by kernel_rfl
theorem OY:(Rows.segUsedSpec.vars.all (Tryz.prog.varReadable ·))=true:=by kernel_rfl
theorem OZ:(Tryz.f5.resultTypes.all (fun t=>Tryz.prog.readableRec t&&decide (t<Tryz.prog.types.size)))=true:=by kernel_rfl
theorem Pb:((Rows.segUsedRow.ifacesOut==Tryz.f5.resultTypes.toList.any (Tryz.prog.ifacesRec ·)))=true:=by kernel_rfl
theorem Pl:((Rows.segUsedRow.loopsOut==Tryz.f5.resultTypes.toList.any (Tryz.prog.loopsFrom ·)))=true:=by kernel_rfl
theorem O2:((Rows.segUsedRow.plainKeys==Tryz.prog.plainKeys))=true:=by kernel_rfl
theorem O5:(Rows.segUsedRow.shortTexts.isNone)=true:=by kernel_rfl
theorem O8:(Tryz.prog.stopsHeard)=true:=by kernel_rfl
theorem OW:(Tryz.prog.mayEnter)=true:=by kernel_rfl
theorem Pj:((Rows.segUsedRow.lifted==Tryz.prog.liftsFinal))=true:=by kernel_rfl
theorem Pd:((Tryz.prog.make==some Rows.segUsedRow.make))=true:=by kernel_rfl
theorem OT:((Rows.segUsedRow.kinds==(if Rows.segUsedRow.domain.isEmpty then[]else Tryz.f5.params.toList.map fun t=>match Tryz.prog.underlying t with|some (.int k)=>some k|_=>none)))=true:=by kernel_rfl
theorem Pr:((Rows.segUsedRow.pinned==Rows.segUsedRow.pinnedBy))=true:=by kernel_rfl
theorem Pn:((Rows.segUsedRow.veiled==(Tryz.f5.params.toList++Rows.segUsedSpec.plain.varTypes Tryz.prog++Tryz.f5.resultTypes.toList).any (Tryz.prog.veiledRec ·)))=true:=by kernel_rfl
theorem Pp:(Rows.segUsedRow.veiledFits Tryz.prog Tryz.f5.params.toList (Tryz.f5.params.toList++Rows.segUsedSpec.plain.varTypes Tryz.prog++Tryz.f5.resultTypes.toList))=true:=by kernel_rfl
set_option maxRecDepth 100000 in
theorem closed:joinedFacts Tryz.prog 5 Tryz.f5 Rows.segUsedSpec Rows.segUsedRow=true:=by
 delta joinedFacts;exact(O4 (O4 (O4 (O4 (O4 (O4 (O4 (O4 (O4 (O4 (O4 (O4 (O4 (O4 (O4 (O4 (O4 (O4 (O4 (O4 (O4 (O4 (O4 (O4 (O4 (O4 (O4 (O4 (O4 (O4 (O4 Pq eH) Pf) Pm) O9) Po) Pe) Pk) Pc) O7) OU) Pg) Ph) O6) O0) OX) O3) O1) OY) OZ) Pb) Pl) O2) O5) O8) OW) Pj) Pd) OT) Pr) Pn) Pp)
end Go.Proofs.YtebhegkangheiaaGreatDoor.C4
namespace Go.Proofs.YtebhegkangheiaaGreatDoor.C4
open Go.ChangeShapes Go.WideShapes Go.ChangeAt Go.RowKit
theorem Ps:Rows.segUsedRow.wfByText (OpenSpec.ofChange Rows.segUsedSpec)=true:=by kernel_rfl
theorem Pt:Tryz.pinned.checked.prog.mainIs=some (Rows.segUsedCard.stood.harness.1,Rows.segUsedCard.stood.harness.2.toList):=by kernel_rfl
theorem Pu:true=Tryz.pinned.checked.prog.looks []:=by kernel_rfl
theorem Pv:false=Rows.segUsedRow.goesBy Tryz.pinned.checked.prog:=by kernel_rfl
theorem Pw:Tryz.prog.funcNamed "glacis/glacislaw15.SegUsed" =some 5:=by kernel_rfl
end Go.Proofs.YtebhegkangheiaaGreatDoor.C4
