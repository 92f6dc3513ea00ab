import Derived.Test.YtehcaebnijlhgaaGreatDoorRows
import Derived.JoinedOf
import Derived.Test.YtehcaebnijlhgaaGreatDoorM3
set_option linter.all false
set_option maxRecDepth 100000
set_option maxHeartbeats 9000000
namespace Go.Proofs.YtehcaebnijlhgaaGreatDoor
open Go.Eng Tryz
open Go
set_option maxRecDepth 100000
def kH{a b:Bool}(h:a=true)(k:b=true):(a&&b)=true:=by rw[h,k];rfl
def tU:(Rows.topAmendmentsRow.wf (OpenSpec.ofChange Rows.topAmendmentsSpec))=true:=by kernel_rfl
def tT:(laidOutB Tryz.prog)=true:=by kernel_rfl
def tS:(mapsRowed Tryz.prog)=true:=by kernel_rfl
def tR:(Tryz.f4.params.all (Tryz.prog.readableRec ·))=true:=by kernel_rfl
def tQ:(namedTie Tryz.prog Rows.topAmendmentsRow.named Rows.topAmendmentsSpec.vars)=true:=by kernel_rfl
def tP:((Rows.topAmendmentsRow.stops == []))=true:=by kernel_rfl
def tO:((Tryz.prog.stops == []))=true:=by kernel_rfl
def tN:((Rows.topAmendmentsRow.knobs == []))=true:=by kernel_rfl
def tM:((Tryz.prog.stopKnobs == []))=true:=by kernel_rfl
def tL:((Rows.topAmendmentsRow.inPlace==Tryz.prog.inPlace 4))=true:=by kernel_rfl
def s7:((Rows.topAmendmentsRow.unfollowed==Tryz.prog.unfollowed 4))=true:=by kernel_rfl
def sZ:((Rows.topAmendmentsRow.recurses==Tryz.prog.recurses 4))=true:=by kernel_rfl
def sY:((Rows.topAmendmentsRow.named==Tryz.prog.varsNamed 4))=true:=by kernel_rfl
def sX:((Rows.topAmendmentsRow.maps==(Tryz.f4.params.toList++Rows.topAmendmentsSpec.plain.varTypes Tryz.prog).any (Tryz.prog.mapsRec ·)))=true:=by kernel_rfl
def sW:((Rows.topAmendmentsRow.ifaces==(Tryz.f4.params.toList++Rows.topAmendmentsSpec.plain.varTypes Tryz.prog).any (Tryz.prog.ifacesRec ·)))=true:=by kernel_rfl
def sV:((Rows.topAmendmentsRow.mapsOut==Tryz.prog.mapsAmong Tryz.f4.resultTypes.toList))=true:=by kernel_rfl
def sU:((Rows.topAmendmentsRow.loops==(Tryz.f4.params.toList++Rows.topAmendmentsSpec.plain.varTypes Tryz.prog).any (Tryz.prog.loopsFrom ·)))=true:=by kernel_rfl
def sT:((Rows.topAmendmentsRow.wideKeys==(Tryz.f4.params.toList++Rows.topAmendmentsSpec.plain.varTypes Tryz.prog++Tryz.f4.resultTypes.toList).any (Tryz.prog.wideKeysFrom ·)))=true:=by kernel_rfl
def sS:(Rows.topAmendmentsSpec.vars.all (Tryz.prog.varReadable ·))=true:=by kernel_rfl
def sR:(Tryz.f4.resultTypes.all (fun t=>Tryz.prog.readableRec t&&decide (t<Tryz.prog.types.size)))=true:=by kernel_rfl
def sQ:((Rows.topAmendmentsRow.ifacesOut==Tryz.f4.resultTypes.toList.any (Tryz.prog.ifacesRec ·)))=true:=by kernel_rfl
def sP:((Rows.topAmendmentsRow.loopsOut==Tryz.f4.resultTypes.toList.any (Tryz.prog.loopsFrom ·)))=true:=by kernel_rfl
def sO:((Rows.topAmendmentsRow.plainKeys==Tryz.prog.plainKeys))=true:=by kernel_rfl
def sN:(Rows.topAmendmentsRow.shortTexts.isNone)=true:=by kernel_rfl
def sM:(Tryz.prog.stopsHeard)=true:=by kernel_rfl
def sL:(Tryz.prog.mayEnter)=true:=by kernel_rfl
def sK:((Rows.topAmendmentsRow.lifted==Tryz.prog.liftsFinal))=true:=by kernel_rfl
def sJ:((Tryz.prog.make==some Rows.topAmendmentsRow.make))=true:=by kernel_rfl
def sI:((Rows.topAmendmentsRow.kinds==(if Rows.topAmendmentsRow.domain.isEmpty then[]else Tryz.f4.params.toList.map fun t=>match Tryz.prog.underlying t with|some (.int k)=>some k|_=>none)))=true:=by kernel_rfl
def sH:((Rows.topAmendmentsRow.pinned==Rows.topAmendmentsRow.pinnedBy))=true:=by kernel_rfl
def sG:((Rows.topAmendmentsRow.veiled==(Tryz.f4.params.toList++Rows.topAmendmentsSpec.plain.varTypes Tryz.prog++Tryz.f4.resultTypes.toList).any (Tryz.prog.veiledRec ·)))=true:=by kernel_rfl
def sE:(Rows.topAmendmentsRow.veiledFits Tryz.prog Tryz.f4.params.toList (Tryz.f4.params.toList++Rows.topAmendmentsSpec.plain.varTypes Tryz.prog++Tryz.f4.resultTypes.toList))=true:=by kernel_rfl
def vY:joinedFacts Tryz.prog 4 Tryz.f4 Rows.topAmendmentsSpec Rows.topAmendmentsRow=true:=by unfold joinedFacts;exact(kH (kH (kH (kH (kH (kH (kH (kH (kH (kH (kH (kH (kH (kH (kH (kH (kH (kH (kH (kH (kH (kH (kH (kH (kH (kH (kH (kH (kH (kH (kH tU tT) tS) tR) tQ) tP) tO) tN) tM) tL) s7) sZ) sY) sX) sW) sV) sU) sT) sS) sR) sQ) sP) sO) sN) sM) sL) sK) sJ) sI) sH) sG) sE)
end Go.Proofs.YtehcaebnijlhgaaGreatDoor
