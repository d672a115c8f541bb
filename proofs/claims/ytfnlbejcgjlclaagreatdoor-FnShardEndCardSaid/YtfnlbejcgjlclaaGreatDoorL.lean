/- Closed facts of the row, the rest. -/
import Derived.Test.YtfnlbejcgjlclaaGreatDoorRows
import Derived.JoinedOf
set_option linter.all false
namespace Go.Proofs.YtfnlbejcgjlclaaGreatDoor
open Go
section
set_option maxRecDepth 100000
def cg1:((Rows.fnShardEndRow.maps==(Tryz.f5.params.toList++Rows.fnShardEndSpec.plain.varTypes Tryz.prog).any (Tryz.prog.mapsRec ·))&&(Rows.fnShardEndRow.ifaces==(Tryz.f5.params.toList++Rows.fnShardEndSpec.plain.varTypes Tryz.prog).any (Tryz.prog.ifacesRec ·))&&(Rows.fnShardEndRow.mapsOut==Tryz.prog.mapsAmong Tryz.f5.resultTypes.toList)&&
 (Rows.fnShardEndRow.loops==(Tryz.f5.params.toList++Rows.fnShardEndSpec.plain.varTypes Tryz.prog).any (Tryz.prog.loopsFrom ·))&&(Rows.fnShardEndRow.wideKeys==(Tryz.f5.params.toList++Rows.fnShardEndSpec.plain.varTypes Tryz.prog++Tryz.f5.resultTypes.toList).any (Tryz.prog.wideKeysFrom ·))&&
 Rows.fnShardEndSpec.vars.all (Tryz.prog.varReadable ·)&&Tryz.f5.resultTypes.all (λt=>Tryz.prog.readableRec t&&decide (t<Tryz.prog.types.size))&&(Rows.fnShardEndRow.ifacesOut==Tryz.f5.resultTypes.toList.any (Tryz.prog.ifacesRec ·))&&(Rows.fnShardEndRow.loopsOut==Tryz.f5.resultTypes.toList.any (Tryz.prog.loopsFrom ·)))=true:=by kernel_rfl
def cg2:(Rows.fnShardEndRow.plainKeys==Tryz.prog.plainKeys)=true:=by kernel_rfl
def cg3:(Rows.fnShardEndRow.shortTexts.isNone&&Tryz.prog.stopsHeard)=true:=by kernel_rfl
def cg4:Tryz.prog.mayEnter=true:=by kernel_rfl
def cg5:(Rows.fnShardEndRow.lifted==Tryz.prog.liftsFinal)=true:=by kernel_rfl
def cg6:((Tryz.prog.make==some Rows.fnShardEndRow.make)&&(Rows.fnShardEndRow.kinds==(if Rows.fnShardEndRow.domain.isEmpty then[] else Tryz.f5.params.toList.map λt=>match Tryz.prog.underlying t with|some (.int k)=>some k|_=>none))&&(Rows.fnShardEndRow.pinned==Rows.fnShardEndRow.pinnedBy))=true:=by kernel_rfl
def cg7:((Rows.fnShardEndRow.veiled==(Tryz.f5.params.toList++Rows.fnShardEndSpec.plain.varTypes Tryz.prog++Tryz.f5.resultTypes.toList).any (Tryz.prog.veiledRec ·))&&Rows.fnShardEndRow.veiledFits Tryz.prog Tryz.f5.params.toList (Tryz.f5.params.toList++Rows.fnShardEndSpec.plain.varTypes Tryz.prog++Tryz.f5.resultTypes.toList))=true:=by kernel_rfl
def cg8:decide (Tryz.f5.isInstance Tryz.prog Rows.fnShardEndRow.origin Rows.fnShardEndRow.targs)=true:=by kernel_rfl
def cg9:Tryz.f5.isWrapper Tryz.prog Rows.fnShardEndRow.wrapper Rows.fnShardEndRow.mainSum:=by unfold Func.isWrapper;first|(rw[if_pos (by decide+kernel)];kernel_rfl)|(rw[if_neg (by decide+kernel)];exact⟨rfl,rfl⟩)
end
end Go.Proofs.YtfnlbejcgjlclaaGreatDoor
