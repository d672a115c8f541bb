/- Closed facts of the row, the rest. -/
import Derived.Test.YtfnlbejcgjlclaaGreatDoorRows
import Derived.JoinedOf
set_option linter.all false
namespace Go.Proofs.YtfnlbejcgjlclaaGreatDoor
open Go
section
set_option maxRecDepth 100000
theorem cg1:((Rows.fnShardTickRow.maps==(Tryz.f3.params.toList++Rows.fnShardTickSpec.plain.varTypes Tryz.prog).any (Tryz.prog.mapsRec ·))&&(Rows.fnShardTickRow.ifaces==(Tryz.f3.params.toList++Rows.fnShardTickSpec.plain.varTypes Tryz.prog).any (Tryz.prog.ifacesRec ·))&&(Rows.fnShardTickRow.mapsOut==Tryz.prog.mapsAmong Tryz.f3.resultTypes.toList)&&
 (Rows.fnShardTickRow.loops==(Tryz.f3.params.toList++Rows.fnShardTickSpec.plain.varTypes Tryz.prog).any (Tryz.prog.loopsFrom ·))&&(Rows.fnShardTickRow.wideKeys==(Tryz.f3.params.toList++Rows.fnShardTickSpec.plain.varTypes Tryz.prog++Tryz.f3.resultTypes.toList).any (Tryz.prog.wideKeysFrom ·))&&
 Rows.fnShardTickSpec.vars.all (Tryz.prog.varReadable ·)&&Tryz.f3.resultTypes.all (λt=>Tryz.prog.readableRec t&&decide (t<Tryz.prog.types.size))&&(Rows.fnShardTickRow.ifacesOut==Tryz.f3.resultTypes.toList.any (Tryz.prog.ifacesRec ·))&&(Rows.fnShardTickRow.loopsOut==Tryz.f3.resultTypes.toList.any (Tryz.prog.loopsFrom ·)))=true:=by kernel_rfl
theorem cg2:(Rows.fnShardTickRow.plainKeys==Tryz.prog.plainKeys)=true:=by kernel_rfl
theorem cg3:(Rows.fnShardTickRow.shortTexts.isNone&&Tryz.prog.stopsHeard)=true:=by kernel_rfl
theorem cg4:Tryz.prog.mayEnter=true:=by kernel_rfl
theorem cg5:(Rows.fnShardTickRow.lifted==Tryz.prog.liftsFinal)=true:=by kernel_rfl
theorem cg6:((Tryz.prog.make==some Rows.fnShardTickRow.make)&&(Rows.fnShardTickRow.kinds==(if Rows.fnShardTickRow.domain.isEmpty then[] else Tryz.f3.params.toList.map λt=>match Tryz.prog.underlying t with|some (.int k)=>some k|_=>none))&&(Rows.fnShardTickRow.pinned==Rows.fnShardTickRow.pinnedBy))=true:=by kernel_rfl
theorem cg7:((Rows.fnShardTickRow.veiled==(Tryz.f3.params.toList++Rows.fnShardTickSpec.plain.varTypes Tryz.prog++Tryz.f3.resultTypes.toList).any (Tryz.prog.veiledRec ·))&&Rows.fnShardTickRow.veiledFits Tryz.prog Tryz.f3.params.toList (Tryz.f3.params.toList++Rows.fnShardTickSpec.plain.varTypes Tryz.prog++Tryz.f3.resultTypes.toList))=true:=by kernel_rfl
theorem cg8:decide (Tryz.f3.isInstance Tryz.prog Rows.fnShardTickRow.origin Rows.fnShardTickRow.targs)=true:=by kernel_rfl
theorem cg9:Tryz.f3.isWrapper Tryz.prog Rows.fnShardTickRow.wrapper Rows.fnShardTickRow.mainSum:=by unfold Func.isWrapper;first|(rw[if_pos (by decide+kernel)];kernel_rfl)|(rw[if_neg (by decide+kernel)];exact⟨rfl,rfl⟩)
end
end Go.Proofs.YtfnlbejcgjlclaaGreatDoor
