/- Closed facts of the row, the rest. -/
import Derived.Test.YtfnlbejcgjlclaaGreatDoorRows
import Derived.JoinedOf
set_option linter.all false
namespace Go.Proofs.YtfnlbejcgjlclaaGreatDoor
open Go
section
set_option maxRecDepth 100000
theorem cg1:((Rows.fnShardRiseRow.maps==(Tryz.f4.params.toList++Rows.fnShardRiseSpec.plain.varTypes Tryz.prog).any (Tryz.prog.mapsRec ·))&&(Rows.fnShardRiseRow.ifaces==(Tryz.f4.params.toList++Rows.fnShardRiseSpec.plain.varTypes Tryz.prog).any (Tryz.prog.ifacesRec ·))&&(Rows.fnShardRiseRow.mapsOut==Tryz.prog.mapsAmong Tryz.f4.resultTypes.toList)&&
 (Rows.fnShardRiseRow.loops==(Tryz.f4.params.toList++Rows.fnShardRiseSpec.plain.varTypes Tryz.prog).any (Tryz.prog.loopsFrom ·))&&(Rows.fnShardRiseRow.wideKeys==(Tryz.f4.params.toList++Rows.fnShardRiseSpec.plain.varTypes Tryz.prog++Tryz.f4.resultTypes.toList).any (Tryz.prog.wideKeysFrom ·))&&
 Rows.fnShardRiseSpec.vars.all (Tryz.prog.varReadable ·)&&Tryz.f4.resultTypes.all (λt=>Tryz.prog.readableRec t&&decide (t<Tryz.prog.types.size))&&(Rows.fnShardRiseRow.ifacesOut==Tryz.f4.resultTypes.toList.any (Tryz.prog.ifacesRec ·))&&(Rows.fnShardRiseRow.loopsOut==Tryz.f4.resultTypes.toList.any (Tryz.prog.loopsFrom ·)))=true:=by kernel_rfl
theorem cg2:(Rows.fnShardRiseRow.plainKeys==Tryz.prog.plainKeys)=true:=by kernel_rfl
theorem cg3:(Rows.fnShardRiseRow.shortTexts.isNone&&Tryz.prog.stopsHeard)=true:=by kernel_rfl
theorem cg4:Tryz.prog.mayEnter=true:=by kernel_rfl
theorem cg5:(Rows.fnShardRiseRow.lifted==Tryz.prog.liftsFinal)=true:=by kernel_rfl
theorem cg6:((Tryz.prog.make==some Rows.fnShardRiseRow.make)&&(Rows.fnShardRiseRow.kinds==(if Rows.fnShardRiseRow.domain.isEmpty then[] else Tryz.f4.params.toList.map λt=>match Tryz.prog.underlying t with|some (.int k)=>some k|_=>none))&&(Rows.fnShardRiseRow.pinned==Rows.fnShardRiseRow.pinnedBy))=true:=by kernel_rfl
theorem cg7:((Rows.fnShardRiseRow.veiled==(Tryz.f4.params.toList++Rows.fnShardRiseSpec.plain.varTypes Tryz.prog++Tryz.f4.resultTypes.toList).any (Tryz.prog.veiledRec ·))&&Rows.fnShardRiseRow.veiledFits Tryz.prog Tryz.f4.params.toList (Tryz.f4.params.toList++Rows.fnShardRiseSpec.plain.varTypes Tryz.prog++Tryz.f4.resultTypes.toList))=true:=by kernel_rfl
theorem cg8:decide (Tryz.f4.isInstance Tryz.prog Rows.fnShardRiseRow.origin Rows.fnShardRiseRow.targs)=true:=by kernel_rfl
theorem cg9:Tryz.f4.isWrapper Tryz.prog Rows.fnShardRiseRow.wrapper Rows.fnShardRiseRow.mainSum:=by unfold Func.isWrapper;first|(rw[if_pos (by decide+kernel)];kernel_rfl)|(rw[if_neg (by decide+kernel)];exact⟨rfl,rfl⟩)
end
end Go.Proofs.YtfnlbejcgjlclaaGreatDoor
