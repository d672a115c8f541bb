/- Closed facts of the row. -/
import Derived.Test.YtfnlbejcgjlclaaGreatDoorRows
import Derived.JoinedOf
set_option linter.all false
namespace Go.Proofs.YtfnlbejcgjlclaaGreatDoor
open Go
section
set_option maxRecDepth 100000
theorem cf_fn:Tryz.prog.funcNamed "loop.example/stopover/laws.FnShardRise" =some 4:=by kernel_rfl
theorem cf1:Rows.fnShardRiseRow.wf (OpenSpec.ofChange Rows.fnShardRiseSpec)=true:=by kernel_rfl
theorem cf2:laidOutB Tryz.prog=true:=by kernel_rfl
theorem cf3:mapsRowed Tryz.prog=true:=by kernel_rfl
theorem cf4:(Tryz.f4.params.all (Tryz.prog.readableRec ·)&&namedTie Tryz.prog Rows.fnShardRiseRow.named Rows.fnShardRiseSpec.vars&&(Rows.fnShardRiseRow.stops==[])&&(Tryz.prog.stops==[])&&(Rows.fnShardRiseRow.knobs==[])&&(Tryz.prog.stopKnobs==[]))=true:=by kernel_rfl
theorem cf5:(Rows.fnShardRiseRow.inPlace==Tryz.prog.inPlace 4)=true:=by kernel_rfl
theorem cf6:(Rows.fnShardRiseRow.unfollowed==Tryz.prog.unfollowed 4)=true:=by kernel_rfl
theorem cf7:(Rows.fnShardRiseRow.recurses==Tryz.prog.recurses 4)=true:=by kernel_rfl
theorem cf8:(Rows.fnShardRiseRow.named==Tryz.prog.varsNamed 4)=true:=by kernel_rfl
end
end Go.Proofs.YtfnlbejcgjlclaaGreatDoor
