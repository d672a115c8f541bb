/- Closed facts of the row. -/
import Derived.Test.YtfnlbejcgjlclaaGreatDoorRows
import Derived.JoinedOf
set_option linter.all false
namespace Go.Proofs.YtfnlbejcgjlclaaGreatDoor
open Go
section
set_option maxRecDepth 100000
theorem cf_fn:Tryz.prog.funcNamed "loop.example/stopover/laws.FnShardTick" =some 3:=by kernel_rfl
theorem cf1:Rows.fnShardTickRow.wf (OpenSpec.ofChange Rows.fnShardTickSpec)=true:=by kernel_rfl
theorem cf2:laidOutB Tryz.prog=true:=by kernel_rfl
theorem cf3:mapsRowed Tryz.prog=true:=by kernel_rfl
theorem cf4:(Tryz.f3.params.all (Tryz.prog.readableRec ·)&&namedTie Tryz.prog Rows.fnShardTickRow.named Rows.fnShardTickSpec.vars&&(Rows.fnShardTickRow.stops==[])&&(Tryz.prog.stops==[])&&(Rows.fnShardTickRow.knobs==[])&&(Tryz.prog.stopKnobs==[]))=true:=by kernel_rfl
theorem cf5:(Rows.fnShardTickRow.inPlace==Tryz.prog.inPlace 3)=true:=by kernel_rfl
theorem cf6:(Rows.fnShardTickRow.unfollowed==Tryz.prog.unfollowed 3)=true:=by kernel_rfl
theorem cf7:(Rows.fnShardTickRow.recurses==Tryz.prog.recurses 3)=true:=by kernel_rfl
theorem cf8:(Rows.fnShardTickRow.named==Tryz.prog.varsNamed 3)=true:=by kernel_rfl
end
end Go.Proofs.YtfnlbejcgjlclaaGreatDoor
