/- Closed facts of the row. -/
import Derived.Test.YtfnlbejcgjlclaaGreatDoorRows
import Derived.JoinedOf
set_option linter.all false
namespace Go.Proofs.YtfnlbejcgjlclaaGreatDoor
open Go
section
set_option maxRecDepth 100000
def cf_fn:Tryz.prog.funcNamed "loop.example/stopover/laws.FnShardEnd" =some 5:=by kernel_rfl
def cf1:Rows.fnShardEndRow.wf (OpenSpec.ofChange Rows.fnShardEndSpec)=true:=by kernel_rfl
def cf2:laidOutB Tryz.prog=true:=by kernel_rfl
def cf3:mapsRowed Tryz.prog=true:=by kernel_rfl
def cf4:(Tryz.f5.params.all (Tryz.prog.readableRec ·)&&namedTie Tryz.prog Rows.fnShardEndRow.named Rows.fnShardEndSpec.vars&&(Rows.fnShardEndRow.stops==[])&&(Tryz.prog.stops==[])&&(Rows.fnShardEndRow.knobs==[])&&(Tryz.prog.stopKnobs==[]))=true:=by kernel_rfl
def cf5:(Rows.fnShardEndRow.inPlace==Tryz.prog.inPlace 5)=true:=by kernel_rfl
def cf6:(Rows.fnShardEndRow.unfollowed==Tryz.prog.unfollowed 5)=true:=by kernel_rfl
def cf7:(Rows.fnShardEndRow.recurses==Tryz.prog.recurses 5)=true:=by kernel_rfl
def cf8:(Rows.fnShardEndRow.named==Tryz.prog.varsNamed 5)=true:=by kernel_rfl
end
end Go.Proofs.YtfnlbejcgjlclaaGreatDoor
