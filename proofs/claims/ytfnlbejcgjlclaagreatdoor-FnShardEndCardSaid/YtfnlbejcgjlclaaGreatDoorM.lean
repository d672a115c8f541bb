/- Closed facts of the card. -/
import Derived.Test.YtfnlbejcgjlclaaGreatDoorCards
import Derived.SevenTiedAt
set_option linter.all false
namespace Go.Proofs.YtfnlbejcgjlclaaGreatDoor
open Go
section
set_option maxRecDepth 100000
def ci1:Rows.fnShardEndRow.wfByText (OpenSpec.ofChange Rows.fnShardEndSpec)=true:=by kernel_rfl
def ci2:Tryz.pinned.checked.prog.mainIs=some (true,"945f7f02e01cbb24168148251c3e724265fb8d99b2dcdc92ff608c13eeceee1c".toList):=by kernel_rfl
def ci3:true=Tryz.pinned.checked.prog.looks []:=by kernel_rfl
def ci4:Tryz.prog.wantsStandIn 22=false:=by kernel_rfl
def ci5:false=Rows.fnShardEndRow.goesBy Tryz.pinned.checked.prog:=by kernel_rfl
end
end Go.Proofs.YtfnlbejcgjlclaaGreatDoor
