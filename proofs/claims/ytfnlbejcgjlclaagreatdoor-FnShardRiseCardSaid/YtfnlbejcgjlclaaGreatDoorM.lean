/- Closed facts of the card. -/
import Derived.Test.YtfnlbejcgjlclaaGreatDoorCards
import Derived.SevenTiedAt
set_option linter.all false
namespace Go.Proofs.YtfnlbejcgjlclaaGreatDoor
open Go
section
set_option maxRecDepth 100000
theorem ci1:Rows.fnShardRiseRow.wfByText (OpenSpec.ofChange Rows.fnShardRiseSpec)=true:=by kernel_rfl
theorem ci2:Tryz.pinned.checked.prog.mainIs=some (true,"945f7f02e01cbb24168148251c3e724265fb8d99b2dcdc92ff608c13eeceee1c".toList):=by kernel_rfl
theorem ci3:true=Tryz.pinned.checked.prog.looks []:=by kernel_rfl
theorem ci4:Tryz.prog.wantsStandIn 22=false:=by kernel_rfl
theorem ci5:false=Rows.fnShardRiseRow.goesBy Tryz.pinned.checked.prog:=by kernel_rfl
end
end Go.Proofs.YtfnlbejcgjlclaaGreatDoor
