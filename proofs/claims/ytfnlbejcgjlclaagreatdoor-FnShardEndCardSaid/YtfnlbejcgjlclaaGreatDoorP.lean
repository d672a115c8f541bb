/- The tie of the row. -/
import Derived.LaidByTextLater
import Derived.SevenTiedAt
import Derived.LaidSub
import Derived.LaidOnce
import Derived.Test.YtfnlbejcgjlclaaGreatDoorO
set_option linter.all false
namespace Go.Proofs.YtfnlbejcgjlclaaGreatDoor
open Go
section
set_option maxRecDepth 100000
theorem ahU:Tryz.prog.laidByTextLater (nW.take 8) [.data,.data,.data,.data,.sentinel,.sentinel,.data,.data] true:=Program.laidByTextLater_by_one 82 8 65 (by kernel_rfl) (by kernel_rfl) (by kernel_rfl) (by kernel_rfl) (by kernel_rfl) (by kernel_rfl) (λ_ _=>by kernel_rfl)
theorem C4:Tryz.pinned.checked.prog.headLifts.contains "ownunsafe" =false:=by kernel_rfl
theorem aht:Tryz.pinned.checked.prog.listedFits nW=true:=by
 unfold Program.listedFits;rw[C4];kernel_rfl
theorem afB:Rows.fnShardEndRow.laidByTextAt .later Tryz.pinned [.data,.data,.data,.data,.sentinel,.sentinel,.data,.data,.pinned] true:=
 OpenClaim.laidByTextAt_pinned rfl rfl ahU rfl rfl rfl rfl (λy a e=>by
  simp only[Rows.fnShardEndRow,List.zip_cons_cons,List.zip_nil_right,eG,List.mem_nil_iff,l8] at a
  rcases a with rfl|rfl|rfl|rfl|rfl|rfl|rfl|rfl|rfl
  all_goals first|(cases e;done)|exact⟨by kernel_rfl,by kernel_rfl⟩) aht
end
end Go.Proofs.YtfnlbejcgjlclaaGreatDoor
