/- The row, lifted to all runs. -/
import Derived.Test.YtfnlbejcgjlclaaGreatDoorCards
import Derived.Test.YtfnlbejcgjlclaaGreatDoorTie
import Derived.Test.YtfnlbejcgjlclaaGreatDoorO
import Derived.Test.YtfnlbejcgjlclaaGreatDoorF
set_option linter.all false
namespace Go.Proofs.YtfnlbejcgjlclaaGreatDoor
open Go Go.ChangeShapes Go.WideShapes Go.RowKit
open Go.Sd (ov kO)
section
set_option maxRecDepth 100000
theorem adk:∃n:Nat,2^42<=n:=⟨_,hY _⟩
theorem aai(os:Os)(a:os.Started)(H:Type)(enc:TypeId×Value->H):
  ReturnsInHanded {} Tryz.checked os 4 .any (λw args=>(Rows.fnShardRiseSpec.pre enc Tryz.prog Tryz.f4 [] false w args/\laidMetH Tryz.prog oV w)/\sizedMet enc Tryz.prog Tryz.f4 (OpenSpec.ofChange Rows.fnShardRiseSpec) false w args)
   (Rows.fnShardRiseSpec.post enc Tryz.prog Tryz.f4 false true false false):=by
 refine wrap (C:=Tryz.checked) (X:=λw _=>laidMetH Tryz.prog oV w) (λ_ _ _ A h=>h.of_heap A) own a (by kernel_rfl) Tryz.func4
  (ChangeSpec.witness_shaped (enc:=enc) (C:=Tryz.checked) (os:=os) (X:=λw _=>laidMetH Tryz.prog oV w) false (World.laidAll Tryz.prog os oV) #[.slice none 0 0] 8 (World.laidAll_os _ _ _) (World.shaped_of_ZipB (by kernel_rfl) (by kernel_rfl)) (by kernel_rfl) (by kernel_rfl) (by kernel_rfl)
    (by rw[MakeChecks.laidMetH_plain _ _ _ (by kernel_rfl)];exact laidMet_laidAll _ (by kernel_rfl) (by kernel_rfl))) ?_;intro W j args D E e u hW x F y;obtain⟨n,I⟩:=adk;exact adj (b:=true) (g:=Ev.Dy n) Tryz.params4 rfl rfl (λ_ _ _=>rfl) (λW J=>(Ev.k57 J n).1) (λN h M=>Ev.abw h M I) W j args D E e u hW x F y
end
end Go.Proofs.YtfnlbejcgjlclaaGreatDoor
