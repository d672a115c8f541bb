/- The row, lifted to all runs. -/
import Derived.Test.YtfnlbejcgjlclaaGreatDoorCards
import Derived.Test.YtfnlbejcgjlclaaGreatDoorO
import Derived.Test.YtfnlbejcgjlclaaGreatDoorF
set_option linter.all false
namespace Go.Proofs.YtfnlbejcgjlclaaGreatDoor
open Go Go.ChangeShapes Go.WideShapes Go.RowKit
open Go.Sd (oW lq)
section
set_option maxRecDepth 100000
theorem aeb:∃n:Nat,2^42<=n:=⟨_,iN _⟩
theorem abd(os:Os)(a:os.Started)(H:Type)(enc:TypeId×Value->H):
  ReturnsInHanded {} Tryz.checked os 5 .any (λw args=>(Rows.fnShardEndSpec.pre enc Tryz.prog Tryz.f5 [] false w args/\laidMetH Tryz.prog nW w)/\sizedMet enc Tryz.prog Tryz.f5 (OpenSpec.ofChange Rows.fnShardEndSpec) false w args)
   (Rows.fnShardEndSpec.post enc Tryz.prog Tryz.f5 false true false false):=by
 refine wrap (C:=Tryz.checked) (X:=λw _=>laidMetH Tryz.prog nW w) (λ_ _ _ A h=>h.of_heap A) own a (by kernel_rfl) Tryz.func5
  (ChangeSpec.witness_shaped (enc:=enc) (C:=Tryz.checked) (os:=os) (X:=λw _=>laidMetH Tryz.prog nW w) false (World.laidAll Tryz.prog os nW) #[.slice none 0 0] 8 (World.laidAll_os _ _ _) (World.shaped_of_ZipB (by kernel_rfl) (by kernel_rfl)) (by kernel_rfl) (by kernel_rfl) (by kernel_rfl)
    (by rw[MakeChecks.laidMetH_plain _ _ _ (by kernel_rfl)];exact laidMet_laidAll _ (by kernel_rfl) (by kernel_rfl))) ?_;intro W j args D E e u hW x F y;obtain⟨n,I⟩:=aeb;exact aea (b:=true) (g:=Ev.Ej n) Tryz.params5 rfl rfl (λ_ _ _=>rfl) (λW J=>(Ev.k59 J n).1) (λN h M=>Ev.ad8 h M I) W j args D E e u hW x F y
end
end Go.Proofs.YtfnlbejcgjlclaaGreatDoor
