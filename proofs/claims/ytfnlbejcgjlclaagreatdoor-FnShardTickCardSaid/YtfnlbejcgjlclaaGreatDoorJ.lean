/- The row, lifted to all runs. -/
import Derived.Test.YtfnlbejcgjlclaaGreatDoorCards
import Derived.Test.YtfnlbejcgjlclaaGreatDoorTie
import Derived.Test.YtfnlbejcgjlclaaGreatDoorO
import Derived.Test.YtfnlbejcgjlclaaGreatDoorF
set_option linter.all false
namespace Go.Proofs.YtfnlbejcgjlclaaGreatDoor
open Go Go.ChangeShapes Go.WideShapes Go.RowKit
open Go.Sd (qW mg)
section
set_option maxRecDepth 100000
theorem apn:∃n:Nat,2^42<=n:=⟨_,iI _⟩
theorem amm(os:Os)(a:os.Started)(H:Type)(enc:TypeId×Value->H):
  ReturnsInHanded {} Tryz.checked os 3 .any (λw args=>(Rows.fnShardTickSpec.pre enc Tryz.prog Tryz.f3 [] false w args/\laidMetH Tryz.prog rI w)/\sizedMet enc Tryz.prog Tryz.f3 (OpenSpec.ofChange Rows.fnShardTickSpec) false w args)
   (Rows.fnShardTickSpec.post enc Tryz.prog Tryz.f3 false true false false):=by
 refine wrap (C:=Tryz.checked) (X:=λw _=>laidMetH Tryz.prog rI w) (λ_ _ _ u h=>h.of_heap u) own a (by kernel_rfl) Tryz.func3
  (ChangeSpec.witness_shaped (enc:=enc) (C:=Tryz.checked) (os:=os) (X:=λw _=>laidMetH Tryz.prog rI w) false (World.laidAll Tryz.prog os rI) #[.slice none 0 0] 8 (World.laidAll_os _ _ _) (World.shaped_of_ZipB (by kernel_rfl) (by kernel_rfl)) (by kernel_rfl) (by kernel_rfl) (by kernel_rfl)
    (by rw[MakeChecks.laidMetH_plain _ _ _ (by kernel_rfl)];exact laidMet_laidAll _ (by kernel_rfl) (by kernel_rfl))) ?_;intro W base args x y e A hW j D E;obtain⟨n,F⟩:=apn;exact apm (b:=true) (g:=Ev.Jy n) Tryz.params3 rfl rfl (λ_ _ _=>rfl) (λW I=>(Ev.k54 I n).1) (λM h J=>Ev.anE h J F) W base args x y e A hW j D E
end
end Go.Proofs.YtfnlbejcgjlclaaGreatDoor
