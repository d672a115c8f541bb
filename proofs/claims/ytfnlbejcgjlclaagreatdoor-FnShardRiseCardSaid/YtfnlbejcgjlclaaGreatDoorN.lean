/- For every input, laws.FnShardRise of the given program returns true, and its argument and the variables that the row names read afterwards as before. Conditions: those of the given row (the listed package-level variables hold what the text of the program lays, which the given tie shows; the input fits the memory of the machine) and those of the model. The repository of the seat is a pruned copy: the tie says nothing of other packages. -/
import Derived.Test.YtfnlbejcgjlclaaGreatDoorTie
import Derived.Test.YtfnlbejcgjlclaaGreatDoorJ
import Derived.Test.YtfnlbejcgjlclaaGreatDoorK
import Derived.Test.YtfnlbejcgjlclaaGreatDoorL
import Derived.Test.YtfnlbejcgjlclaaGreatDoorM
set_option linter.all false
namespace Go.Proofs.YtfnlbejcgjlclaaGreatDoor
open Go
section
set_option maxRecDepth 100000
theorem closed:joinedFacts Tryz.prog 4 Tryz.f4 Rows.fnShardRiseSpec Rows.fnShardRiseRow=true:=by
 have a:=cf4;have b:=cg1;have c:=cg3;have d:=cg6;have e:=cg7;simp only[du] at a b c d e;simp only[joinedFacts,du];obtain⟨⟨⟨⟨⟨j,u⟩,x⟩,y⟩,A⟩,C⟩:=a;obtain⟨⟨⟨⟨⟨⟨⟨⟨D,E⟩,F⟩,H⟩,I⟩,J⟩,M⟩,N⟩,P⟩:=b;exact⟨⟨⟨⟨⟨⟨⟨⟨⟨⟨⟨⟨⟨⟨⟨⟨⟨⟨⟨⟨⟨⟨⟨⟨⟨⟨⟨⟨⟨⟨⟨cf1,cf2⟩,cf3⟩,j⟩,u⟩,x⟩,y⟩,A⟩,C⟩,cf5⟩,cf6⟩,cf7⟩,cf8⟩,D⟩,E⟩,F⟩,H⟩,I⟩,J⟩,M⟩,N⟩,P⟩,cg2⟩,c.1⟩,c.2⟩,cg4⟩,cg5⟩,d.1.1⟩,d.1.2⟩,d.2⟩,e.1⟩,e.2⟩
theorem abx:Rows.FnShardRiseSaid:=OpenClaim.holds_of_wide 4 Tryz.f4 rfl rfl rfl rfl rfl rfl rfl ⟨rfl,rfl,rfl,rfl,rfl⟩ rfl rfl rfl rfl rfl cf_fn Tryz.func4 closed (fj cg8) cg9 (λe a H enc _=>aai e a H enc)
end
section
set_option maxRecDepth 100000
theorem card_holds:Rows.FnShardRiseCardSaid:=
 Claim7.holds_tied_plain_at .later [] [.data,.data,.data,.data,.sentinel,.sentinel,.data,.data,.pinned] true (true,"945f7f02e01cbb24168148251c3e724265fb8d99b2dcdc92ff608c13eeceee1c") true
  abx (λ_ h=>by cases h) ci1 (λ_ h=>by cases h) fnShardRise_row_tie rfl ⟨rfl,rfl⟩ ci2 rfl
  (λf u x a=>by
    obtain rfl:f=4:=gA (cf_fn.symm.trans x)|>.symm
    obtain rfl:u=Tryz.f4:=(gA (Tryz.func4.symm.trans a)).symm
    exact⟨ci3,λj t e=>by
     rw[Tryz.params4] at e
     have y:t=22:=by
      rcases j with _|j
      ·simpa using e.symm
      ·simp at e
     subst y
     exact ci4⟩)
  ci5
end
end Go.Proofs.YtfnlbejcgjlclaaGreatDoor
