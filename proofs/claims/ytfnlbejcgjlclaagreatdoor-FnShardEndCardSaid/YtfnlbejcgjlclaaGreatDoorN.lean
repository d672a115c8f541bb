/- For every input, laws.FnShardEnd of the given program returns true, and its argument and the variables that the row names read afterwards as before. Conditions: those of the given row (the listed variables hold what the program lays; the input fits the machine) and of the model. The tie is to a pruned copy of the repository. -/
import Derived.Test.YtfnlbejcgjlclaaGreatDoorJ
import Derived.Test.YtfnlbejcgjlclaaGreatDoorK
import Derived.Test.YtfnlbejcgjlclaaGreatDoorL
import Derived.Test.YtfnlbejcgjlclaaGreatDoorM
import Derived.Test.YtfnlbejcgjlclaaGreatDoorP
set_option linter.all false
namespace Go.Proofs.YtfnlbejcgjlclaaGreatDoor
open Go
section
set_option maxRecDepth 100000
theorem closed:joinedFacts Tryz.prog 5 Tryz.f5 Rows.fnShardEndSpec Rows.fnShardEndRow=true:=by
 have a:=cf4;have b:=cg1;have c:=cg3;have d:=cg6;have e:=cg7;simp only[dF] at a b c d e;simp only[joinedFacts,dF];obtain⟨⟨⟨⟨⟨j,u⟩,x⟩,y⟩,A⟩,C⟩:=a;obtain⟨⟨⟨⟨⟨⟨⟨⟨D,E⟩,F⟩,H⟩,I⟩,J⟩,M⟩,N⟩,P⟩:=b;exact⟨⟨⟨⟨⟨⟨⟨⟨⟨⟨⟨⟨⟨⟨⟨⟨⟨⟨⟨⟨⟨⟨⟨⟨⟨⟨⟨⟨⟨⟨⟨cf1,cf2⟩,cf3⟩,j⟩,u⟩,x⟩,y⟩,A⟩,C⟩,cf5⟩,cf6⟩,cf7⟩,cf8⟩,D⟩,E⟩,F⟩,H⟩,I⟩,J⟩,M⟩,N⟩,P⟩,cg2⟩,c.1⟩,c.2⟩,cg4⟩,cg5⟩,d.1.1⟩,d.1.2⟩,d.2⟩,e.1⟩,e.2⟩
theorem acv:Rows.FnShardEndSaid:=OpenClaim.holds_of_wide 5 Tryz.f5 rfl rfl rfl rfl rfl rfl rfl ⟨rfl,rfl,rfl,rfl,rfl⟩ rfl rfl rfl rfl rfl cf_fn Tryz.func5 closed (fG cg8) cg9 (λe a H enc _=>abd e a H enc)
end
section
set_option maxRecDepth 100000
theorem card_holds:Rows.FnShardEndCardSaid:=
 Claim7.holds_tied_plain_at .later [] [.data,.data,.data,.data,.sentinel,.sentinel,.data,.data,.pinned] true (true,"945f7f02e01cbb24168148251c3e724265fb8d99b2dcdc92ff608c13eeceee1c") true
  acv (λ_ h=>by cases h) ci1 (λ_ h=>by cases h) afB rfl ⟨rfl,rfl⟩ ci2 rfl
  (λf u x a=>by
    obtain rfl:f=5:=gV (cf_fn.symm.trans x)|>.symm
    obtain rfl:u=Tryz.f5:=(gV (Tryz.func5.symm.trans a)).symm
    exact⟨ci3,λj t e=>by
     rw[Tryz.params5] at e
     have y:t=22:=by
      rcases j with _|j
      ·simpa using e.symm
      ·simp at e
     subst y
     exact ci4⟩)
  ci5
end
end Go.Proofs.YtfnlbejcgjlclaaGreatDoor
