/- For every input, laws.FnShardTick of the given program returns true, and its argument and the variables that the row names read afterwards as before. Conditions: those of the given row (the listed package-level variables hold what the text of the program lays, which the given tie shows; the input fits the memory of the machine) and those of the model. The repository of the seat is a pruned copy: the tie says nothing of other packages. -/
import Derived.Test.YtfnlbejcgjlclaaGreatDoorTie
import Derived.Test.YtfnlbejcgjlclaaGreatDoorJ
import Derived.Test.YtfnlbejcgjlclaaGreatDoorK
import Derived.Test.YtfnlbejcgjlclaaGreatDoorL
import Derived.Test.YtfnlbejcgjlclaaGreatDoorM
set_option linter.all false
namespace Go.Proofs.YtfnlbejcgjlclaaGreatDoor
open Go
section
set_option maxRecDepth 100000
theorem closed:joinedFacts Tryz.prog 3 Tryz.f3 Rows.fnShardTickSpec Rows.fnShardTickRow=true:=by
 have a:=cf4;have b:=cg1;have c:=cg3;have d:=cg6;have e:=cg7;simp only[bo] at a b c d e;simp only[joinedFacts,bo];obtain⟨⟨⟨⟨⟨a1,a2⟩,a3⟩,a4⟩,a5⟩,a6⟩:=a;obtain⟨⟨⟨⟨⟨⟨⟨⟨b1,b2⟩,b3⟩,b4⟩,b5⟩,b6⟩,b7⟩,b8⟩,b9⟩:=b;exact⟨⟨⟨⟨⟨⟨⟨⟨⟨⟨⟨⟨⟨⟨⟨⟨⟨⟨⟨⟨⟨⟨⟨⟨⟨⟨⟨⟨⟨⟨⟨cf1,cf2⟩,cf3⟩,a1⟩,a2⟩,a3⟩,a4⟩,a5⟩,a6⟩,cf5⟩,cf6⟩,cf7⟩,cf8⟩,b1⟩,b2⟩,b3⟩,b4⟩,b5⟩,b6⟩,b7⟩,b8⟩,b9⟩,cg2⟩,c.1⟩,c.2⟩,cg4⟩,cg5⟩,d.1.1⟩,d.1.2⟩,d.2⟩,e.1⟩,e.2⟩
theorem anF:Rows.FnShardTickSaid:=OpenClaim.holds_of_wide 3 Tryz.f3 rfl rfl rfl rfl rfl rfl rfl ⟨rfl,rfl,rfl,rfl,rfl⟩ rfl rfl rfl rfl rfl cf_fn Tryz.func3 closed (ef cg8) cg9 (λos started H enc _=>amm os started H enc)
end
section
set_option maxRecDepth 100000
theorem card_holds:Rows.FnShardTickCardSaid:=
 Claim7.holds_tied_plain_at .later [] [.data,.data,.data,.data,.sentinel,.sentinel,.data,.data,.pinned] true (true,"945f7f02e01cbb24168148251c3e724265fb8d99b2dcdc92ff608c13eeceee1c") true
  anF (λ_ h=>by cases h) ci1 (λ_ h=>by cases h) fnShardTick_row_tie rfl ⟨rfl,rfl⟩ ci2 rfl
  (λf fn hf n4=>by
    obtain rfl:f=3:=gB (cf_fn.symm.trans hf)|>.symm
    obtain rfl:fn=Tryz.f3:=(gB (Tryz.func3.symm.trans n4)).symm
    exact⟨ci3,λj t ht=>by
     rw[Tryz.params3] at ht
     have h3:t=22:=by
      rcases j with _|j
      ·simpa using ht.symm
      ·simp at ht
     subst h3
     exact ci4⟩)
  ci5
end
end Go.Proofs.YtfnlbejcgjlclaaGreatDoor
