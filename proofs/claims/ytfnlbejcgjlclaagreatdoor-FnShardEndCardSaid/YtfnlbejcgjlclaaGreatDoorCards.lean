/-
  DERIVED. GIVEN WITH THE SEED: THE CARDS: each row of YtfnlbejcgjlclaaGreatDoorRows.lean that lists a variable, with what it lists TIED to the program's text (the seventh form; the later family's looks); each row that meets fmt, with fmt's text TOLD by the authors' own Lean function (tested against real Go, not proved from fmt's source: count such statements apart). THE CARD IS WHAT COUNTS. Prove the row's statement (the work); the ties are given (YtfnlbejcgjlclaaGreatDoorTie.lean); close each card by the builder's one call (the guide's Derived/Test/ToyasCard.lean, 'card_holds'). Laid BY PROGRAM, IN A SANDBOX (cutbox-door.mjs). By AI agents, Wed Nov 11 2026. No macro, syntax, notation, axiom, sorry.
-/
import Derived.Test.YtfnlbejcgjlclaaGreatDoorRows
import GoSem.ClaimSeven
namespace Go.Proofs.YtfnlbejcgjlclaaGreatDoor
namespace Rows

/-- THE TIED CARD OF 'laws.FnShardTick'. -/
def fnShardTickCard : Claim7 := { stood := { row := fnShardTickRow, standIns := [], harness := (true, "945f7f02e01cbb24168148251c3e724265fb8d99b2dcdc92ff608c13eeceee1c"), looks := true }, kinds := [], alts := [], laidByText := true, laidKinds := [.data, .data, .data, .data, .sentinel, .sentinel, .data, .data, .pinned], laidTests := true, laidLooks := .later }
def FnShardTickCardSaid : Prop := Claim7.holds Tryz.pinned (.plain (OpenSpec.ofChange fnShardTickSpec)) fnShardTickCard

/-- THE TIED CARD OF 'laws.FnShardRise'. -/
def fnShardRiseCard : Claim7 := { stood := { row := fnShardRiseRow, standIns := [], harness := (true, "945f7f02e01cbb24168148251c3e724265fb8d99b2dcdc92ff608c13eeceee1c"), looks := true }, kinds := [], alts := [], laidByText := true, laidKinds := [.data, .data, .data, .data, .sentinel, .sentinel, .data, .data, .pinned], laidTests := true, laidLooks := .later }
def FnShardRiseCardSaid : Prop := Claim7.holds Tryz.pinned (.plain (OpenSpec.ofChange fnShardRiseSpec)) fnShardRiseCard

/-- THE TIED CARD OF 'laws.FnShardEnd'. -/
def fnShardEndCard : Claim7 := { stood := { row := fnShardEndRow, standIns := [], harness := (true, "945f7f02e01cbb24168148251c3e724265fb8d99b2dcdc92ff608c13eeceee1c"), looks := true }, kinds := [], alts := [], laidByText := true, laidKinds := [.data, .data, .data, .data, .sentinel, .sentinel, .data, .data, .pinned], laidTests := true, laidLooks := .later }
def FnShardEndCardSaid : Prop := Claim7.holds Tryz.pinned (.plain (OpenSpec.ofChange fnShardEndSpec)) fnShardEndCard

/-- THE SECOND FORM's CARD OF 'laws.FnShardTick'. -/
def fnShardTickUptoCard : Claim7 := { stood := { row := fnShardTickUptoRow, standIns := [], harness := (true, "945f7f02e01cbb24168148251c3e724265fb8d99b2dcdc92ff608c13eeceee1c"), looks := true }, kinds := [], alts := [], laidByText := true, laidKinds := [.data, .data, .data, .data, .sentinel, .sentinel, .data, .data, .pinned], laidTests := true, laidLooks := .later }
def FnShardTickUptoCardSaid : Prop := Claim7.holds Tryz.pinned (.plain (OpenSpec.upto fnShardTickSpec)) fnShardTickUptoCard

/-- THE SECOND FORM's CARD OF 'laws.FnShardRise'. -/
def fnShardRiseUptoCard : Claim7 := { stood := { row := fnShardRiseUptoRow, standIns := [], harness := (true, "945f7f02e01cbb24168148251c3e724265fb8d99b2dcdc92ff608c13eeceee1c"), looks := true }, kinds := [], alts := [], laidByText := true, laidKinds := [.data, .data, .data, .data, .sentinel, .sentinel, .data, .data, .pinned], laidTests := true, laidLooks := .later }
def FnShardRiseUptoCardSaid : Prop := Claim7.holds Tryz.pinned (.plain (OpenSpec.upto fnShardRiseSpec)) fnShardRiseUptoCard

/-- THE SECOND FORM's CARD OF 'laws.FnShardEnd'. -/
def fnShardEndUptoCard : Claim7 := { stood := { row := fnShardEndUptoRow, standIns := [], harness := (true, "945f7f02e01cbb24168148251c3e724265fb8d99b2dcdc92ff608c13eeceee1c"), looks := true }, kinds := [], alts := [], laidByText := true, laidKinds := [.data, .data, .data, .data, .sentinel, .sentinel, .data, .data, .pinned], laidTests := true, laidLooks := .later }
def FnShardEndUptoCardSaid : Prop := Claim7.holds Tryz.pinned (.plain (OpenSpec.upto fnShardEndSpec)) fnShardEndUptoCard
end Rows
end Go.Proofs.YtfnlbejcgjlclaaGreatDoor
