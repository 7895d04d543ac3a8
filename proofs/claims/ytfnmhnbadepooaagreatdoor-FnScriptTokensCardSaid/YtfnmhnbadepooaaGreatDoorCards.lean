/-
  DERIVED. GIVEN WITH THE SEED: THE CARDS: each row of YtfnmhnbadepooaaGreatDoorRows.lean that lists a variable, with what it lists TIED to the program's text (the seventh form; the later family's looks); each row that meets fmt, with fmt's text TOLD by the authors' own Lean function (tested against real Go, not proved from fmt's source: count such statements apart). THE CARD IS WHAT COUNTS. Prove the row's statement (the work); the ties are given (YtfnmhnbadepooaaGreatDoorTie.lean); close each card by the builder's one call (the guide's Derived/Test/ToyasCard.lean, 'card_holds'). Laid BY PROGRAM, IN A SANDBOX (cutbox-door.mjs). By AI agents, Wed Nov 11 2026. No macro, syntax, notation, axiom, sorry.
-/
import Derived.Test.YtfnmhnbadepooaaGreatDoorRows
import GoSem.ClaimSeven
namespace Go.Proofs.YtfnmhnbadepooaaGreatDoor
namespace Rows

/-- THE TIED CARD OF 'laws.FnScriptTurn'. -/
def fnScriptTurnCard : Claim7 := { stood := { row := fnScriptTurnRow, standIns := [], harness := (true, "46b99c6b9e53c08687afce1d6c474fbe39d83ec9cbaf74abb5c4c5ca58582252"), looks := false }, kinds := [], alts := [], laidByText := true, laidKinds := [.data, .data, .data, .data, .pinned], laidTests := true, laidLooks := .later }
def FnScriptTurnCardSaid : Prop := Claim7.holds Tryz.pinned (.plain (OpenSpec.ofChange fnScriptTurnSpec)) fnScriptTurnCard

/-- THE TIED CARD OF 'laws.FnScriptCut'. -/
def fnScriptCutCard : Claim7 := { stood := { row := fnScriptCutRow, standIns := [], harness := (true, "46b99c6b9e53c08687afce1d6c474fbe39d83ec9cbaf74abb5c4c5ca58582252"), looks := false }, kinds := [], alts := [], laidByText := true, laidKinds := [.data, .data, .data, .data, .pinned], laidTests := true, laidLooks := .later }
def FnScriptCutCardSaid : Prop := Claim7.holds Tryz.pinned (.plain (OpenSpec.ofChange fnScriptCutSpec)) fnScriptCutCard

/-- THE TIED CARD OF 'laws.FnScriptTwice'. -/
def fnScriptTwiceCard : Claim7 := { stood := { row := fnScriptTwiceRow, standIns := [], harness := (true, "46b99c6b9e53c08687afce1d6c474fbe39d83ec9cbaf74abb5c4c5ca58582252"), looks := false }, kinds := [], alts := [], laidByText := true, laidKinds := [.data, .data, .data, .data, .pinned], laidTests := true, laidLooks := .later }
def FnScriptTwiceCardSaid : Prop := Claim7.holds Tryz.pinned (.plain (OpenSpec.ofChange fnScriptTwiceSpec)) fnScriptTwiceCard

/-- THE TIED CARD OF 'laws.FnExactExecute'. -/
def fnExactExecuteCard : Claim7 := { stood := { row := fnExactExecuteRow, standIns := [], harness := (true, "46b99c6b9e53c08687afce1d6c474fbe39d83ec9cbaf74abb5c4c5ca58582252"), looks := false }, kinds := [], alts := [], laidByText := true, laidKinds := [.data, .data, .data, .data, .pinned], laidTests := true, laidLooks := .later }
def FnExactExecuteCardSaid : Prop := Claim7.holds Tryz.pinned (.plain (OpenSpec.ofChange fnExactExecuteSpec)) fnExactExecuteCard

/-- THE TIED CARD OF 'laws.FnScript'. -/
def fnScriptCard : Claim7 := { stood := { row := fnScriptRow, standIns := [], harness := (true, "46b99c6b9e53c08687afce1d6c474fbe39d83ec9cbaf74abb5c4c5ca58582252"), looks := false }, kinds := [], alts := [], laidByText := true, laidKinds := [.data, .data, .data, .data, .pinned], laidTests := true, laidLooks := .later }
def FnScriptCardSaid : Prop := Claim7.holds Tryz.pinned (.plain (OpenSpec.ofChange fnScriptSpec)) fnScriptCard

/-- THE TIED CARD OF 'laws.FnScriptBad'. -/
def fnScriptBadCard : Claim7 := { stood := { row := fnScriptBadRow, standIns := [], harness := (true, "46b99c6b9e53c08687afce1d6c474fbe39d83ec9cbaf74abb5c4c5ca58582252"), looks := false }, kinds := [], alts := [], laidByText := true, laidKinds := [.data, .data, .data, .data, .pinned], laidTests := true, laidLooks := .later }
def FnScriptBadCardSaid : Prop := Claim7.holds Tryz.pinned (.plain (OpenSpec.ofChange fnScriptBadSpec)) fnScriptBadCard

/-- THE TIED CARD OF 'laws.FnScriptPack'. -/
def fnScriptPackCard : Claim7 := { stood := { row := fnScriptPackRow, standIns := [], harness := (true, "46b99c6b9e53c08687afce1d6c474fbe39d83ec9cbaf74abb5c4c5ca58582252"), looks := false }, kinds := [], alts := [], laidByText := true, laidKinds := [.data, .data, .data, .data, .pinned], laidTests := true, laidLooks := .later }
def FnScriptPackCardSaid : Prop := Claim7.holds Tryz.pinned (.plain (OpenSpec.ofChange fnScriptPackSpec)) fnScriptPackCard

/-- THE TIED CARD OF 'laws.FnScriptRuns'. -/
def fnScriptRunsCard : Claim7 := { stood := { row := fnScriptRunsRow, standIns := [], harness := (true, "46b99c6b9e53c08687afce1d6c474fbe39d83ec9cbaf74abb5c4c5ca58582252"), looks := false }, kinds := [], alts := [], laidByText := true, laidKinds := [.data, .data, .data, .data, .pinned], laidTests := true, laidLooks := .later }
def FnScriptRunsCardSaid : Prop := Claim7.holds Tryz.pinned (.plain (OpenSpec.ofChange fnScriptRunsSpec)) fnScriptRunsCard

/-- THE TIED CARD OF 'laws.FnScriptTokens'. -/
def fnScriptTokensCard : Claim7 := { stood := { row := fnScriptTokensRow, standIns := [], harness := (true, "46b99c6b9e53c08687afce1d6c474fbe39d83ec9cbaf74abb5c4c5ca58582252"), looks := false }, kinds := [], alts := [], laidByText := true, laidKinds := [.data, .data, .data, .data, .pinned], laidTests := true, laidLooks := .later }
def FnScriptTokensCardSaid : Prop := Claim7.holds Tryz.pinned (.plain (OpenSpec.ofChange fnScriptTokensSpec)) fnScriptTokensCard

/-- THE SECOND FORM's CARD OF 'laws.FnScriptTurn'. -/
def fnScriptTurnUptoCard : Claim7 := { stood := { row := fnScriptTurnUptoRow, standIns := [], harness := (true, "46b99c6b9e53c08687afce1d6c474fbe39d83ec9cbaf74abb5c4c5ca58582252"), looks := false }, kinds := [], alts := [], laidByText := true, laidKinds := [.data, .data, .data, .data, .pinned], laidTests := true, laidLooks := .later }
def FnScriptTurnUptoCardSaid : Prop := Claim7.holds Tryz.pinned (.plain (OpenSpec.upto fnScriptTurnSpec)) fnScriptTurnUptoCard

/-- THE SECOND FORM's CARD OF 'laws.FnScriptCut'. -/
def fnScriptCutUptoCard : Claim7 := { stood := { row := fnScriptCutUptoRow, standIns := [], harness := (true, "46b99c6b9e53c08687afce1d6c474fbe39d83ec9cbaf74abb5c4c5ca58582252"), looks := false }, kinds := [], alts := [], laidByText := true, laidKinds := [.data, .data, .data, .data, .pinned], laidTests := true, laidLooks := .later }
def FnScriptCutUptoCardSaid : Prop := Claim7.holds Tryz.pinned (.plain (OpenSpec.upto fnScriptCutSpec)) fnScriptCutUptoCard

/-- THE SECOND FORM's CARD OF 'laws.FnScriptTwice'. -/
def fnScriptTwiceUptoCard : Claim7 := { stood := { row := fnScriptTwiceUptoRow, standIns := [], harness := (true, "46b99c6b9e53c08687afce1d6c474fbe39d83ec9cbaf74abb5c4c5ca58582252"), looks := false }, kinds := [], alts := [], laidByText := true, laidKinds := [.data, .data, .data, .data, .pinned], laidTests := true, laidLooks := .later }
def FnScriptTwiceUptoCardSaid : Prop := Claim7.holds Tryz.pinned (.plain (OpenSpec.upto fnScriptTwiceSpec)) fnScriptTwiceUptoCard

/-- THE SECOND FORM's CARD OF 'laws.FnExactExecute'. -/
def fnExactExecuteUptoCard : Claim7 := { stood := { row := fnExactExecuteUptoRow, standIns := [], harness := (true, "46b99c6b9e53c08687afce1d6c474fbe39d83ec9cbaf74abb5c4c5ca58582252"), looks := false }, kinds := [], alts := [], laidByText := true, laidKinds := [.data, .data, .data, .data, .pinned], laidTests := true, laidLooks := .later }
def FnExactExecuteUptoCardSaid : Prop := Claim7.holds Tryz.pinned (.plain (OpenSpec.upto fnExactExecuteSpec)) fnExactExecuteUptoCard

/-- THE SECOND FORM's CARD OF 'laws.FnScript'. -/
def fnScriptUptoCard : Claim7 := { stood := { row := fnScriptUptoRow, standIns := [], harness := (true, "46b99c6b9e53c08687afce1d6c474fbe39d83ec9cbaf74abb5c4c5ca58582252"), looks := false }, kinds := [], alts := [], laidByText := true, laidKinds := [.data, .data, .data, .data, .pinned], laidTests := true, laidLooks := .later }
def FnScriptUptoCardSaid : Prop := Claim7.holds Tryz.pinned (.plain (OpenSpec.upto fnScriptSpec)) fnScriptUptoCard

/-- THE SECOND FORM's CARD OF 'laws.FnScriptBad'. -/
def fnScriptBadUptoCard : Claim7 := { stood := { row := fnScriptBadUptoRow, standIns := [], harness := (true, "46b99c6b9e53c08687afce1d6c474fbe39d83ec9cbaf74abb5c4c5ca58582252"), looks := false }, kinds := [], alts := [], laidByText := true, laidKinds := [.data, .data, .data, .data, .pinned], laidTests := true, laidLooks := .later }
def FnScriptBadUptoCardSaid : Prop := Claim7.holds Tryz.pinned (.plain (OpenSpec.upto fnScriptBadSpec)) fnScriptBadUptoCard

/-- THE SECOND FORM's CARD OF 'laws.FnScriptPack'. -/
def fnScriptPackUptoCard : Claim7 := { stood := { row := fnScriptPackUptoRow, standIns := [], harness := (true, "46b99c6b9e53c08687afce1d6c474fbe39d83ec9cbaf74abb5c4c5ca58582252"), looks := false }, kinds := [], alts := [], laidByText := true, laidKinds := [.data, .data, .data, .data, .pinned], laidTests := true, laidLooks := .later }
def FnScriptPackUptoCardSaid : Prop := Claim7.holds Tryz.pinned (.plain (OpenSpec.upto fnScriptPackSpec)) fnScriptPackUptoCard

/-- THE SECOND FORM's CARD OF 'laws.FnScriptRuns'. -/
def fnScriptRunsUptoCard : Claim7 := { stood := { row := fnScriptRunsUptoRow, standIns := [], harness := (true, "46b99c6b9e53c08687afce1d6c474fbe39d83ec9cbaf74abb5c4c5ca58582252"), looks := false }, kinds := [], alts := [], laidByText := true, laidKinds := [.data, .data, .data, .data, .pinned], laidTests := true, laidLooks := .later }
def FnScriptRunsUptoCardSaid : Prop := Claim7.holds Tryz.pinned (.plain (OpenSpec.upto fnScriptRunsSpec)) fnScriptRunsUptoCard

/-- THE SECOND FORM's CARD OF 'laws.FnScriptTokens'. -/
def fnScriptTokensUptoCard : Claim7 := { stood := { row := fnScriptTokensUptoRow, standIns := [], harness := (true, "46b99c6b9e53c08687afce1d6c474fbe39d83ec9cbaf74abb5c4c5ca58582252"), looks := false }, kinds := [], alts := [], laidByText := true, laidKinds := [.data, .data, .data, .data, .pinned], laidTests := true, laidLooks := .later }
def FnScriptTokensUptoCardSaid : Prop := Claim7.holds Tryz.pinned (.plain (OpenSpec.upto fnScriptTokensSpec)) fnScriptTokensUptoCard
end Rows
end Go.Proofs.YtfnmhnbadepooaaGreatDoor
