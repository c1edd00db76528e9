/-
  DERIVED. GIVEN WITH THE SEED: THE CARDS: each row of YtelpepbpdojikaaGreatDoorRows.lean that lists a variable, with what it lists TIED to the program's text (the seventh form; the later family's looks); each row that meets fmt, with fmt's text TOLD by the authors' own Lean function (tested against real Go, not proved from fmt's source: count such statements apart). THE CARD IS WHAT COUNTS. Prove the row's statement (the work); the ties are given (YtelpepbpdojikaaGreatDoorTie.lean); close each card by the builder's one call (the guide's Derived/Test/ToyasCard.lean, 'card_holds'). Laid BY PROGRAM, IN A SANDBOX (cutbox-door.mjs). By AI agents, Wed Nov 11 2026. No macro, syntax, notation, axiom, sorry.
-/
import Derived.Test.YtelpepbpdojikaaGreatDoorRows
import GoSem.ClaimSeven
namespace Go.Proofs.YtelpepbpdojikaaGreatDoor
namespace Rows

/-- THE TIED CARD OF 'baulklaw05.PoolReplays'. -/
def poolReplaysCard : Claim7 := { stood := { row := poolReplaysRow, standIns := [], harness := (true, "8d4d00464e2f12f4a3dfbee9b5e22e91dec37309dc53ff522ad7bedfcceb7724"), looks := true }, kinds := [], alts := [], laidByText := true, laidKinds := [.data, .data, .data, .data, .sentinel, .sentinel, .pinned], laidTests := true, laidLooks := .later }
def PoolReplaysCardSaid : Prop := Claim7.holds Tryz.pinned (.plain (OpenSpec.ofChange poolReplaysSpec)) poolReplaysCard

/-- THE TIED CARD OF 'baulklaw05.PoolRuns'. -/
def poolRunsCard : Claim7 := { stood := { row := poolRunsRow, standIns := [], harness := (true, "8d4d00464e2f12f4a3dfbee9b5e22e91dec37309dc53ff522ad7bedfcceb7724"), looks := true }, kinds := [], alts := [], laidByText := true, laidKinds := [.data, .data, .data, .data, .sentinel, .sentinel, .pinned], laidTests := true, laidLooks := .later }
def PoolRunsCardSaid : Prop := Claim7.holds Tryz.pinned (.plain (OpenSpec.ofChange poolRunsSpec)) poolRunsCard

/-- THE TIED CARD OF 'baulklaw05.PoolTexts'. -/
def poolTextsCard : Claim7 := { stood := { row := poolTextsRow, standIns := [], harness := (true, "8d4d00464e2f12f4a3dfbee9b5e22e91dec37309dc53ff522ad7bedfcceb7724"), looks := true }, kinds := [], alts := [], laidByText := true, laidKinds := [.data, .data, .data, .data, .sentinel, .sentinel, .pinned], laidTests := true, laidLooks := .later }
def PoolTextsCardSaid : Prop := Claim7.holds Tryz.pinned (.plain (OpenSpec.ofChange poolTextsSpec)) poolTextsCard

/-- THE TIED CARD OF 'baulklaw05.PoolSums'. -/
def poolSumsCard : Claim7 := { stood := { row := poolSumsRow, standIns := [], harness := (true, "8d4d00464e2f12f4a3dfbee9b5e22e91dec37309dc53ff522ad7bedfcceb7724"), looks := true }, kinds := [], alts := [], laidByText := true, laidKinds := [.data, .data, .data, .data, .sentinel, .sentinel, .pinned], laidTests := true, laidLooks := .later }
def PoolSumsCardSaid : Prop := Claim7.holds Tryz.pinned (.plain (OpenSpec.ofChange poolSumsSpec)) poolSumsCard

/-- THE TIED CARD OF 'baulklaw05.PoolEchoes'. -/
def poolEchoesCard : Claim7 := { stood := { row := poolEchoesRow, standIns := [], harness := (true, "8d4d00464e2f12f4a3dfbee9b5e22e91dec37309dc53ff522ad7bedfcceb7724"), looks := true }, kinds := [], alts := [], laidByText := true, laidKinds := [.data, .data, .data, .data, .sentinel, .sentinel, .pinned], laidTests := true, laidLooks := .later }
def PoolEchoesCardSaid : Prop := Claim7.holds Tryz.pinned (.plain (OpenSpec.ofChange poolEchoesSpec)) poolEchoesCard

/-- THE TIED CARD OF 'baulklaw05.PoolForms'. -/
def poolFormsCard : Claim7 := { stood := { row := poolFormsRow, standIns := [], harness := (true, "8d4d00464e2f12f4a3dfbee9b5e22e91dec37309dc53ff522ad7bedfcceb7724"), looks := true }, kinds := [], alts := [], laidByText := true, laidKinds := [.data, .data, .data, .data, .sentinel, .sentinel, .pinned], laidTests := true, laidLooks := .later }
def PoolFormsCardSaid : Prop := Claim7.holds Tryz.pinned (.plain (OpenSpec.ofChange poolFormsSpec)) poolFormsCard

/-- THE TIED CARD OF 'baulklaw05.PoolNext'. -/
def poolNextCard : Claim7 := { stood := { row := poolNextRow, standIns := [], harness := (true, "8d4d00464e2f12f4a3dfbee9b5e22e91dec37309dc53ff522ad7bedfcceb7724"), looks := true }, kinds := [], alts := [], laidByText := true, laidKinds := [.data, .data, .data, .data, .sentinel, .sentinel, .pinned], laidTests := true, laidLooks := .later }
def PoolNextCardSaid : Prop := Claim7.holds Tryz.pinned (.plain (OpenSpec.ofChange poolNextSpec)) poolNextCard

/-- THE TIED CARD OF 'baulklaw05.PoolRules'. -/
def poolRulesCard : Claim7 := { stood := { row := poolRulesRow, standIns := [], harness := (true, "8d4d00464e2f12f4a3dfbee9b5e22e91dec37309dc53ff522ad7bedfcceb7724"), looks := true }, kinds := [], alts := [], laidByText := true, laidKinds := [.data, .data, .data, .data, .sentinel, .sentinel, .pinned], laidTests := true, laidLooks := .later }
def PoolRulesCardSaid : Prop := Claim7.holds Tryz.pinned (.plain (OpenSpec.ofChange poolRulesSpec)) poolRulesCard

/-- THE TIED CARD OF 'baulklaw05.PoolKept'. -/
def poolKeptCard : Claim7 := { stood := { row := poolKeptRow, standIns := [], harness := (true, "8d4d00464e2f12f4a3dfbee9b5e22e91dec37309dc53ff522ad7bedfcceb7724"), looks := true }, kinds := [], alts := [], laidByText := true, laidKinds := [.data, .data, .data, .data, .sentinel, .sentinel, .pinned], laidTests := true, laidLooks := .later }
def PoolKeptCardSaid : Prop := Claim7.holds Tryz.pinned (.plain (OpenSpec.ofChange poolKeptSpec)) poolKeptCard

/-- THE TIED CARD OF 'baulklaw05.PoolSteps'. -/
def poolStepsCard : Claim7 := { stood := { row := poolStepsRow, standIns := [], harness := (true, "8d4d00464e2f12f4a3dfbee9b5e22e91dec37309dc53ff522ad7bedfcceb7724"), looks := true }, kinds := [], alts := [], laidByText := true, laidKinds := [.data, .data, .data, .data, .sentinel, .sentinel, .pinned], laidTests := true, laidLooks := .later }
def PoolStepsCardSaid : Prop := Claim7.holds Tryz.pinned (.plain (OpenSpec.ofChange poolStepsSpec)) poolStepsCard

/-- THE TIED CARD OF 'baulklaw05.PoolCorrects'. -/
def poolCorrectsCard : Claim7 := { stood := { row := poolCorrectsRow, standIns := [], harness := (true, "8d4d00464e2f12f4a3dfbee9b5e22e91dec37309dc53ff522ad7bedfcceb7724"), looks := true }, kinds := [], alts := [], laidByText := true, laidKinds := [.data, .data, .data, .data, .sentinel, .sentinel, .pinned], laidTests := true, laidLooks := .later }
def PoolCorrectsCardSaid : Prop := Claim7.holds Tryz.pinned (.plain (OpenSpec.ofChange poolCorrectsSpec)) poolCorrectsCard

/-- THE TIED CARD OF 'baulklaw05.PoolAudits'. -/
def poolAuditsCard : Claim7 := { stood := { row := poolAuditsRow, standIns := [], harness := (true, "8d4d00464e2f12f4a3dfbee9b5e22e91dec37309dc53ff522ad7bedfcceb7724"), looks := true }, kinds := [], alts := [], laidByText := true, laidKinds := [.data, .data, .data, .data, .sentinel, .sentinel, .pinned], laidTests := true, laidLooks := .later }
def PoolAuditsCardSaid : Prop := Claim7.holds Tryz.pinned (.plain (OpenSpec.ofChange poolAuditsSpec)) poolAuditsCard

/-- THE SECOND FORM's CARD OF 'baulklaw05.PoolReplays'. -/
def poolReplaysUptoCard : Claim7 := { stood := { row := poolReplaysUptoRow, standIns := [], harness := (true, "8d4d00464e2f12f4a3dfbee9b5e22e91dec37309dc53ff522ad7bedfcceb7724"), looks := true }, kinds := [], alts := [], laidByText := true, laidKinds := [.data, .data, .data, .data, .sentinel, .sentinel, .pinned], laidTests := true, laidLooks := .later }
def PoolReplaysUptoCardSaid : Prop := Claim7.holds Tryz.pinned (.plain (OpenSpec.upto poolReplaysSpec)) poolReplaysUptoCard

/-- THE SECOND FORM's CARD OF 'baulklaw05.PoolRuns'. -/
def poolRunsUptoCard : Claim7 := { stood := { row := poolRunsUptoRow, standIns := [], harness := (true, "8d4d00464e2f12f4a3dfbee9b5e22e91dec37309dc53ff522ad7bedfcceb7724"), looks := true }, kinds := [], alts := [], laidByText := true, laidKinds := [.data, .data, .data, .data, .sentinel, .sentinel, .pinned], laidTests := true, laidLooks := .later }
def PoolRunsUptoCardSaid : Prop := Claim7.holds Tryz.pinned (.plain (OpenSpec.upto poolRunsSpec)) poolRunsUptoCard

/-- THE SECOND FORM's CARD OF 'baulklaw05.PoolTexts'. -/
def poolTextsUptoCard : Claim7 := { stood := { row := poolTextsUptoRow, standIns := [], harness := (true, "8d4d00464e2f12f4a3dfbee9b5e22e91dec37309dc53ff522ad7bedfcceb7724"), looks := true }, kinds := [], alts := [], laidByText := true, laidKinds := [.data, .data, .data, .data, .sentinel, .sentinel, .pinned], laidTests := true, laidLooks := .later }
def PoolTextsUptoCardSaid : Prop := Claim7.holds Tryz.pinned (.plain (OpenSpec.upto poolTextsSpec)) poolTextsUptoCard

/-- THE SECOND FORM's CARD OF 'baulklaw05.PoolSums'. -/
def poolSumsUptoCard : Claim7 := { stood := { row := poolSumsUptoRow, standIns := [], harness := (true, "8d4d00464e2f12f4a3dfbee9b5e22e91dec37309dc53ff522ad7bedfcceb7724"), looks := true }, kinds := [], alts := [], laidByText := true, laidKinds := [.data, .data, .data, .data, .sentinel, .sentinel, .pinned], laidTests := true, laidLooks := .later }
def PoolSumsUptoCardSaid : Prop := Claim7.holds Tryz.pinned (.plain (OpenSpec.upto poolSumsSpec)) poolSumsUptoCard

/-- THE SECOND FORM's CARD OF 'baulklaw05.PoolEchoes'. -/
def poolEchoesUptoCard : Claim7 := { stood := { row := poolEchoesUptoRow, standIns := [], harness := (true, "8d4d00464e2f12f4a3dfbee9b5e22e91dec37309dc53ff522ad7bedfcceb7724"), looks := true }, kinds := [], alts := [], laidByText := true, laidKinds := [.data, .data, .data, .data, .sentinel, .sentinel, .pinned], laidTests := true, laidLooks := .later }
def PoolEchoesUptoCardSaid : Prop := Claim7.holds Tryz.pinned (.plain (OpenSpec.upto poolEchoesSpec)) poolEchoesUptoCard

/-- THE SECOND FORM's CARD OF 'baulklaw05.PoolForms'. -/
def poolFormsUptoCard : Claim7 := { stood := { row := poolFormsUptoRow, standIns := [], harness := (true, "8d4d00464e2f12f4a3dfbee9b5e22e91dec37309dc53ff522ad7bedfcceb7724"), looks := true }, kinds := [], alts := [], laidByText := true, laidKinds := [.data, .data, .data, .data, .sentinel, .sentinel, .pinned], laidTests := true, laidLooks := .later }
def PoolFormsUptoCardSaid : Prop := Claim7.holds Tryz.pinned (.plain (OpenSpec.upto poolFormsSpec)) poolFormsUptoCard

/-- THE SECOND FORM's CARD OF 'baulklaw05.PoolNext'. -/
def poolNextUptoCard : Claim7 := { stood := { row := poolNextUptoRow, standIns := [], harness := (true, "8d4d00464e2f12f4a3dfbee9b5e22e91dec37309dc53ff522ad7bedfcceb7724"), looks := true }, kinds := [], alts := [], laidByText := true, laidKinds := [.data, .data, .data, .data, .sentinel, .sentinel, .pinned], laidTests := true, laidLooks := .later }
def PoolNextUptoCardSaid : Prop := Claim7.holds Tryz.pinned (.plain (OpenSpec.upto poolNextSpec)) poolNextUptoCard

/-- THE SECOND FORM's CARD OF 'baulklaw05.PoolRules'. -/
def poolRulesUptoCard : Claim7 := { stood := { row := poolRulesUptoRow, standIns := [], harness := (true, "8d4d00464e2f12f4a3dfbee9b5e22e91dec37309dc53ff522ad7bedfcceb7724"), looks := true }, kinds := [], alts := [], laidByText := true, laidKinds := [.data, .data, .data, .data, .sentinel, .sentinel, .pinned], laidTests := true, laidLooks := .later }
def PoolRulesUptoCardSaid : Prop := Claim7.holds Tryz.pinned (.plain (OpenSpec.upto poolRulesSpec)) poolRulesUptoCard

/-- THE SECOND FORM's CARD OF 'baulklaw05.PoolKept'. -/
def poolKeptUptoCard : Claim7 := { stood := { row := poolKeptUptoRow, standIns := [], harness := (true, "8d4d00464e2f12f4a3dfbee9b5e22e91dec37309dc53ff522ad7bedfcceb7724"), looks := true }, kinds := [], alts := [], laidByText := true, laidKinds := [.data, .data, .data, .data, .sentinel, .sentinel, .pinned], laidTests := true, laidLooks := .later }
def PoolKeptUptoCardSaid : Prop := Claim7.holds Tryz.pinned (.plain (OpenSpec.upto poolKeptSpec)) poolKeptUptoCard

/-- THE SECOND FORM's CARD OF 'baulklaw05.PoolSteps'. -/
def poolStepsUptoCard : Claim7 := { stood := { row := poolStepsUptoRow, standIns := [], harness := (true, "8d4d00464e2f12f4a3dfbee9b5e22e91dec37309dc53ff522ad7bedfcceb7724"), looks := true }, kinds := [], alts := [], laidByText := true, laidKinds := [.data, .data, .data, .data, .sentinel, .sentinel, .pinned], laidTests := true, laidLooks := .later }
def PoolStepsUptoCardSaid : Prop := Claim7.holds Tryz.pinned (.plain (OpenSpec.upto poolStepsSpec)) poolStepsUptoCard

/-- THE SECOND FORM's CARD OF 'baulklaw05.PoolCorrects'. -/
def poolCorrectsUptoCard : Claim7 := { stood := { row := poolCorrectsUptoRow, standIns := [], harness := (true, "8d4d00464e2f12f4a3dfbee9b5e22e91dec37309dc53ff522ad7bedfcceb7724"), looks := true }, kinds := [], alts := [], laidByText := true, laidKinds := [.data, .data, .data, .data, .sentinel, .sentinel, .pinned], laidTests := true, laidLooks := .later }
def PoolCorrectsUptoCardSaid : Prop := Claim7.holds Tryz.pinned (.plain (OpenSpec.upto poolCorrectsSpec)) poolCorrectsUptoCard

/-- THE SECOND FORM's CARD OF 'baulklaw05.PoolAudits'. -/
def poolAuditsUptoCard : Claim7 := { stood := { row := poolAuditsUptoRow, standIns := [], harness := (true, "8d4d00464e2f12f4a3dfbee9b5e22e91dec37309dc53ff522ad7bedfcceb7724"), looks := true }, kinds := [], alts := [], laidByText := true, laidKinds := [.data, .data, .data, .data, .sentinel, .sentinel, .pinned], laidTests := true, laidLooks := .later }
def PoolAuditsUptoCardSaid : Prop := Claim7.holds Tryz.pinned (.plain (OpenSpec.upto poolAuditsSpec)) poolAuditsUptoCard
end Rows
end Go.Proofs.YtelpepbpdojikaaGreatDoor
