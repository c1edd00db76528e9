/-
  DERIVED. GIVEN WITH THE SEED: THE CARDS: each row of YtcbmedfongiojaaGreatDoorRows.lean that lists a variable, with what it lists TIED to the program's text (the seventh form; the later family's looks); each row that meets fmt, with fmt's text TOLD by the authors' own Lean function (tested against real Go, not proved from fmt's source: count such statements apart). THE CARD IS WHAT COUNTS. Prove the row's statement (the work); the ties are given (YtcbmedfongiojaaGreatDoorTie.lean); close each card by the builder's one call (the guide's Derived/Test/ToyasCard.lean, 'card_holds'). Laid BY PROGRAM, IN A SANDBOX (cutbox-door.mjs). By AI agents, Wed Nov 11 2026. No macro, syntax, notation, axiom, sorry.
-/
import Derived.Test.YtcbmedfongiojaaGreatDoorRows
import GoSem.ClaimSeven
namespace Go.Proofs.YtcbmedfongiojaaGreatDoor
namespace Rows

/-- THE TIED CARD OF 'baulktop.TopTipBest'. -/
def topTipBestCard : Claim7 := { stood := { row := topTipBestRow, standIns := [], harness := (true, "1994d346b242a125e121164430b6d82160b98086aa6dcc8333a6b4104c394baf"), looks := true }, kinds := [], alts := [], laidByText := true, laidKinds := [.data, .data, .data, .data, .sentinel, .sentinel, .pinned], laidTests := true, laidLooks := .later }
def TopTipBestCardSaid : Prop := Claim7.holds Tryz.pinned (.plain (OpenSpec.ofChange topTipBestSpec)) topTipBestCard

/-- THE TIED CARD OF 'baulktop.TopTipAudits'. -/
def topTipAuditsCard : Claim7 := { stood := { row := topTipAuditsRow, standIns := [], harness := (true, "1994d346b242a125e121164430b6d82160b98086aa6dcc8333a6b4104c394baf"), looks := true }, kinds := [], alts := [], laidByText := true, laidKinds := [.data, .data, .data, .data, .sentinel, .sentinel, .pinned], laidTests := true, laidLooks := .later }
def TopTipAuditsCardSaid : Prop := Claim7.holds Tryz.pinned (.plain (OpenSpec.ofChange topTipAuditsSpec)) topTipAuditsCard

/-- THE SECOND FORM's CARD OF 'baulktop.TopTipBest'. -/
def topTipBestUptoCard : Claim7 := { stood := { row := topTipBestUptoRow, standIns := [], harness := (true, "1994d346b242a125e121164430b6d82160b98086aa6dcc8333a6b4104c394baf"), looks := true }, kinds := [], alts := [], laidByText := true, laidKinds := [.data, .data, .data, .data, .sentinel, .sentinel, .pinned], laidTests := true, laidLooks := .later }
def TopTipBestUptoCardSaid : Prop := Claim7.holds Tryz.pinned (.plain (OpenSpec.upto topTipBestSpec)) topTipBestUptoCard

/-- THE SECOND FORM's CARD OF 'baulktop.TopTipAudits'. -/
def topTipAuditsUptoCard : Claim7 := { stood := { row := topTipAuditsUptoRow, standIns := [], harness := (true, "1994d346b242a125e121164430b6d82160b98086aa6dcc8333a6b4104c394baf"), looks := true }, kinds := [], alts := [], laidByText := true, laidKinds := [.data, .data, .data, .data, .sentinel, .sentinel, .pinned], laidTests := true, laidLooks := .later }
def TopTipAuditsUptoCardSaid : Prop := Claim7.holds Tryz.pinned (.plain (OpenSpec.upto topTipAuditsSpec)) topTipAuditsUptoCard
end Rows
end Go.Proofs.YtcbmedfongiojaaGreatDoor
