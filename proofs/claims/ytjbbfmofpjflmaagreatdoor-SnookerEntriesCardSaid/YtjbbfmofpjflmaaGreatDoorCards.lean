/-
  DERIVED. GIVEN WITH THE SEED: THE CARDS: each row of YtjbbfmofpjflmaaGreatDoorRows.lean that lists a variable, with what it lists TIED to the program's text (the seventh form; the later family's looks); each row that meets fmt, with fmt's text TOLD by the authors' own Lean function (tested against real Go, not proved from fmt's source: count such statements apart). THE CARD IS WHAT COUNTS. Prove the row's statement (the work); the ties are given (YtjbbfmofpjflmaaGreatDoorTie.lean); close each card by the builder's one call (the guide's Derived/Test/ToyasCard.lean, 'card_holds'). Laid BY PROGRAM, IN A SANDBOX (cutbox-door.mjs). By AI agents, Wed Nov 11 2026. No macro, syntax, notation, axiom, sorry.
-/
import Derived.Test.YtjbbfmofpjflmaaGreatDoorRows
import GoSem.ClaimSeven
namespace Go.Proofs.YtjbbfmofpjflmaaGreatDoor
namespace Rows

/-- THE TIED CARD OF 'baulklaw06.SnookerForms'. -/
def snookerFormsCard : Claim7 := { stood := { row := snookerFormsRow, standIns := [], harness := (true, "cd89e64124a017aa8447b1669bc625fbf072dd18cd0f11a52072661b6846f632"), looks := true }, kinds := [], alts := [], laidByText := true, laidKinds := [.data, .data, .data, .data, .sentinel, .sentinel, .pinned], laidTests := true, laidLooks := .later }
def SnookerFormsCardSaid : Prop := Claim7.holds Tryz.pinned (.plain (OpenSpec.ofChange snookerFormsSpec)) snookerFormsCard

/-- THE TIED CARD OF 'baulklaw06.SnookerReplays'. -/
def snookerReplaysCard : Claim7 := { stood := { row := snookerReplaysRow, standIns := [], harness := (true, "cd89e64124a017aa8447b1669bc625fbf072dd18cd0f11a52072661b6846f632"), looks := true }, kinds := [], alts := [], laidByText := true, laidKinds := [.data, .data, .data, .data, .sentinel, .sentinel, .pinned], laidTests := true, laidLooks := .later }
def SnookerReplaysCardSaid : Prop := Claim7.holds Tryz.pinned (.plain (OpenSpec.ofChange snookerReplaysSpec)) snookerReplaysCard

/-- THE TIED CARD OF 'baulklaw06.SnookerAudits'. -/
def snookerAuditsCard : Claim7 := { stood := { row := snookerAuditsRow, standIns := [], harness := (true, "cd89e64124a017aa8447b1669bc625fbf072dd18cd0f11a52072661b6846f632"), looks := true }, kinds := [], alts := [], laidByText := true, laidKinds := [.data, .data, .data, .data, .sentinel, .sentinel, .pinned], laidTests := true, laidLooks := .later }
def SnookerAuditsCardSaid : Prop := Claim7.holds Tryz.pinned (.plain (OpenSpec.ofChange snookerAuditsSpec)) snookerAuditsCard

/-- THE TIED CARD OF 'baulklaw06.SnookerLeft'. -/
def snookerLeftCard : Claim7 := { stood := { row := snookerLeftRow, standIns := [], harness := (true, "cd89e64124a017aa8447b1669bc625fbf072dd18cd0f11a52072661b6846f632"), looks := true }, kinds := [], alts := [], laidByText := true, laidKinds := [.data, .data, .data, .data, .sentinel, .sentinel, .pinned], laidTests := true, laidLooks := .later }
def SnookerLeftCardSaid : Prop := Claim7.holds Tryz.pinned (.plain (OpenSpec.ofChange snookerLeftSpec)) snookerLeftCard

/-- THE TIED CARD OF 'baulklaw06.SnookerSums'. -/
def snookerSumsCard : Claim7 := { stood := { row := snookerSumsRow, standIns := [], harness := (true, "cd89e64124a017aa8447b1669bc625fbf072dd18cd0f11a52072661b6846f632"), looks := true }, kinds := [], alts := [], laidByText := true, laidKinds := [.data, .data, .data, .data, .sentinel, .sentinel, .pinned], laidTests := true, laidLooks := .later }
def SnookerSumsCardSaid : Prop := Claim7.holds Tryz.pinned (.plain (OpenSpec.ofChange snookerSumsSpec)) snookerSumsCard

/-- THE TIED CARD OF 'baulklaw06.SnookerRules'. -/
def snookerRulesCard : Claim7 := { stood := { row := snookerRulesRow, standIns := [], harness := (true, "cd89e64124a017aa8447b1669bc625fbf072dd18cd0f11a52072661b6846f632"), looks := true }, kinds := [], alts := [], laidByText := true, laidKinds := [.data, .data, .data, .data, .sentinel, .sentinel, .pinned], laidTests := true, laidLooks := .later }
def SnookerRulesCardSaid : Prop := Claim7.holds Tryz.pinned (.plain (OpenSpec.ofChange snookerRulesSpec)) snookerRulesCard

/-- THE TIED CARD OF 'baulklaw06.SnookerSteps'. -/
def snookerStepsCard : Claim7 := { stood := { row := snookerStepsRow, standIns := [], harness := (true, "cd89e64124a017aa8447b1669bc625fbf072dd18cd0f11a52072661b6846f632"), looks := true }, kinds := [], alts := [], laidByText := true, laidKinds := [.data, .data, .data, .data, .sentinel, .sentinel, .pinned], laidTests := true, laidLooks := .later }
def SnookerStepsCardSaid : Prop := Claim7.holds Tryz.pinned (.plain (OpenSpec.ofChange snookerStepsSpec)) snookerStepsCard

/-- THE TIED CARD OF 'baulklaw06.SnookerGreatest'. -/
def snookerGreatestCard : Claim7 := { stood := { row := snookerGreatestRow, standIns := [], harness := (true, "cd89e64124a017aa8447b1669bc625fbf072dd18cd0f11a52072661b6846f632"), looks := true }, kinds := [], alts := [], laidByText := true, laidKinds := [.data, .data, .data, .data, .sentinel, .sentinel, .pinned], laidTests := true, laidLooks := .later }
def SnookerGreatestCardSaid : Prop := Claim7.holds Tryz.pinned (.plain (OpenSpec.ofChange snookerGreatestSpec)) snookerGreatestCard

/-- THE TIED CARD OF 'baulklaw06.SnookerEntries'. -/
def snookerEntriesCard : Claim7 := { stood := { row := snookerEntriesRow, standIns := [], harness := (true, "cd89e64124a017aa8447b1669bc625fbf072dd18cd0f11a52072661b6846f632"), looks := true }, kinds := [], alts := [], laidByText := true, laidKinds := [.data, .data, .data, .data, .sentinel, .sentinel, .pinned], laidTests := true, laidLooks := .later }
def SnookerEntriesCardSaid : Prop := Claim7.holds Tryz.pinned (.plain (OpenSpec.ofChange snookerEntriesSpec)) snookerEntriesCard

/-- THE SECOND FORM's CARD OF 'baulklaw06.SnookerForms'. -/
def snookerFormsUptoCard : Claim7 := { stood := { row := snookerFormsUptoRow, standIns := [], harness := (true, "cd89e64124a017aa8447b1669bc625fbf072dd18cd0f11a52072661b6846f632"), looks := true }, kinds := [], alts := [], laidByText := true, laidKinds := [.data, .data, .data, .data, .sentinel, .sentinel, .pinned], laidTests := true, laidLooks := .later }
def SnookerFormsUptoCardSaid : Prop := Claim7.holds Tryz.pinned (.plain (OpenSpec.upto snookerFormsSpec)) snookerFormsUptoCard

/-- THE SECOND FORM's CARD OF 'baulklaw06.SnookerReplays'. -/
def snookerReplaysUptoCard : Claim7 := { stood := { row := snookerReplaysUptoRow, standIns := [], harness := (true, "cd89e64124a017aa8447b1669bc625fbf072dd18cd0f11a52072661b6846f632"), looks := true }, kinds := [], alts := [], laidByText := true, laidKinds := [.data, .data, .data, .data, .sentinel, .sentinel, .pinned], laidTests := true, laidLooks := .later }
def SnookerReplaysUptoCardSaid : Prop := Claim7.holds Tryz.pinned (.plain (OpenSpec.upto snookerReplaysSpec)) snookerReplaysUptoCard

/-- THE SECOND FORM's CARD OF 'baulklaw06.SnookerAudits'. -/
def snookerAuditsUptoCard : Claim7 := { stood := { row := snookerAuditsUptoRow, standIns := [], harness := (true, "cd89e64124a017aa8447b1669bc625fbf072dd18cd0f11a52072661b6846f632"), looks := true }, kinds := [], alts := [], laidByText := true, laidKinds := [.data, .data, .data, .data, .sentinel, .sentinel, .pinned], laidTests := true, laidLooks := .later }
def SnookerAuditsUptoCardSaid : Prop := Claim7.holds Tryz.pinned (.plain (OpenSpec.upto snookerAuditsSpec)) snookerAuditsUptoCard

/-- THE SECOND FORM's CARD OF 'baulklaw06.SnookerLeft'. -/
def snookerLeftUptoCard : Claim7 := { stood := { row := snookerLeftUptoRow, standIns := [], harness := (true, "cd89e64124a017aa8447b1669bc625fbf072dd18cd0f11a52072661b6846f632"), looks := true }, kinds := [], alts := [], laidByText := true, laidKinds := [.data, .data, .data, .data, .sentinel, .sentinel, .pinned], laidTests := true, laidLooks := .later }
def SnookerLeftUptoCardSaid : Prop := Claim7.holds Tryz.pinned (.plain (OpenSpec.upto snookerLeftSpec)) snookerLeftUptoCard

/-- THE SECOND FORM's CARD OF 'baulklaw06.SnookerSums'. -/
def snookerSumsUptoCard : Claim7 := { stood := { row := snookerSumsUptoRow, standIns := [], harness := (true, "cd89e64124a017aa8447b1669bc625fbf072dd18cd0f11a52072661b6846f632"), looks := true }, kinds := [], alts := [], laidByText := true, laidKinds := [.data, .data, .data, .data, .sentinel, .sentinel, .pinned], laidTests := true, laidLooks := .later }
def SnookerSumsUptoCardSaid : Prop := Claim7.holds Tryz.pinned (.plain (OpenSpec.upto snookerSumsSpec)) snookerSumsUptoCard

/-- THE SECOND FORM's CARD OF 'baulklaw06.SnookerRules'. -/
def snookerRulesUptoCard : Claim7 := { stood := { row := snookerRulesUptoRow, standIns := [], harness := (true, "cd89e64124a017aa8447b1669bc625fbf072dd18cd0f11a52072661b6846f632"), looks := true }, kinds := [], alts := [], laidByText := true, laidKinds := [.data, .data, .data, .data, .sentinel, .sentinel, .pinned], laidTests := true, laidLooks := .later }
def SnookerRulesUptoCardSaid : Prop := Claim7.holds Tryz.pinned (.plain (OpenSpec.upto snookerRulesSpec)) snookerRulesUptoCard

/-- THE SECOND FORM's CARD OF 'baulklaw06.SnookerSteps'. -/
def snookerStepsUptoCard : Claim7 := { stood := { row := snookerStepsUptoRow, standIns := [], harness := (true, "cd89e64124a017aa8447b1669bc625fbf072dd18cd0f11a52072661b6846f632"), looks := true }, kinds := [], alts := [], laidByText := true, laidKinds := [.data, .data, .data, .data, .sentinel, .sentinel, .pinned], laidTests := true, laidLooks := .later }
def SnookerStepsUptoCardSaid : Prop := Claim7.holds Tryz.pinned (.plain (OpenSpec.upto snookerStepsSpec)) snookerStepsUptoCard

/-- THE SECOND FORM's CARD OF 'baulklaw06.SnookerGreatest'. -/
def snookerGreatestUptoCard : Claim7 := { stood := { row := snookerGreatestUptoRow, standIns := [], harness := (true, "cd89e64124a017aa8447b1669bc625fbf072dd18cd0f11a52072661b6846f632"), looks := true }, kinds := [], alts := [], laidByText := true, laidKinds := [.data, .data, .data, .data, .sentinel, .sentinel, .pinned], laidTests := true, laidLooks := .later }
def SnookerGreatestUptoCardSaid : Prop := Claim7.holds Tryz.pinned (.plain (OpenSpec.upto snookerGreatestSpec)) snookerGreatestUptoCard

/-- THE SECOND FORM's CARD OF 'baulklaw06.SnookerEntries'. -/
def snookerEntriesUptoCard : Claim7 := { stood := { row := snookerEntriesUptoRow, standIns := [], harness := (true, "cd89e64124a017aa8447b1669bc625fbf072dd18cd0f11a52072661b6846f632"), looks := true }, kinds := [], alts := [], laidByText := true, laidKinds := [.data, .data, .data, .data, .sentinel, .sentinel, .pinned], laidTests := true, laidLooks := .later }
def SnookerEntriesUptoCardSaid : Prop := Claim7.holds Tryz.pinned (.plain (OpenSpec.upto snookerEntriesSpec)) snookerEntriesUptoCard
end Rows
end Go.Proofs.YtjbbfmofpjflmaaGreatDoor
