/-
  DERIVED. GIVEN WITH THE SEED: THE CARDS: each row of YtcjglfbpjkdgiaaGreatDoorRows.lean that lists a variable, with what it lists TIED to the program's text (the seventh form; the later family's looks); each row that meets fmt, with fmt's text TOLD by the authors' own Lean function (tested against real Go, not proved from fmt's source: count such statements apart). THE CARD IS WHAT COUNTS. Prove the row's statement (the work); the ties are given (YtcjglfbpjkdgiaaGreatDoorTie.lean); close each card by the builder's one call (the guide's Derived/Test/ToyasCard.lean, 'card_holds'). Laid BY PROGRAM, IN A SANDBOX (cutbox-door.mjs). By AI agents, Wed Nov 11 2026. No macro, syntax, notation, axiom, sorry.
-/
import Derived.Test.YtcjglfbpjkdgiaaGreatDoorRows
import GoSem.ClaimSeven
namespace Go.Proofs.YtcjglfbpjkdgiaaGreatDoor
namespace Rows

/-- THE TIED CARD OF 'baulktop.TopJawCorrected'. -/
def topJawCorrectedCard : Claim7 := { stood := { row := topJawCorrectedRow, standIns := [], harness := (true, "2caf048ecdbd3449912cf1df218211637d1a0379cd146a32d7ef060473209dbd"), looks := true }, kinds := [], alts := [], laidByText := true, laidKinds := [.data, .data, .data, .data, .sentinel, .sentinel, .pinned], laidTests := true, laidLooks := .later }
def TopJawCorrectedCardSaid : Prop := Claim7.holds Tryz.pinned (.plain (OpenSpec.ofChange topJawCorrectedSpec)) topJawCorrectedCard

/-- THE TIED CARD OF 'baulktop.TopJawClaims'. -/
def topJawClaimsCard : Claim7 := { stood := { row := topJawClaimsRow, standIns := [], harness := (true, "2caf048ecdbd3449912cf1df218211637d1a0379cd146a32d7ef060473209dbd"), looks := true }, kinds := [], alts := [], laidByText := true, laidKinds := [.data, .data, .data, .data, .sentinel, .sentinel, .pinned], laidTests := true, laidLooks := .later }
def TopJawClaimsCardSaid : Prop := Claim7.holds Tryz.pinned (.plain (OpenSpec.ofChange topJawClaimsSpec)) topJawClaimsCard

/-- THE SECOND FORM's CARD OF 'baulktop.TopJawCorrected'. -/
def topJawCorrectedUptoCard : Claim7 := { stood := { row := topJawCorrectedUptoRow, standIns := [], harness := (true, "2caf048ecdbd3449912cf1df218211637d1a0379cd146a32d7ef060473209dbd"), looks := true }, kinds := [], alts := [], laidByText := true, laidKinds := [.data, .data, .data, .data, .sentinel, .sentinel, .pinned], laidTests := true, laidLooks := .later }
def TopJawCorrectedUptoCardSaid : Prop := Claim7.holds Tryz.pinned (.plain (OpenSpec.upto topJawCorrectedSpec)) topJawCorrectedUptoCard

/-- THE SECOND FORM's CARD OF 'baulktop.TopJawClaims'. -/
def topJawClaimsUptoCard : Claim7 := { stood := { row := topJawClaimsUptoRow, standIns := [], harness := (true, "2caf048ecdbd3449912cf1df218211637d1a0379cd146a32d7ef060473209dbd"), looks := true }, kinds := [], alts := [], laidByText := true, laidKinds := [.data, .data, .data, .data, .sentinel, .sentinel, .pinned], laidTests := true, laidLooks := .later }
def TopJawClaimsUptoCardSaid : Prop := Claim7.holds Tryz.pinned (.plain (OpenSpec.upto topJawClaimsSpec)) topJawClaimsUptoCard
end Rows
end Go.Proofs.YtcjglfbpjkdgiaaGreatDoor
