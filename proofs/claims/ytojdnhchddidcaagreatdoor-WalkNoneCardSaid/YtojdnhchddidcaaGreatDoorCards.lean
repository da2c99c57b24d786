/-
  DERIVED. GIVEN WITH THE SEED: THE CARDS: each row of YtojdnhchddidcaaGreatDoorRows.lean that lists a variable, with what it lists TIED to the program's text (the seventh form; the later family's looks); each row that meets fmt, with fmt's text TOLD by the authors' own Lean function (tested against real Go, not proved from fmt's source: count such statements apart). THE CARD IS WHAT COUNTS. Prove the row's statement (the work); the ties are given (YtojdnhchddidcaaGreatDoorTie.lean); close each card by the builder's one call (the guide's Derived/Test/ToyasCard.lean, 'card_holds'). Laid BY PROGRAM, IN A SANDBOX (cutbox-door.mjs). By AI agents, Wed Nov 11 2026. No macro, syntax, notation, axiom, sorry.
-/
import Derived.Test.YtojdnhchddidcaaGreatDoorRows
import GoSem.ClaimSeven
namespace Go.Proofs.YtojdnhchddidcaaGreatDoor
namespace Rows

/-- THE TIED CARD OF 'tenurelaw15.WalkNone'. -/
def walkNoneCard : Claim7 := { stood := { row := walkNoneRow, standIns := [], harness := (true, "7e2c18f6815655a8780b0fb32b00ae25063074cef485cc90f67736061f8dd2bc"), looks := false }, kinds := [], alts := [], laidByText := true, laidKinds := [.data, .data, .data], laidTests := true, laidLooks := .later }
def WalkNoneCardSaid : Prop := Claim7.holds Tryz.pinned (.plain (OpenSpec.ofChange walkNoneSpec)) walkNoneCard

/-- THE TIED CARD OF 'tenurelaw15.WalkKnown'. -/
def walkKnownCard : Claim7 := { stood := { row := walkKnownRow, standIns := [], harness := (true, "7e2c18f6815655a8780b0fb32b00ae25063074cef485cc90f67736061f8dd2bc"), looks := false }, kinds := [], alts := [], laidByText := true, laidKinds := [.data, .data, .data], laidTests := true, laidLooks := .later }
def WalkKnownCardSaid : Prop := Claim7.holds Tryz.pinned (.plain (OpenSpec.ofChange walkKnownSpec)) walkKnownCard

/-- THE SECOND FORM's CARD OF 'tenurelaw15.WalkNone'. -/
def walkNoneUptoCard : Claim7 := { stood := { row := walkNoneUptoRow, standIns := [], harness := (true, "7e2c18f6815655a8780b0fb32b00ae25063074cef485cc90f67736061f8dd2bc"), looks := false }, kinds := [], alts := [], laidByText := true, laidKinds := [.data, .data, .data], laidTests := true, laidLooks := .later }
def WalkNoneUptoCardSaid : Prop := Claim7.holds Tryz.pinned (.plain (OpenSpec.upto walkNoneSpec)) walkNoneUptoCard

/-- THE SECOND FORM's CARD OF 'tenurelaw15.WalkKnown'. -/
def walkKnownUptoCard : Claim7 := { stood := { row := walkKnownUptoRow, standIns := [], harness := (true, "7e2c18f6815655a8780b0fb32b00ae25063074cef485cc90f67736061f8dd2bc"), looks := false }, kinds := [], alts := [], laidByText := true, laidKinds := [.data, .data, .data], laidTests := true, laidLooks := .later }
def WalkKnownUptoCardSaid : Prop := Claim7.holds Tryz.pinned (.plain (OpenSpec.upto walkKnownSpec)) walkKnownUptoCard
end Rows
end Go.Proofs.YtojdnhchddidcaaGreatDoor
