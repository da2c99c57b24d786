/-
  DERIVED. GIVEN WITH THE SEED: THE CARDS: each row of YtfiefdhgfinbjaaGreatDoorRows.lean that lists a variable, with what it lists TIED to the program's text (the seventh form; the later family's looks); each row that meets fmt, with fmt's text TOLD by the authors' own Lean function (tested against real Go, not proved from fmt's source: count such statements apart). THE CARD IS WHAT COUNTS. Prove the row's statement (the work); the ties are given (YtfiefdhgfinbjaaGreatDoorTie.lean); close each card by the builder's one call (the guide's Derived/Test/ToyasCard.lean, 'card_holds'). Laid BY PROGRAM, IN A SANDBOX (cutbox-door.mjs). By AI agents, Wed Nov 11 2026. No macro, syntax, notation, axiom, sorry.
-/
import Derived.Test.YtfiefdhgfinbjaaGreatDoorRows
import GoSem.ClaimSeven
namespace Go.Proofs.YtfiefdhgfinbjaaGreatDoor
namespace Rows

/-- THE TIED CARD OF 'tenurelaw22.PickNone'. -/
def pickNoneCard : Claim7 := { stood := { row := pickNoneRow, standIns := [], harness := (true, "eaeef90a8c0752ce3eba1ef61ce57f22289367c43817bfa77d35ccf4fe6a6aff"), looks := false }, kinds := [], alts := [], laidByText := true, laidKinds := [.data, .data, .data], laidTests := true, laidLooks := .later }
def PickNoneCardSaid : Prop := Claim7.holds Tryz.pinned (.plain (OpenSpec.ofChange pickNoneSpec)) pickNoneCard

/-- THE TIED CARD OF 'tenurelaw22.PickKnown'. -/
def pickKnownCard : Claim7 := { stood := { row := pickKnownRow, standIns := [], harness := (true, "eaeef90a8c0752ce3eba1ef61ce57f22289367c43817bfa77d35ccf4fe6a6aff"), looks := false }, kinds := [], alts := [], laidByText := true, laidKinds := [.data, .data, .data], laidTests := true, laidLooks := .later }
def PickKnownCardSaid : Prop := Claim7.holds Tryz.pinned (.plain (OpenSpec.ofChange pickKnownSpec)) pickKnownCard

/-- THE SECOND FORM's CARD OF 'tenurelaw22.PickNone'. -/
def pickNoneUptoCard : Claim7 := { stood := { row := pickNoneUptoRow, standIns := [], harness := (true, "eaeef90a8c0752ce3eba1ef61ce57f22289367c43817bfa77d35ccf4fe6a6aff"), looks := false }, kinds := [], alts := [], laidByText := true, laidKinds := [.data, .data, .data], laidTests := true, laidLooks := .later }
def PickNoneUptoCardSaid : Prop := Claim7.holds Tryz.pinned (.plain (OpenSpec.upto pickNoneSpec)) pickNoneUptoCard

/-- THE SECOND FORM's CARD OF 'tenurelaw22.PickKnown'. -/
def pickKnownUptoCard : Claim7 := { stood := { row := pickKnownUptoRow, standIns := [], harness := (true, "eaeef90a8c0752ce3eba1ef61ce57f22289367c43817bfa77d35ccf4fe6a6aff"), looks := false }, kinds := [], alts := [], laidByText := true, laidKinds := [.data, .data, .data], laidTests := true, laidLooks := .later }
def PickKnownUptoCardSaid : Prop := Claim7.holds Tryz.pinned (.plain (OpenSpec.upto pickKnownSpec)) pickKnownUptoCard
end Rows
end Go.Proofs.YtfiefdhgfinbjaaGreatDoor
