/-
  DERIVED. GIVEN WITH THE SEED: THE CARDS: each row of YtbjfdogcacpfiaaGreatDoorRows.lean that lists a variable, with what it lists TIED to the program's text (the seventh form; the later family's looks); each row that meets fmt, with fmt's text TOLD by the authors' own Lean function (tested against real Go, not proved from fmt's source: count such statements apart). THE CARD IS WHAT COUNTS. Prove the row's statement (the work); the ties are given (YtbjfdogcacpfiaaGreatDoorTie.lean); close each card by the builder's one call (the guide's Derived/Test/ToyasCard.lean, 'card_holds'). Laid BY PROGRAM, IN A SANDBOX (cutbox-door.mjs). By AI agents, Wed Nov 11 2026. No macro, syntax, notation, axiom, sorry.
-/
import Derived.Test.YtbjfdogcacpfiaaGreatDoorRows
import GoSem.ClaimSeven
namespace Go.Proofs.YtbjfdogcacpfiaaGreatDoor
namespace Rows

/-- THE TIED CARD OF 'tenurelaw28.BuiltKnown'. -/
def builtKnownCard : Claim7 := { stood := { row := builtKnownRow, standIns := [], harness := (true, "cbded30bef77cdc1a8a2febf93e98c42d330bdbe79fe6660a3d7b1c066aa3b03"), looks := false }, kinds := [], alts := [], laidByText := true, laidKinds := [.data, .data, .data], laidTests := true, laidLooks := .later }
def BuiltKnownCardSaid : Prop := Claim7.holds Tryz.pinned (.plain (OpenSpec.ofChange builtKnownSpec)) builtKnownCard

/-- THE TIED CARD OF 'tenurelaw28.BuiltNone'. -/
def builtNoneCard : Claim7 := { stood := { row := builtNoneRow, standIns := [], harness := (true, "cbded30bef77cdc1a8a2febf93e98c42d330bdbe79fe6660a3d7b1c066aa3b03"), looks := false }, kinds := [], alts := [], laidByText := true, laidKinds := [.data, .data, .data], laidTests := true, laidLooks := .later }
def BuiltNoneCardSaid : Prop := Claim7.holds Tryz.pinned (.plain (OpenSpec.ofChange builtNoneSpec)) builtNoneCard

/-- THE SECOND FORM's CARD OF 'tenurelaw28.BuiltKnown'. -/
def builtKnownUptoCard : Claim7 := { stood := { row := builtKnownUptoRow, standIns := [], harness := (true, "cbded30bef77cdc1a8a2febf93e98c42d330bdbe79fe6660a3d7b1c066aa3b03"), looks := false }, kinds := [], alts := [], laidByText := true, laidKinds := [.data, .data, .data], laidTests := true, laidLooks := .later }
def BuiltKnownUptoCardSaid : Prop := Claim7.holds Tryz.pinned (.plain (OpenSpec.upto builtKnownSpec)) builtKnownUptoCard

/-- THE SECOND FORM's CARD OF 'tenurelaw28.BuiltNone'. -/
def builtNoneUptoCard : Claim7 := { stood := { row := builtNoneUptoRow, standIns := [], harness := (true, "cbded30bef77cdc1a8a2febf93e98c42d330bdbe79fe6660a3d7b1c066aa3b03"), looks := false }, kinds := [], alts := [], laidByText := true, laidKinds := [.data, .data, .data], laidTests := true, laidLooks := .later }
def BuiltNoneUptoCardSaid : Prop := Claim7.holds Tryz.pinned (.plain (OpenSpec.upto builtNoneSpec)) builtNoneUptoCard
end Rows
end Go.Proofs.YtbjfdogcacpfiaaGreatDoor
