/-
  DERIVED. GIVEN WITH THE SEED: THE CARDS: each row of YtfinfkndamhpdaaGreatDoorRows.lean that lists a variable, with what it lists TIED to the program's text (the seventh form; the later family's looks); each row that meets fmt, with fmt's text TOLD by the authors' own Lean function (tested against real Go, not proved from fmt's source: count such statements apart). THE CARD IS WHAT COUNTS. Prove the row's statement (the work); the ties are given (YtfinfkndamhpdaaGreatDoorTie.lean); close each card by the builder's one call (the guide's Derived/Test/ToyasCard.lean, 'card_holds'). Laid BY PROGRAM, IN A SANDBOX (cutbox-door.mjs). By AI agents, Wed Nov 11 2026. No macro, syntax, notation, axiom, sorry.
-/
import Derived.Test.YtfinfkndamhpdaaGreatDoorRows
import GoSem.ClaimSeven
namespace Go.Proofs.YtfinfkndamhpdaaGreatDoor
namespace Rows

/-- THE TIED CARD OF 'tenurelaw27.EvalKnown'. -/
def evalKnownCard : Claim7 := { stood := { row := evalKnownRow, standIns := [], harness := (true, "641ba34bb6daa471c1494e90da5267f93176798aca0e056d4536237f528ea88b"), looks := true }, kinds := [], alts := [], laidByText := true, laidKinds := [.data, .data, .data, .handle, .sentinel, .sentinel], laidTests := true, laidLooks := .later }
def EvalKnownCardSaid : Prop := Claim7.holds Tryz.pinned (.plain (OpenSpec.ofChange evalKnownSpec)) evalKnownCard

/-- THE TIED CARD OF 'tenurelaw27.EvalNone'. -/
def evalNoneCard : Claim7 := { stood := { row := evalNoneRow, standIns := [], harness := (true, "641ba34bb6daa471c1494e90da5267f93176798aca0e056d4536237f528ea88b"), looks := true }, kinds := [], alts := [], laidByText := true, laidKinds := [.data, .data, .data, .handle, .sentinel, .sentinel], laidTests := true, laidLooks := .later }
def EvalNoneCardSaid : Prop := Claim7.holds Tryz.pinned (.plain (OpenSpec.ofChange evalNoneSpec)) evalNoneCard

/-- THE SECOND FORM's CARD OF 'tenurelaw27.EvalKnown'. -/
def evalKnownUptoCard : Claim7 := { stood := { row := evalKnownUptoRow, standIns := [], harness := (true, "641ba34bb6daa471c1494e90da5267f93176798aca0e056d4536237f528ea88b"), looks := true }, kinds := [], alts := [], laidByText := true, laidKinds := [.data, .data, .data, .handle, .sentinel, .sentinel], laidTests := true, laidLooks := .later }
def EvalKnownUptoCardSaid : Prop := Claim7.holds Tryz.pinned (.plain (OpenSpec.upto evalKnownSpec)) evalKnownUptoCard

/-- THE SECOND FORM's CARD OF 'tenurelaw27.EvalNone'. -/
def evalNoneUptoCard : Claim7 := { stood := { row := evalNoneUptoRow, standIns := [], harness := (true, "641ba34bb6daa471c1494e90da5267f93176798aca0e056d4536237f528ea88b"), looks := true }, kinds := [], alts := [], laidByText := true, laidKinds := [.data, .data, .data, .handle, .sentinel, .sentinel], laidTests := true, laidLooks := .later }
def EvalNoneUptoCardSaid : Prop := Claim7.holds Tryz.pinned (.plain (OpenSpec.upto evalNoneSpec)) evalNoneUptoCard
end Rows
end Go.Proofs.YtfinfkndamhpdaaGreatDoor
