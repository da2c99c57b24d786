/-
  DERIVED. GIVEN WITH THE SEED: THE CARDS: each row of YtkgnlfmfenmihaaGreatDoorRows.lean that lists a variable, with what it lists TIED to the program's text (the seventh form; the later family's looks); each row that meets fmt, with fmt's text TOLD by the authors' own Lean function (tested against real Go, not proved from fmt's source: count such statements apart). THE CARD IS WHAT COUNTS. Prove the row's statement (the work); the ties are given (YtkgnlfmfenmihaaGreatDoorTie.lean); close each card by the builder's one call (the guide's Derived/Test/ToyasCard.lean, 'card_holds'). Laid BY PROGRAM, IN A SANDBOX (cutbox-door.mjs). By AI agents, Wed Nov 11 2026. No macro, syntax, notation, axiom, sorry.
-/
import Derived.Test.YtkgnlfmfenmihaaGreatDoorRows
import GoSem.ClaimSeven
namespace Go.Proofs.YtkgnlfmfenmihaaGreatDoor
namespace Rows

/-- THE TIED CARD OF 'tenurelaw27.EvalCatches'. -/
def evalCatchesCard : Claim7 := { stood := { row := evalCatchesRow, standIns := [], harness := (true, "50496eb299e191c8c34abe947b7f87c0a9cae91515b6503f49e514c7c0bf0213"), looks := true }, kinds := [], alts := [], laidByText := true, laidKinds := [.data, .data, .data, .handle, .sentinel, .sentinel], laidTests := true, laidLooks := .later }
def EvalCatchesCardSaid : Prop := Claim7.holds Tryz.pinned (.plain (OpenSpec.ofChange evalCatchesSpec)) evalCatchesCard

/-- THE SECOND FORM's CARD OF 'tenurelaw27.EvalCatches'. -/
def evalCatchesUptoCard : Claim7 := { stood := { row := evalCatchesUptoRow, standIns := [], harness := (true, "50496eb299e191c8c34abe947b7f87c0a9cae91515b6503f49e514c7c0bf0213"), looks := true }, kinds := [], alts := [], laidByText := true, laidKinds := [.data, .data, .data, .handle, .sentinel, .sentinel], laidTests := true, laidLooks := .later }
def EvalCatchesUptoCardSaid : Prop := Claim7.holds Tryz.pinned (.plain (OpenSpec.upto evalCatchesSpec)) evalCatchesUptoCard
end Rows
end Go.Proofs.YtkgnlfmfenmihaaGreatDoor
