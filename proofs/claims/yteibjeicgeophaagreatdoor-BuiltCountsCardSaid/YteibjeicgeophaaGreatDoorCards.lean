/-
  DERIVED. GIVEN WITH THE SEED: THE CARDS: each row of YteibjeicgeophaaGreatDoorRows.lean that lists a variable, with what it lists TIED to the program's text (the seventh form; the later family's looks); each row that meets fmt, with fmt's text TOLD by the authors' own Lean function (tested against real Go, not proved from fmt's source: count such statements apart). THE CARD IS WHAT COUNTS. Prove the row's statement (the work); the ties are given (YteibjeicgeophaaGreatDoorTie.lean); close each card by the builder's one call (the guide's Derived/Test/ToyasCard.lean, 'card_holds'). Laid BY PROGRAM, IN A SANDBOX (cutbox-door.mjs). By AI agents, Wed Nov 11 2026. No macro, syntax, notation, axiom, sorry.
-/
import Derived.Test.YteibjeicgeophaaGreatDoorRows
import GoSem.ClaimSeven
namespace Go.Proofs.YteibjeicgeophaaGreatDoor
namespace Rows

/-- THE TIED CARD OF 'tenurelaw28.BuiltCounts'. -/
def builtCountsCard : Claim7 := { stood := { row := builtCountsRow, standIns := [], harness := (true, "49f4e46b4eb15ef24eb3c7f15da0a7548f75af04eba91f24ed41f017fb44b423"), looks := false }, kinds := [], alts := [], laidByText := true, laidKinds := [.data, .data, .data], laidTests := true, laidLooks := .later }
def BuiltCountsCardSaid : Prop := Claim7.holds Tryz.pinned (.plain (OpenSpec.ofChange builtCountsSpec)) builtCountsCard

/-- THE SECOND FORM's CARD OF 'tenurelaw28.BuiltCounts'. -/
def builtCountsUptoCard : Claim7 := { stood := { row := builtCountsUptoRow, standIns := [], harness := (true, "49f4e46b4eb15ef24eb3c7f15da0a7548f75af04eba91f24ed41f017fb44b423"), looks := false }, kinds := [], alts := [], laidByText := true, laidKinds := [.data, .data, .data], laidTests := true, laidLooks := .later }
def BuiltCountsUptoCardSaid : Prop := Claim7.holds Tryz.pinned (.plain (OpenSpec.upto builtCountsSpec)) builtCountsUptoCard
end Rows
end Go.Proofs.YteibjeicgeophaaGreatDoor
