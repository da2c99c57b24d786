/-
  DERIVED. GIVEN WITH THE SEED: THE CARDS: each row of YtonikibacahebaaGreatDoorRows.lean that lists a variable, with what it lists TIED to the program's text (the seventh form; the later family's looks); each row that meets fmt, with fmt's text TOLD by the authors' own Lean function (tested against real Go, not proved from fmt's source: count such statements apart). THE CARD IS WHAT COUNTS. Prove the row's statement (the work); the ties are given (YtonikibacahebaaGreatDoorTie.lean); close each card by the builder's one call (the guide's Derived/Test/ToyasCard.lean, 'card_holds'). Laid BY PROGRAM, IN A SANDBOX (cutbox-door.mjs). By AI agents, Wed Nov 11 2026. No macro, syntax, notation, axiom, sorry.
-/
import Derived.Test.YtonikibacahebaaGreatDoorRows
import GoSem.ClaimSeven
namespace Go.Proofs.YtonikibacahebaaGreatDoor
namespace Rows

/-- THE TIED CARD OF 'tenurelaw26.CheckBuilt'. -/
def checkBuiltCard : Claim7 := { stood := { row := checkBuiltRow, standIns := [], harness := (true, "1f7f8954fcbd2366e120f843128c18006bc5e7bf8d33e649635c2455253ea8cf"), looks := true }, kinds := [], alts := [], laidByText := true, laidKinds := [.data, .data, .data, .handle, .sentinel, .sentinel], laidTests := true, laidLooks := .later }
def CheckBuiltCardSaid : Prop := Claim7.holds Tryz.pinned (.plain (OpenSpec.ofChange checkBuiltSpec)) checkBuiltCard

/-- THE TIED CARD OF 'tenurelaw26.CheckKnown'. -/
def checkKnownCard : Claim7 := { stood := { row := checkKnownRow, standIns := [], harness := (true, "1f7f8954fcbd2366e120f843128c18006bc5e7bf8d33e649635c2455253ea8cf"), looks := true }, kinds := [], alts := [], laidByText := true, laidKinds := [.data, .data, .data, .handle, .sentinel, .sentinel], laidTests := true, laidLooks := .later }
def CheckKnownCardSaid : Prop := Claim7.holds Tryz.pinned (.plain (OpenSpec.ofChange checkKnownSpec)) checkKnownCard

/-- THE SECOND FORM's CARD OF 'tenurelaw26.CheckBuilt'. -/
def checkBuiltUptoCard : Claim7 := { stood := { row := checkBuiltUptoRow, standIns := [], harness := (true, "1f7f8954fcbd2366e120f843128c18006bc5e7bf8d33e649635c2455253ea8cf"), looks := true }, kinds := [], alts := [], laidByText := true, laidKinds := [.data, .data, .data, .handle, .sentinel, .sentinel], laidTests := true, laidLooks := .later }
def CheckBuiltUptoCardSaid : Prop := Claim7.holds Tryz.pinned (.plain (OpenSpec.upto checkBuiltSpec)) checkBuiltUptoCard

/-- THE SECOND FORM's CARD OF 'tenurelaw26.CheckKnown'. -/
def checkKnownUptoCard : Claim7 := { stood := { row := checkKnownUptoRow, standIns := [], harness := (true, "1f7f8954fcbd2366e120f843128c18006bc5e7bf8d33e649635c2455253ea8cf"), looks := true }, kinds := [], alts := [], laidByText := true, laidKinds := [.data, .data, .data, .handle, .sentinel, .sentinel], laidTests := true, laidLooks := .later }
def CheckKnownUptoCardSaid : Prop := Claim7.holds Tryz.pinned (.plain (OpenSpec.upto checkKnownSpec)) checkKnownUptoCard
end Rows
end Go.Proofs.YtonikibacahebaaGreatDoor
