/- The argument of the witness of the statement 'ProcKnown' of 'YtabknehmohoemaaGreatDoor'. No condition. -/
import Derived.Test.YtabknehmohoemaaGreatDoorRows
import Derived.Test.YtabknehmohoemaaGreatDoorCards
import Derived.Test.YtabknehmohoemaaGreatDoorAbs5
import Derived.Test.YtabknehmohoemaaGreatDoorAs
import Derived.WalkKit
import Derived.ProofKit
import Derived.OpenShut
import Derived.SevenTiedAt
import Derived.ChangeCalls
import Derived.Shelf.Strings.Search3
import Derived.Shelf.Vars
namespace Go.Proofs.YtabknehmohoemaaGreatDoor
open Go.ChangeShapes Go.WideShapes Go.ChangeAt Go.RowKit
noncomputable def procKnown_zero : Array Value := #[]
noncomputable def procKnown_dw (os : Os) : World := { World.holding Tryz.prog os ⟨#[], #[], []⟩ with heap := (varsWorld Tryz.prog 400 821 os (fun _ _ => 0)).heap }
end Go.Proofs.YtabknehmohoemaaGreatDoor
