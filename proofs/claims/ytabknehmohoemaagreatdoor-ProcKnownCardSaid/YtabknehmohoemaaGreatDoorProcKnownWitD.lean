/- What the listed variables hold at the witness of the statement 'ProcKnown' of 'YtabknehmohoemaaGreatDoor', by the kernel. No condition. -/
import Derived.Test.YtabknehmohoemaaGreatDoorProcKnownWitZ
namespace Go.Proofs.YtabknehmohoemaaGreatDoor
open Go.ChangeShapes Go.WideShapes Go.ChangeAt Go.RowKit
set_option maxRecDepth 100000 in
theorem procKnown_door (os : Os) (args : Array Value) : laidMetH Tryz.prog Rows.procKnownRow.laid ((procKnown_dw os).forCall (fun _ _ => 0) ⟨#[], args, []⟩).memory :=
  laidMetH_of_parts3 (fuel := 8) (laidMet_of_run' 8 (by kernel_rfl) (by kernel_rfl)) (by kernel_rfl) (by kernel_rfl)
end Go.Proofs.YtabknehmohoemaaGreatDoor
