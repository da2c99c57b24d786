/- Closed facts of the witness of the statement 'ProcKnown' of 'YtabknehmohoemaaGreatDoor', by the kernel. No condition. -/
import Derived.Test.YtabknehmohoemaaGreatDoorProcKnownWitZ
namespace Go.Proofs.YtabknehmohoemaaGreatDoor
open Go.ChangeShapes Go.WideShapes Go.ChangeAt Go.RowKit
set_option maxRecDepth 100000 in
theorem procKnown_w3 (os : Os) : Input.okWideB Tryz.prog ((procKnown_dw os).forCall (fun _ _ => 0) ⟨#[], procKnown_zero, []⟩) 3 ⟨#[], procKnown_zero, []⟩ = true := by kernel_rfl
end Go.Proofs.YtabknehmohoemaaGreatDoor
