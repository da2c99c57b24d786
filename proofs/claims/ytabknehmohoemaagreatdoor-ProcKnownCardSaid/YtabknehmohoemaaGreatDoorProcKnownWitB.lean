/- Closed facts of the witness of the statement 'ProcKnown' of 'YtabknehmohoemaaGreatDoor', by the kernel. No condition. -/
import Derived.Test.YtabknehmohoemaaGreatDoorProcKnownWitZ
namespace Go.Proofs.YtabknehmohoemaaGreatDoor
open Go.ChangeShapes Go.WideShapes Go.ChangeAt Go.RowKit
set_option maxRecDepth 100000 in
theorem procKnown_w4 (os : Os) (H : Type) (enc : TypeId × Value → H) : Rows.procKnownSpec.preB enc Tryz.prog Tryz.f3 Rows.procKnownRow.domain false ((procKnown_dw os).forCall (fun _ _ => 0) ⟨#[], procKnown_zero, []⟩).memory procKnown_zero 8 = true := by kernel_rfl
set_option maxRecDepth 100000 in
theorem procKnown_w5 (os : Os) (H : Type) (enc : TypeId × Value → H) : Rows.procKnownSpec.sizedB enc Tryz.prog Tryz.f3 false ((procKnown_dw os).forCall (fun _ _ => 0) ⟨#[], procKnown_zero, []⟩).memory procKnown_zero 8 = true := by kernel_rfl
end Go.Proofs.YtabknehmohoemaaGreatDoor
