/- Closed facts of the witness of the statement 'ScriptNone' of 'YtojecidijdhggaaGreatDoor', by the kernel. No condition. -/
import Derived.Test.YtojecidijdhggaaGreatDoorScriptNoneWitZ
namespace Go.Proofs.YtojecidijdhggaaGreatDoor
open Go.ChangeShapes Go.WideShapes Go.ChangeAt Go.RowKit
set_option maxRecDepth 100000 in
theorem scriptNone_w1 (os : Os) : ((World.laidAll Tryz.prog os Rows.scriptNoneRow.laid).forCall (fun _ _ => 0) ⟨#[], scriptNone_zero, []⟩).variablesZipB Tryz.prog = true := by kernel_rfl
set_option maxRecDepth 100000 in
theorem scriptNone_w2 (os : Os) : (((World.laidAll Tryz.prog os Rows.scriptNoneRow.laid).forCall (fun _ _ => 0) ⟨#[], scriptNone_zero, []⟩).heap.toList.drop Tryz.prog.globals.size).take ((begin Tryz.prog (fun _ _ => 0) default).world.heap.size - Tryz.prog.globals.size) = (begin Tryz.prog (fun _ _ => 0) default).world.heap.toList.drop Tryz.prog.globals.size := by kernel_rfl
set_option maxRecDepth 100000 in
theorem scriptNone_w3 (os : Os) : Input.okWideB Tryz.prog ((World.laidAll Tryz.prog os Rows.scriptNoneRow.laid).forCall (fun _ _ => 0) ⟨#[], scriptNone_zero, []⟩) 3 ⟨#[], scriptNone_zero, []⟩ = true := by kernel_rfl
end Go.Proofs.YtojecidijdhggaaGreatDoor
