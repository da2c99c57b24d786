/- Closed facts of the witness of the statement 'ScriptNone' of 'YtojecidijdhggaaGreatDoor', by the kernel. No condition. -/
import Derived.Test.YtojecidijdhggaaGreatDoorScriptNoneWitZ
namespace Go.Proofs.YtojecidijdhggaaGreatDoor
open Go.ChangeShapes Go.WideShapes Go.ChangeAt Go.RowKit
set_option maxRecDepth 100000 in
theorem scriptNone_w4 (os : Os) (H : Type) (enc : TypeId × Value → H) : Rows.scriptNoneSpec.preB enc Tryz.prog Tryz.f3 Rows.scriptNoneRow.domain false ((World.laidAll Tryz.prog os Rows.scriptNoneRow.laid).forCall (fun _ _ => 0) ⟨#[], scriptNone_zero, []⟩).memory scriptNone_zero 8 = true := by kernel_rfl
set_option maxRecDepth 100000 in
theorem scriptNone_w5 (os : Os) (H : Type) (enc : TypeId × Value → H) : Rows.scriptNoneSpec.sizedB enc Tryz.prog Tryz.f3 false ((World.laidAll Tryz.prog os Rows.scriptNoneRow.laid).forCall (fun _ _ => 0) ⟨#[], scriptNone_zero, []⟩).memory scriptNone_zero 8 = true := by kernel_rfl
end Go.Proofs.YtojecidijdhggaaGreatDoor
