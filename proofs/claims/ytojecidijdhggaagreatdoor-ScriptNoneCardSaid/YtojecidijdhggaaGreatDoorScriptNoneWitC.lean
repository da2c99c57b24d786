/- Closed facts of the witness of the statement 'ScriptNone' of 'YtojecidijdhggaaGreatDoor', by the kernel. No condition. -/
import Derived.Test.YtojecidijdhggaaGreatDoorScriptNoneWitZ
namespace Go.Proofs.YtojecidijdhggaaGreatDoor
open Go.ChangeShapes Go.WideShapes Go.ChangeAt Go.RowKit
set_option maxRecDepth 100000 in
theorem scriptNone_w6 : (Rows.scriptNoneRow.laid.all fun x => x.2.handleName?.isNone) = true := by kernel_rfl
set_option maxRecDepth 100000 in
theorem scriptNone_w7 (os : Os) : (World.holding Tryz.prog os ⟨#[], #[], []⟩).layFits Tryz.prog Rows.scriptNoneRow.laid [] = true := by kernel_rfl
set_option maxRecDepth 100000 in
theorem scriptNone_w8 (os : Os) : (World.holding Tryz.prog os ⟨#[], #[], []⟩).layIfaces Tryz.prog Rows.scriptNoneRow.laid (World.laidAll Tryz.prog os Rows.scriptNoneRow.laid) = true := by kernel_rfl
theorem scriptNone_w9 (os : Os) : laidMetH Tryz.prog Rows.scriptNoneRow.laid ((World.laidAll Tryz.prog os Rows.scriptNoneRow.laid).forCall (fun _ _ => 0) ⟨#[], scriptNone_zero, []⟩).memory := by
  rw [MakeChecks.laidMetH_plain _ _ _ scriptNone_w6]
  exact laidMet_laidAll _ (scriptNone_w7 os) (scriptNone_w8 os)
end Go.Proofs.YtojecidijdhggaaGreatDoor
