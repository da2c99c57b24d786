/- Closed facts of the card of 'ScriptNone' of 'YtojecidijdhggaaGreatDoor', by the kernel. No condition. -/
import Derived.Test.YtojecidijdhggaaGreatDoorRows
import Derived.Test.YtojecidijdhggaaGreatDoorCards
import Derived.SevenTiedAt
namespace Go.Proofs.YtojecidijdhggaaGreatDoor
set_option maxRecDepth 100000 in
theorem scriptNone_hw : Rows.scriptNoneRow.wfByText (OpenSpec.ofChange Rows.scriptNoneSpec) = true := by kernel_rfl
set_option maxRecDepth 100000 in
theorem scriptNone_hm : Tryz.pinned.checked.prog.mainIs = some (Rows.scriptNoneCard.stood.harness.1, Rows.scriptNoneCard.stood.harness.2.toList) := by kernel_rfl
set_option maxRecDepth 100000 in
theorem scriptNone_lk : Rows.scriptNoneCard.stood.looks = Tryz.pinned.checked.prog.looks [] := by kernel_rfl
end Go.Proofs.YtojecidijdhggaaGreatDoor
