/- Closed facts of the card of 'PickNone' of 'YtfiefdhgfinbjaaGreatDoor', by the kernel. No condition. -/
import Derived.Test.YtfiefdhgfinbjaaGreatDoorTie
import Derived.Test.YtfiefdhgfinbjaaGreatDoorCards
import Derived.SevenTiedAt
namespace Go.Proofs.YtfiefdhgfinbjaaGreatDoor
set_option maxRecDepth 100000 in
theorem pickNone_hw : Rows.pickNoneRow.wfByText (OpenSpec.ofChange Rows.pickNoneSpec) = true := by kernel_rfl
set_option maxRecDepth 100000 in
theorem pickNone_hm : Tryz.pinned.checked.prog.mainIs = some (Rows.pickNoneCard.stood.harness.1, Rows.pickNoneCard.stood.harness.2.toList) := by kernel_rfl
set_option maxRecDepth 100000 in
theorem pickNone_lk : Rows.pickNoneCard.stood.looks = Tryz.pinned.checked.prog.looks [] := by kernel_rfl
end Go.Proofs.YtfiefdhgfinbjaaGreatDoor
