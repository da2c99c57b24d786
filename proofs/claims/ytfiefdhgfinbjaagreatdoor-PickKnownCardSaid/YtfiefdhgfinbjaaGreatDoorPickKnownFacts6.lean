/- Closed facts of the card of 'PickKnown' of 'YtfiefdhgfinbjaaGreatDoor', by the kernel. No condition. -/
import Derived.Test.YtfiefdhgfinbjaaGreatDoorTie
import Derived.Test.YtfiefdhgfinbjaaGreatDoorCards
import Derived.SevenTiedAt
namespace Go.Proofs.YtfiefdhgfinbjaaGreatDoor
set_option maxRecDepth 100000 in
theorem pickKnown_hw : Rows.pickKnownRow.wfByText (OpenSpec.ofChange Rows.pickKnownSpec) = true := by kernel_rfl
set_option maxRecDepth 100000 in
theorem pickKnown_hm : Tryz.pinned.checked.prog.mainIs = some (Rows.pickKnownCard.stood.harness.1, Rows.pickKnownCard.stood.harness.2.toList) := by kernel_rfl
set_option maxRecDepth 100000 in
theorem pickKnown_lk : Rows.pickKnownCard.stood.looks = Tryz.pinned.checked.prog.looks [] := by kernel_rfl
end Go.Proofs.YtfiefdhgfinbjaaGreatDoor
