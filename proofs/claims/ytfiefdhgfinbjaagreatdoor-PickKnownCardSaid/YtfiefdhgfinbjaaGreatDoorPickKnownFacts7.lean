/- Closed facts of the card of 'PickKnown' of 'YtfiefdhgfinbjaaGreatDoor', by the kernel. No condition. -/
import Derived.Test.YtfiefdhgfinbjaaGreatDoorTie
import Derived.Test.YtfiefdhgfinbjaaGreatDoorCards
import Derived.SevenTiedAt
namespace Go.Proofs.YtfiefdhgfinbjaaGreatDoor
set_option maxRecDepth 100000 in
theorem pickKnown_gb : false = Rows.pickKnownRow.goesBy Tryz.pinned.checked.prog := by kernel_rfl
end Go.Proofs.YtfiefdhgfinbjaaGreatDoor
