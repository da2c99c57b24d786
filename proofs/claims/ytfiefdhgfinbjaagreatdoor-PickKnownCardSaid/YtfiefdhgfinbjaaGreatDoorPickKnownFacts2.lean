/- Closed facts of the row of 'PickKnown' of 'YtfiefdhgfinbjaaGreatDoor', by the kernel. No condition. -/
import Derived.Test.YtfiefdhgfinbjaaGreatDoorTie
import Derived.Test.YtfiefdhgfinbjaaGreatDoorCards
import Derived.JoinedOf
namespace Go.Proofs.YtfiefdhgfinbjaaGreatDoor
set_option maxRecDepth 100000 in
theorem pickKnown_fact9 : ((Rows.pickKnownRow.inPlace == Tryz.pinned.checked.prog.inPlace 4)) = true := by kernel_rfl
set_option maxRecDepth 100000 in
theorem pickKnown_fact10 : ((Rows.pickKnownRow.unfollowed == Tryz.pinned.checked.prog.unfollowed 4)) = true := by kernel_rfl
end Go.Proofs.YtfiefdhgfinbjaaGreatDoor
