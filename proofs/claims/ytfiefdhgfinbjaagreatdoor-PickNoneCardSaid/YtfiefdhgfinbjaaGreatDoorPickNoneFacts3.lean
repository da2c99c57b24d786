/- Closed facts of the row of 'PickNone' of 'YtfiefdhgfinbjaaGreatDoor', by the kernel. No condition. -/
import Derived.Test.YtfiefdhgfinbjaaGreatDoorTie
import Derived.Test.YtfiefdhgfinbjaaGreatDoorCards
import Derived.JoinedOf
namespace Go.Proofs.YtfiefdhgfinbjaaGreatDoor
set_option maxRecDepth 100000 in
theorem pickNone_fact11 : ((Rows.pickNoneRow.recurses == Tryz.pinned.checked.prog.recurses 3)) = true := by kernel_rfl
set_option maxRecDepth 100000 in
theorem pickNone_fact12 : ((Rows.pickNoneRow.named == Tryz.pinned.checked.prog.varsNamed 3)) = true := by kernel_rfl
end Go.Proofs.YtfiefdhgfinbjaaGreatDoor
