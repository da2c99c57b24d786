/- Closed facts of the row of 'PickKnown' of 'YtfiefdhgfinbjaaGreatDoor', by the kernel. No condition. -/
import Derived.Test.YtfiefdhgfinbjaaGreatDoorTie
import Derived.Test.YtfiefdhgfinbjaaGreatDoorCards
import Derived.JoinedOf
namespace Go.Proofs.YtfiefdhgfinbjaaGreatDoor
set_option maxRecDepth 100000 in
theorem pickKnown_fact11 : ((Rows.pickKnownRow.recurses == Tryz.pinned.checked.prog.recurses 4)) = true := by kernel_rfl
set_option maxRecDepth 100000 in
theorem pickKnown_fact12 : ((Rows.pickKnownRow.named == Tryz.pinned.checked.prog.varsNamed 4)) = true := by kernel_rfl
end Go.Proofs.YtfiefdhgfinbjaaGreatDoor
