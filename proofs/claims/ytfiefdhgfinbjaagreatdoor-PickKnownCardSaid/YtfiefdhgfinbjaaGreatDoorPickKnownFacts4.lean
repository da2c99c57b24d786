/- Closed facts of the row of 'PickKnown' of 'YtfiefdhgfinbjaaGreatDoor', by the kernel. No condition. -/
import Derived.Test.YtfiefdhgfinbjaaGreatDoorTie
import Derived.Test.YtfiefdhgfinbjaaGreatDoorCards
import Derived.JoinedOf
namespace Go.Proofs.YtfiefdhgfinbjaaGreatDoor
set_option maxRecDepth 100000 in
theorem pickKnown_fact22 : ((Rows.pickKnownRow.plainKeys == Tryz.pinned.checked.prog.plainKeys)) = true := by kernel_rfl
set_option maxRecDepth 100000 in
theorem pickKnown_fact24 : (Tryz.pinned.checked.prog.stopsHeard) = true := by kernel_rfl
set_option maxRecDepth 100000 in
theorem pickKnown_fact25 : (Tryz.pinned.checked.prog.mayEnter) = true := by kernel_rfl
end Go.Proofs.YtfiefdhgfinbjaaGreatDoor
