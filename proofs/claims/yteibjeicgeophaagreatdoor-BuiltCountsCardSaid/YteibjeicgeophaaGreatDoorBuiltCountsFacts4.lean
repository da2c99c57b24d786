/- Closed facts of the row of 'BuiltCounts' of 'YteibjeicgeophaaGreatDoor', by the kernel. No condition. -/
import Derived.Test.YteibjeicgeophaaGreatDoorTie
import Derived.Test.YteibjeicgeophaaGreatDoorCards
import Derived.JoinedOf
namespace Go.Proofs.YteibjeicgeophaaGreatDoor
set_option maxRecDepth 100000 in
theorem builtCounts_fact24 : (Tryz.pinned.checked.prog.stopsHeard) = true := by kernel_rfl
set_option maxRecDepth 100000 in
theorem builtCounts_fact25 : (Tryz.pinned.checked.prog.mayEnter) = true := by kernel_rfl
end Go.Proofs.YteibjeicgeophaaGreatDoor
