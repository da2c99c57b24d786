/- Closed facts of the row of 'ProcKnown' of 'YtabknehmohoemaaGreatDoor', by the kernel. No condition. -/
import Derived.Test.YtabknehmohoemaaGreatDoorRows
import Derived.Test.YtabknehmohoemaaGreatDoorCards
import Derived.JoinedOf
namespace Go.Proofs.YtabknehmohoemaaGreatDoor
set_option maxRecDepth 100000 in
theorem procKnown_fact24 : (Tryz.pinned.checked.prog.stopsHeard) = true := by kernel_rfl
set_option maxRecDepth 100000 in
theorem procKnown_fact25 : (Tryz.pinned.checked.prog.mayEnter) = true := by kernel_rfl
end Go.Proofs.YtabknehmohoemaaGreatDoor
