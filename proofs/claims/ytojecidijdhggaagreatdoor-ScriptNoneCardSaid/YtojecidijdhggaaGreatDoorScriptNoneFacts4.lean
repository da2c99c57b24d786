/- Closed facts of the row of 'ScriptNone' of 'YtojecidijdhggaaGreatDoor', by the kernel. No condition. -/
import Derived.Test.YtojecidijdhggaaGreatDoorRows
import Derived.Test.YtojecidijdhggaaGreatDoorCards
import Derived.JoinedOf
namespace Go.Proofs.YtojecidijdhggaaGreatDoor
set_option maxRecDepth 100000 in
theorem scriptNone_fact24 : (Tryz.pinned.checked.prog.stopsHeard) = true := by kernel_rfl
set_option maxRecDepth 100000 in
theorem scriptNone_fact25 : (Tryz.pinned.checked.prog.mayEnter) = true := by kernel_rfl
end Go.Proofs.YtojecidijdhggaaGreatDoor
