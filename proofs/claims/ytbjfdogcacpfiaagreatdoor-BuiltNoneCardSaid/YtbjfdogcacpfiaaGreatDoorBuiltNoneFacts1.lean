/- Closed facts of the row of 'BuiltNone' of 'YtbjfdogcacpfiaaGreatDoor', by the kernel. No condition. -/
import Derived.Test.YtbjfdogcacpfiaaGreatDoorTie
import Derived.Test.YtbjfdogcacpfiaaGreatDoorCards
import Derived.JoinedOf
namespace Go.Proofs.YtbjfdogcacpfiaaGreatDoor
set_option maxRecDepth 100000 in
theorem builtNone_fact1 : (laidOutB Tryz.pinned.checked.prog) = true := by kernel_rfl
set_option maxRecDepth 100000 in
theorem builtNone_fact2 : (mapsRowed Tryz.pinned.checked.prog) = true := by kernel_rfl
end Go.Proofs.YtbjfdogcacpfiaaGreatDoor
