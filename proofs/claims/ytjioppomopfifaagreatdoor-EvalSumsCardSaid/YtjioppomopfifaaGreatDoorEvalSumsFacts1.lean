/- Closed facts of the row of 'EvalSums' of 'YtjioppomopfifaaGreatDoor', by the kernel. No condition. -/
import Derived.Test.YtjioppomopfifaaGreatDoorTie
import Derived.Test.YtjioppomopfifaaGreatDoorCards
import Derived.JoinedOf
namespace Go.Proofs.YtjioppomopfifaaGreatDoor
set_option maxRecDepth 100000 in
theorem QL:(laidOutB Tryz.pinned.checked.prog)=true:=by kernel_rfl
set_option maxRecDepth 100000 in
theorem QK:(mapsRowed Tryz.pinned.checked.prog)=true:=by kernel_rfl
end Go.Proofs.YtjioppomopfifaaGreatDoor
