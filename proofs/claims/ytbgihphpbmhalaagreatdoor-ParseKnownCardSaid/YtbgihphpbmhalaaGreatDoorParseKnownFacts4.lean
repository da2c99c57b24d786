/- Closed facts of the row of 'ParseKnown' of 'YtbgihphpbmhalaaGreatDoor', by the kernel. No condition. -/
import Derived.Test.YtbgihphpbmhalaaGreatDoorTie
import Derived.Test.YtbgihphpbmhalaaGreatDoorCards
import Derived.JoinedOf
namespace Go.Proofs.YtbgihphpbmhalaaGreatDoor
set_option maxRecDepth 100000 in
theorem parseKnown_fact24 : (Tryz.pinned.checked.prog.stopsHeard) = true := by kernel_rfl
set_option maxRecDepth 100000 in
theorem parseKnown_fact25 : (Tryz.pinned.checked.prog.mayEnter) = true := by kernel_rfl
end Go.Proofs.YtbgihphpbmhalaaGreatDoor
