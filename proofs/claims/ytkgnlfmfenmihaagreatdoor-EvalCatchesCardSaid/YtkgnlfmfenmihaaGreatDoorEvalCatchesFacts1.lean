/- Closed facts of the row of 'EvalCatches' of 'YtkgnlfmfenmihaaGreatDoor', by the kernel. No condition. -/
import Derived.Test.YtkgnlfmfenmihaaGreatDoorTie
import Derived.Test.YtkgnlfmfenmihaaGreatDoorCards
import Derived.JoinedOf
namespace Go.Proofs.YtkgnlfmfenmihaaGreatDoor
set_option maxRecDepth 100000 in
theorem evalCatches_fact1 : (laidOutB Tryz.pinned.checked.prog) = true := by kernel_rfl
set_option maxRecDepth 100000 in
theorem evalCatches_fact2 : (mapsRowed Tryz.pinned.checked.prog) = true := by kernel_rfl
end Go.Proofs.YtkgnlfmfenmihaaGreatDoor
