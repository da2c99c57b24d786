/- Closed facts of the card of 'EvalCatches' of 'YtkgnlfmfenmihaaGreatDoor', by the kernel. No condition. -/
import Derived.Test.YtkgnlfmfenmihaaGreatDoorTie
import Derived.Test.YtkgnlfmfenmihaaGreatDoorCards
import Derived.SevenTiedAt
namespace Go.Proofs.YtkgnlfmfenmihaaGreatDoor
set_option maxRecDepth 100000 in
theorem evalCatches_gb : false = Rows.evalCatchesRow.goesBy Tryz.pinned.checked.prog := by kernel_rfl
end Go.Proofs.YtkgnlfmfenmihaaGreatDoor
