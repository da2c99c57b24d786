/- Closed facts of the card of 'EvalCatches' of 'YtkgnlfmfenmihaaGreatDoor', by the kernel. No condition. -/
import Derived.Test.YtkgnlfmfenmihaaGreatDoorTie
import Derived.Test.YtkgnlfmfenmihaaGreatDoorCards
import Derived.SevenTiedAt
namespace Go.Proofs.YtkgnlfmfenmihaaGreatDoor
set_option maxRecDepth 100000 in
theorem evalCatches_hw : Rows.evalCatchesRow.wfByText (OpenSpec.ofChange Rows.evalCatchesSpec) = true := by kernel_rfl
set_option maxRecDepth 100000 in
theorem evalCatches_hm : Tryz.pinned.checked.prog.mainIs = some (Rows.evalCatchesCard.stood.harness.1, Rows.evalCatchesCard.stood.harness.2.toList) := by kernel_rfl
set_option maxRecDepth 100000 in
theorem evalCatches_lk : Rows.evalCatchesCard.stood.looks = Tryz.pinned.checked.prog.looks [] := by kernel_rfl
end Go.Proofs.YtkgnlfmfenmihaaGreatDoor
