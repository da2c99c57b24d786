/- Closed facts of the row of 'EvalCatches' of 'YtkgnlfmfenmihaaGreatDoor', by the kernel. No condition. -/
import Derived.Test.YtkgnlfmfenmihaaGreatDoorTie
import Derived.Test.YtkgnlfmfenmihaaGreatDoorCards
import Derived.JoinedOf
namespace Go.Proofs.YtkgnlfmfenmihaaGreatDoor
set_option maxRecDepth 100000 in
theorem evalCatches_fact22 : ((Rows.evalCatchesRow.plainKeys == Tryz.pinned.checked.prog.plainKeys)) = true := by kernel_rfl
set_option maxRecDepth 100000 in
theorem evalCatches_fact24 : (Tryz.pinned.checked.prog.stopsHeard) = true := by kernel_rfl
set_option maxRecDepth 100000 in
theorem evalCatches_fact25 : (Tryz.pinned.checked.prog.mayEnter) = true := by kernel_rfl
end Go.Proofs.YtkgnlfmfenmihaaGreatDoor
