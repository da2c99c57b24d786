/- Closed facts of the tie of 'YtojecidijdhggaaGreatDoor', one a theorem, by the kernel. No condition. -/
import Derived.Test.YtojecidijdhggaaGreatDoorTiedd
namespace Go.Proofs.YtojecidijdhggaaGreatDoor
open Go
set_option maxRecDepth 100000 in
theorem tie_t7 : ∀ os tape, varsDone Tryz.prog 400 (varsId Tryz.prog) os tape = true := fun _ _ => by kernel_rfl
set_option maxRecDepth 100000 in
theorem tie_t8 : ∀ os tape, (DataW.laidRun Tryz.prog (varsWorld Tryz.prog 400 (varsId Tryz.prog) os tape).memory 8 (tieLaid.map (·.1))).map (·.1) = some tieLaid := fun _ _ => by kernel_rfl
set_option maxRecDepth 100000 in
theorem tie_t9 : ∀ os tape, (DataW.laidRun Tryz.prog (varsWorld Tryz.prog 400 (varsId Tryz.prog) os tape).memory 8 (tieLaid.map (·.1))).map (fun x => decide x.2.Nodup && laidRowsB Tryz.prog (varsWorld Tryz.prog 400 (varsId Tryz.prog) os tape).memory x.2) = some true := fun _ _ => by kernel_rfl
end Go.Proofs.YtojecidijdhggaaGreatDoor
