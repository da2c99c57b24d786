/- Closed facts of the tie of 'YtabknehmohoemaaGreatDoor', one a theorem, by the kernel. No condition. -/
import Derived.Test.YtabknehmohoemaaGreatDoorTiedd
namespace Go.Proofs.YtabknehmohoemaaGreatDoor
open Go
set_option maxRecDepth 100000 in
theorem tie_t9_r : ∀ os tape, (DataW.laidRun Tryz.prog (varsWorld Tryz.prog 400 821 os tape).memory 8 ((tieLaid.filter fun x => x.2.handleName?.isNone).map (·.1))).map (fun x => decide x.2.Nodup && laidRowsB Tryz.prog (varsWorld Tryz.prog 400 821 os tape).memory x.2) = some true := fun _ _ => by kernel_rfl
end Go.Proofs.YtabknehmohoemaaGreatDoor
