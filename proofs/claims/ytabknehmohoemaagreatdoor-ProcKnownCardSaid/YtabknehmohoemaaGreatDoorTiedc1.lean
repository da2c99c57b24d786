/- Closed facts of the tie of 'YtabknehmohoemaaGreatDoor', one a theorem, by the kernel. No condition. -/
import Derived.Test.YtabknehmohoemaaGreatDoorTiedd
namespace Go.Proofs.YtabknehmohoemaaGreatDoor
open Go
set_option maxRecDepth 100000 in
theorem tie_t7_r : ∀ os tape, varsDone Tryz.prog 400 821 os tape = true := fun _ _ => by kernel_rfl
end Go.Proofs.YtabknehmohoemaaGreatDoor
