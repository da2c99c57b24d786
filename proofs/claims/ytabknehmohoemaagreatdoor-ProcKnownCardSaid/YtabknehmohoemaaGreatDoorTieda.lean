/- Closed facts of the tie of 'YtabknehmohoemaaGreatDoor', one a theorem, by the kernel. No condition. -/
import Derived.Test.YtabknehmohoemaaGreatDoorTiedd
namespace Go.Proofs.YtabknehmohoemaaGreatDoor
open Go
set_option maxRecDepth 100000 in
theorem tie_t1 : Tryz.prog.worded (varsWordLater true) = true := by kernel_rfl
set_option maxRecDepth 100000 in
theorem tie_t2 : Tryz.prog.worded (varsWordLater !true) = false := by kernel_rfl
set_option maxRecDepth 100000 in
theorem tie_t3 : Tryz.prog.worded rootWordLater = true := by kernel_rfl
end Go.Proofs.YtabknehmohoemaaGreatDoor
