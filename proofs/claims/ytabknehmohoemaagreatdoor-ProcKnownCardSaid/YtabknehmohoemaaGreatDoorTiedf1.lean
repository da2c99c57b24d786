/- The sixth closed fact of the tie of 'YtabknehmohoemaaGreatDoor', piece by piece, by the kernel. No condition. -/
import Derived.Test.YtabknehmohoemaaGreatDoorTiede
namespace Go.Proofs.YtabknehmohoemaaGreatDoor
open Go
set_option maxRecDepth 100000 in
theorem tie_d1 : tieBody.unfollowedBeside Tryz.prog = false := by kernel_rfl
end Go.Proofs.YtabknehmohoemaaGreatDoor
