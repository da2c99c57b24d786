/- The sixth closed fact of the tie of 'YtabknehmohoemaaGreatDoor', piece by piece, by the kernel. No condition. -/
import Derived.Test.YtabknehmohoemaaGreatDoorTiede
namespace Go.Proofs.YtabknehmohoemaaGreatDoor
open Go
set_option maxRecDepth 100000 in
theorem tie_d2 : (tieBody.tempsApart 0).isSome = true := by kernel_rfl
set_option maxRecDepth 100000 in
theorem tie_d5 : ((tieBody.storedByHandle Tryz.prog).all fun v => Tryz.prog.globalNamed "errors.errorType" == some v) = true := by kernel_rfl
end Go.Proofs.YtabknehmohoemaaGreatDoor
