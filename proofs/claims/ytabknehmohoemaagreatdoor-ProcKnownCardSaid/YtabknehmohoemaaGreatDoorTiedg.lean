/- Where the program's own variables are laid: the function's number, by the kernel. No condition. -/
import Derived.Test.YtabknehmohoemaaGreatDoorTiedd
namespace Go.Proofs.YtabknehmohoemaaGreatDoor
open Go
set_option maxRecDepth 100000 in
theorem tie_id : varsId Tryz.prog = 821 := by kernel_rfl
end Go.Proofs.YtabknehmohoemaaGreatDoor
