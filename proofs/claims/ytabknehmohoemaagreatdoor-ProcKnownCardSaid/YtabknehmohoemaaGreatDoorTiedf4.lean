/- The sixth closed fact of the tie of 'YtabknehmohoemaaGreatDoor', piece by piece, by the kernel. No condition. -/
import Derived.Test.YtabknehmohoemaaGreatDoorTiede
namespace Go.Proofs.YtabknehmohoemaaGreatDoor
open Go
set_option maxRecDepth 100000 in
theorem tie_c0 : (Tryz.prog.funcs[821]?).bind (·.body) = some tieBody := by kernel_rfl
set_option maxRecDepth 100000 in
theorem tie_c1 : tieBody.laysInOrder [] = some tieStored := by kernel_rfl
set_option maxRecDepth 100000 in
theorem tie_c2 : (tieStored.eraseDups.length == tieStored.length) = true := by kernel_rfl
end Go.Proofs.YtabknehmohoemaaGreatDoor
