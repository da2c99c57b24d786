/- The sixth closed fact of the tie of 'YtabknehmohoemaaGreatDoor', piece by piece, by the kernel. No condition. -/
import Derived.Test.YtabknehmohoemaaGreatDoorTiede
namespace Go.Proofs.YtabknehmohoemaaGreatDoor
open Go
set_option maxRecDepth 100000 in
theorem tie_g0 : (Tryz.prog.globalNamed "strconv.ErrSyntax").isSome = true := by kernel_rfl
set_option maxRecDepth 100000 in
theorem tie_g1 : (Tryz.prog.globalNamed "strconv.ErrRange").isSome = true := by kernel_rfl
set_option maxRecDepth 100000 in
theorem tie_g2 : (Tryz.prog.globalNamed "internal/strconv.uint64pow10").isSome = true := by kernel_rfl
set_option maxRecDepth 100000 in
theorem tie_g3 : (Tryz.prog.globalNamed "math/bits.deBruijn32tab").isSome = true := by kernel_rfl
set_option maxRecDepth 100000 in
theorem tie_g4 : (Tryz.prog.globalNamed "math/bits.deBruijn64tab").isSome = true := by kernel_rfl
set_option maxRecDepth 100000 in
theorem tie_g5 : (Tryz.prog.globalNamed "errors.errorType").isSome = true := by kernel_rfl
end Go.Proofs.YtabknehmohoemaaGreatDoor
