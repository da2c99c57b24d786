/- The sixth closed fact of the tie of 'YtabknehmohoemaaGreatDoor', piece by piece, by the kernel. No condition. -/
import Derived.Test.YtabknehmohoemaaGreatDoorTiede
namespace Go.Proofs.YtabknehmohoemaaGreatDoor
open Go
set_option maxRecDepth 100000 in
theorem tie_k0 : Tryz.prog.kindBase "strconv.ErrSyntax" = some LaidKind.sentinel := by kernel_rfl
set_option maxRecDepth 100000 in
theorem tie_k1 : Tryz.prog.kindBase "strconv.ErrRange" = some LaidKind.sentinel := by kernel_rfl
set_option maxRecDepth 100000 in
theorem tie_k2 : Tryz.prog.kindBase "internal/strconv.uint64pow10" = some LaidKind.data := by kernel_rfl
set_option maxRecDepth 100000 in
theorem tie_k3 : Tryz.prog.kindBase "math/bits.deBruijn32tab" = some LaidKind.data := by kernel_rfl
set_option maxRecDepth 100000 in
theorem tie_k4 : Tryz.prog.kindBase "math/bits.deBruijn64tab" = some LaidKind.data := by kernel_rfl
set_option maxRecDepth 100000 in
theorem tie_k5 : Tryz.prog.kindBase "errors.errorType" = some LaidKind.handle := by kernel_rfl
end Go.Proofs.YtabknehmohoemaaGreatDoor
