/- The sixth closed fact of the tie of 'YtabknehmohoemaaGreatDoor', piece by piece, by the kernel. No condition. -/
import Derived.Test.YtabknehmohoemaaGreatDoorTiede
namespace Go.Proofs.YtabknehmohoemaaGreatDoor
open Go
set_option maxRecDepth 100000 in
theorem tie_e0 : tieEntry (some LaidKind.sentinel) ((Tryz.prog.globalNamed "strconv.ErrSyntax").getD 0) ("strconv.ErrSyntax", Rows.laid_strconv_ErrSyntax) = true := by kernel_rfl
set_option maxRecDepth 100000 in
theorem tie_e1 : tieEntry (some LaidKind.sentinel) ((Tryz.prog.globalNamed "strconv.ErrRange").getD 0) ("strconv.ErrRange", Rows.laid_strconv_ErrRange) = true := by kernel_rfl
set_option maxRecDepth 100000 in
theorem tie_e2 : tieEntry (some LaidKind.data) ((Tryz.prog.globalNamed "internal/strconv.uint64pow10").getD 0) ("internal/strconv.uint64pow10", Rows.laid_internal_strconv_uint64pow10) = true := by kernel_rfl
set_option maxRecDepth 100000 in
theorem tie_e3 : tieEntry (some LaidKind.data) ((Tryz.prog.globalNamed "math/bits.deBruijn32tab").getD 0) ("math/bits.deBruijn32tab", Rows.laid_math_bits_deBruijn32tab) = true := by kernel_rfl
set_option maxRecDepth 100000 in
theorem tie_e4 : tieEntry (some LaidKind.data) ((Tryz.prog.globalNamed "math/bits.deBruijn64tab").getD 0) ("math/bits.deBruijn64tab", Rows.laid_math_bits_deBruijn64tab) = true := by kernel_rfl
set_option maxRecDepth 100000 in
theorem tie_e5 : tieEntry (some LaidKind.handle) ((Tryz.prog.globalNamed "errors.errorType").getD 0) ("errors.errorType", Rows.laid_errors_errorType) = true := by kernel_rfl
end Go.Proofs.YtabknehmohoemaaGreatDoor
