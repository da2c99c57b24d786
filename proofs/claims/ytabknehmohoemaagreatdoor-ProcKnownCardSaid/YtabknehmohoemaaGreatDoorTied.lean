/- The tie of the rows of 'YtabknehmohoemaaGreatDoor': what the listed variables hold is laid by the program's text. No condition. -/
import Derived.Test.YtabknehmohoemaaGreatDoorTieda
import Derived.Test.YtabknehmohoemaaGreatDoorTiedb
import Derived.Test.YtabknehmohoemaaGreatDoorTiedc
import Derived.Test.YtabknehmohoemaaGreatDoorTiedf
namespace Go.Proofs.YtabknehmohoemaaGreatDoor
open Go
theorem noOwnUnsafe : Tryz.pinned.checked.prog.headLifts.contains "ownunsafe" = false := by kernel_rfl
theorem tie : Tryz.prog.laidByTextLater [("strconv.ErrSyntax", Rows.laid_strconv_ErrSyntax), ("strconv.ErrRange", Rows.laid_strconv_ErrRange), ("internal/strconv.uint64pow10", Rows.laid_internal_strconv_uint64pow10), ("math/bits.deBruijn32tab", Rows.laid_math_bits_deBruijn32tab), ("math/bits.deBruijn64tab", Rows.laid_math_bits_deBruijn64tab), ("errors.errorType", Rows.laid_errors_errorType)] [.sentinel, .sentinel, .data, .data, .data, .handle] true :=
  Program.laidByTextLater_by_run_h 400 8 tie_t1 tie_t2 tie_t3 tie_t4 tie_t5 tie_t6 tie_t7 tie_t8 tie_t9 tie_th
theorem procKnown_row_tie : Rows.procKnownRow.laidByTextAt .later Tryz.pinned [.sentinel, .sentinel, .data, .data, .data, .handle] true :=
  OpenClaim.laidByTextAt_later rfl rfl tie noOwnUnsafe
theorem procKnownUpto_row_tie : Rows.procKnownUptoRow.laidByTextAt .later Tryz.pinned [.sentinel, .sentinel, .data, .data, .data, .handle] true :=
  OpenClaim.laidByTextAt_later rfl rfl tie noOwnUnsafe
end Go.Proofs.YtabknehmohoemaaGreatDoor
