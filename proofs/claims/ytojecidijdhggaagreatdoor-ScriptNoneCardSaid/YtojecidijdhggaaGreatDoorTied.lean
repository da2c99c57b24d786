/- The tie of the rows of 'YtojecidijdhggaaGreatDoor': what the listed variables hold is laid by the program's text. No condition. -/
import Derived.Test.YtojecidijdhggaaGreatDoorTieda
import Derived.Test.YtojecidijdhggaaGreatDoorTiedb
import Derived.Test.YtojecidijdhggaaGreatDoorTiedc
namespace Go.Proofs.YtojecidijdhggaaGreatDoor
open Go
theorem noOwnUnsafe : Tryz.pinned.checked.prog.headLifts.contains "ownunsafe" = false := by kernel_rfl
theorem tie : Tryz.prog.laidByTextLater [("internal/strconv.uint64pow10", Rows.laid_internal_strconv_uint64pow10), ("math/bits.deBruijn32tab", Rows.laid_math_bits_deBruijn32tab), ("math/bits.deBruijn64tab", Rows.laid_math_bits_deBruijn64tab), ("strconv.ErrSyntax", Rows.laid_strconv_ErrSyntax), ("strconv.ErrRange", Rows.laid_strconv_ErrRange)] [.data, .data, .data, .sentinel, .sentinel] true :=
  Program.laidByTextLater_by_run 400 8 tie_t1 tie_t2 tie_t3 tie_t4 tie_t5 tie_t6 tie_t7 tie_t8 tie_t9
theorem scriptNone_row_tie : Rows.scriptNoneRow.laidByTextAt .later Tryz.pinned [.data, .data, .data, .sentinel, .sentinel] true :=
  OpenClaim.laidByTextAt_later rfl rfl tie noOwnUnsafe
theorem scriptNoneUpto_row_tie : Rows.scriptNoneUptoRow.laidByTextAt .later Tryz.pinned [.data, .data, .data, .sentinel, .sentinel] true :=
  OpenClaim.laidByTextAt_later rfl rfl tie noOwnUnsafe
end Go.Proofs.YtojecidijdhggaaGreatDoor
