/- What the rows of 'YtojecidijdhggaaGreatDoor' list. No condition. -/
import Derived.Test.YtojecidijdhggaaGreatDoorRows
import Derived.LaidByTextLater
import Derived.SevenTiedAt
namespace Go.Proofs.YtojecidijdhggaaGreatDoor
open Go
noncomputable def tieLaid : List (String × DataW Unit) := [("internal/strconv.uint64pow10", Rows.laid_internal_strconv_uint64pow10), ("math/bits.deBruijn32tab", Rows.laid_math_bits_deBruijn32tab), ("math/bits.deBruijn64tab", Rows.laid_math_bits_deBruijn64tab), ("strconv.ErrSyntax", Rows.laid_strconv_ErrSyntax), ("strconv.ErrRange", Rows.laid_strconv_ErrRange)]
end Go.Proofs.YtojecidijdhggaaGreatDoor
