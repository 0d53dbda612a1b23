/- The function that lays the variables is number 820. -/
import Derived.Test.YtnmfbmfefjcnfaaGreatDoorRows
import Derived.LaidByTextLater
namespace Go.Proofs.YtnmfbmfefjcnfaaGreatDoor
open Go
set_option maxHeartbeats 0
set_option maxRecDepth 100000
noncomputable def theLaid : List (String × DataW Unit) := [("internal/strconv.uint64pow10", Rows.laid_internal_strconv_uint64pow10), ("math/bits.deBruijn32tab", Rows.laid_math_bits_deBruijn32tab), ("math/bits.deBruijn64tab", Rows.laid_math_bits_deBruijn64tab), ("unicode/utf8.acceptRanges", Rows.laid_unicode_utf8_acceptRanges), ("strconv.ErrSyntax", Rows.laid_strconv_ErrSyntax), ("strconv.ErrRange", Rows.laid_strconv_ErrRange)]
theorem vid : varsId Tryz.prog = 820 := by kernel_rfl
end Go.Proofs.YtnmfbmfefjcnfaaGreatDoor
