/- The tie of the law's row: facts of the program's text, one by one. No conditions. -/
import Derived.Test.YtlgfmjmfncdegaaGreatDoorRows
import Derived.LaidByTextLater
import Derived.SevenTiedAt
namespace Go.Proofs.YtlgfmjmfncdegaaGreatDoor
open Go
theorem cutVars : Tryz.prog.funcNamed "gosem.cut.vars" = some 780 := by kernel_rfl
theorem varsId_eq : varsId Tryz.prog = 780 := by unfold varsId; rw [cutVars]; rfl
abbrev laidB : List (String × DataW Unit) := [("unicode/utf8.acceptRanges", Rows.laid_unicode_utf8_acceptRanges), ("strconv.ErrSyntax", Rows.laid_strconv_ErrSyntax), ("strconv.ErrRange", Rows.laid_strconv_ErrRange), ("internal/strconv.uint64pow10", Rows.laid_internal_strconv_uint64pow10), ("math/bits.deBruijn32tab", Rows.laid_math_bits_deBruijn32tab), ("math/bits.deBruijn64tab", Rows.laid_math_bits_deBruijn64tab), ("strings.asciiSpace", Rows.laid_strings_asciiSpace), ("unicode.White_Space", Rows.laid_unicode_White_Space)]
end Go.Proofs.YtlgfmjmfncdegaaGreatDoor
