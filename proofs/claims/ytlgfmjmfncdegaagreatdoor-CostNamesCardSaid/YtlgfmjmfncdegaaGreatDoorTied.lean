/- The tie of the law's row: facts of the program's text, one by one. No conditions. -/
import Derived.Test.YtlgfmjmfncdegaaGreatDoorTieB
import Derived.Test.YtlgfmjmfncdegaaGreatDoorTieC
import Derived.Test.YtlgfmjmfncdegaaGreatDoorTieD
import Derived.Test.YtlgfmjmfncdegaaGreatDoorTieE
namespace Go.Proofs.YtlgfmjmfncdegaaGreatDoor
open Go
theorem pinFits : Tryz.pinned.checked.prog.pinnedFits "unicode/utf8.first" = true := by
  show Tryz.prog.pinnedFits "unicode/utf8.first" = true
  unfold Program.pinnedFits
  rw [cutVars]
  kernel_rfl
theorem noOwnUnsafe : Tryz.pinned.checked.prog.headLifts.contains "ownunsafe" = false := by kernel_rfl
theorem fits1 : Tryz.pinned.checked.prog.listedFits [("unicode/utf8.first", Rows.laid_unicode_utf8_first), ("unicode/utf8.acceptRanges", Rows.laid_unicode_utf8_acceptRanges), ("strconv.ErrSyntax", Rows.laid_strconv_ErrSyntax), ("strconv.ErrRange", Rows.laid_strconv_ErrRange), ("internal/strconv.uint64pow10", Rows.laid_internal_strconv_uint64pow10), ("math/bits.deBruijn32tab", Rows.laid_math_bits_deBruijn32tab), ("math/bits.deBruijn64tab", Rows.laid_math_bits_deBruijn64tab), ("strings.asciiSpace", Rows.laid_strings_asciiSpace), ("unicode.White_Space", Rows.laid_unicode_White_Space)] = true := by
  unfold Program.listedFits
  rw [noOwnUnsafe]
  kernel_rfl
theorem cutVarsSome : (Tryz.prog.funcNamed "gosem.cut.vars").isSome = true := by rw [cutVars]; rfl
theorem tie : Tryz.prog.laidByTextLater laidB [.data, .sentinel, .sentinel, .data, .data, .data, .data, .listed] true :=
  Program.laidByTextLater_by_run 400 8 tieWord tieNotWord tieRoot (by kernel_rfl) cutVarsSome tieNamed tieDone tieRun tieRows
theorem costNames_row_tie : Rows.costNamesRow.laidByTextAt .later Tryz.pinned [.pinned, .data, .sentinel, .sentinel, .data, .data, .data, .data, .listed] true :=
  OpenClaim.laidByTextAt_pinned rfl rfl tie rfl rfl rfl rfl (fun y hy _e => by
    simp only [Rows.costNamesRow, List.zip_cons_cons, List.zip_nil_right, List.mem_cons, List.mem_nil_iff, or_false] at hy
    rcases hy with rfl | rfl | rfl | rfl | rfl | rfl | rfl | rfl | rfl
    · exact ⟨pinFits, by kernel_rfl⟩
    · cases _e
    · cases _e
    · cases _e
    · cases _e
    · cases _e
    · cases _e
    · cases _e
    · cases _e) fits1
end Go.Proofs.YtlgfmjmfncdegaaGreatDoor
