/- The row's tie. -/
import Derived.Test.YtfeeemnjpmcafaaGreatDoorTx
import Derived.Test.YtfeeemnjpmcafaaGreatDoorTz
import Derived.Test.YtfeeemnjpmcafaaGreatDoorTw
import Derived.SevenTiedAt
import Derived.LaidSub
namespace Go.Proofs.YtfeeemnjpmcafaaGreatDoor
open Go Go.Ev
set_option maxRecDepth 100000
theorem tie : Tryz.prog.laidByTextLater tieList tieKinds true :=
  Program.laidByTextLater_by_run 400 8 tt1 tt2 tt3 tt4 (by rw [tt5]; rfl) tt6 tt7 tt8 tt9
theorem pin_laid_unicode_utf8_first : Tryz.pinned.checked.prog.pinnedFits "unicode/utf8.first" = true := by kernel_rfl
theorem noOwnUnsafe : Tryz.pinned.checked.prog.headLifts.contains "ownunsafe" = false := by kernel_rfl
theorem fits1 : Tryz.pinned.checked.prog.listedFits [("unicode/utf8.first", Rows.laid_unicode_utf8_first), ("unicode/utf8.acceptRanges", Rows.laid_unicode_utf8_acceptRanges), ("hallmark/syntax.bindings", Rows.laid_hallmark_syntax_bindings), ("internal/strconv.uint64pow10", Rows.laid_internal_strconv_uint64pow10), ("math/bits.deBruijn32tab", Rows.laid_math_bits_deBruijn32tab), ("math/bits.deBruijn64tab", Rows.laid_math_bits_deBruijn64tab), ("hallmark/narrow.facing", Rows.laid_hallmark_narrow_facing), ("strconv.ErrSyntax", Rows.laid_strconv_ErrSyntax), ("strconv.ErrRange", Rows.laid_strconv_ErrRange)] = true := by
  unfold Program.listedFits
  rw [noOwnUnsafe]
  kernel_rfl
theorem inferKnown_row_tie : Rows.inferKnownRow.laidByTextAt .later Tryz.pinned [.pinned, .data, .data, .data, .data, .data, .data, .sentinel, .sentinel] true :=
  OpenClaim.laidByTextAt_pinned rfl rfl tie rfl rfl rfl rfl (fun y hy _e => by
    simp only [Rows.inferKnownRow, List.zip_cons_cons, List.zip_nil_right, List.mem_cons, List.mem_nil_iff, or_false] at hy
    rcases hy with rfl | rfl | rfl | rfl | rfl | rfl | rfl | rfl | rfl
    · exact ⟨pin_laid_unicode_utf8_first, by kernel_rfl⟩
    · cases _e
    · cases _e
    · cases _e
    · cases _e
    · cases _e
    · cases _e
    · cases _e
    · cases _e) fits1
end Go.Proofs.YtfeeemnjpmcafaaGreatDoor
