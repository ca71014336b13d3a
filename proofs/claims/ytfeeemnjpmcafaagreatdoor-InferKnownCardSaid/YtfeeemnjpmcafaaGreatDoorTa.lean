/- What the listed variables are tied to. -/
import Derived.Test.YtfeeemnjpmcafaaGreatDoorRows
import Derived.Test.YtfeeemnjpmcafaaGreatDoorCl0
import Derived.LaidByTextLater
import Derived.LaidOnce
import Derived.KernelRfl
namespace Go.Proofs.YtfeeemnjpmcafaaGreatDoor
open Go Go.Ev
set_option maxRecDepth 100000
def tieList : List (String × DataW Unit) := [("unicode/utf8.acceptRanges", Rows.laid_unicode_utf8_acceptRanges), ("hallmark/syntax.bindings", Rows.laid_hallmark_syntax_bindings), ("internal/strconv.uint64pow10", Rows.laid_internal_strconv_uint64pow10), ("math/bits.deBruijn32tab", Rows.laid_math_bits_deBruijn32tab), ("math/bits.deBruijn64tab", Rows.laid_math_bits_deBruijn64tab), ("hallmark/narrow.facing", Rows.laid_hallmark_narrow_facing), ("strconv.ErrSyntax", Rows.laid_strconv_ErrSyntax), ("strconv.ErrRange", Rows.laid_strconv_ErrRange)]
def tieKinds : List LaidKind := [.data, .data, .data, .data, .data, .data, .sentinel, .sentinel]
theorem tt1 : Tryz.prog.worded (varsWordLater true) = true := worded_fast (by kernel_rfl)
theorem tt2 : Tryz.prog.worded (varsWordLater !true) = false := worded_fast (by kernel_rfl)
theorem tt3 : Tryz.prog.worded rootWordLater = true := worded_fast (by kernel_rfl)
theorem tt4 : tieList.map (fun x => Tryz.prog.kindOfLater x.1) = tieKinds.map some := by kernel_rfl
theorem tt5 : Tryz.prog.funcNamed "gosem.cut.vars" = some 820 := funcNamed_fast (by kernel_rfl)
theorem varsId_eq : varsId Tryz.prog = 820 := by
  unfold varsId
  rw [tt5]
  rfl
end Go.Proofs.YtfeeemnjpmcafaaGreatDoor
