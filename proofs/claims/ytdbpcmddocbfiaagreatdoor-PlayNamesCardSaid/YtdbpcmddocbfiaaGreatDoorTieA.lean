/- Closed facts of the tie of the row of PlayNames: the list of its variables without the pinned one, its kinds, and the translation's first word. No condition. -/
import Derived.Test.YtdbpcmddocbfiaaGreatDoorRows
import Derived.LaidByTextLater
import Derived.SevenTiedAt
namespace Go.Proofs.YtdbpcmddocbfiaaGreatDoor
open Go

/-- What the row lists, without the pinned table. -/
def tlaid : List (String × DataW Unit) := [("unicode/utf8.acceptRanges", Rows.laid_unicode_utf8_acceptRanges), ("kindred/play.rows", Rows.laid_kindred_play_rows), ("strconv.ErrSyntax", Rows.laid_strconv_ErrSyntax), ("strconv.ErrRange", Rows.laid_strconv_ErrRange), ("internal/strconv.uint64pow10", Rows.laid_internal_strconv_uint64pow10), ("math/bits.deBruijn32tab", Rows.laid_math_bits_deBruijn32tab), ("math/bits.deBruijn64tab", Rows.laid_math_bits_deBruijn64tab), ("kindred/seal.table", Rows.laid_kindred_seal_table), ("kindred/bits.ones", Rows.laid_kindred_bits_ones)]
theorem twPin : Tryz.pinned.checked.prog.pinnedFits "unicode/utf8.first" = true := by kernel_rfl
theorem twOwn : Tryz.pinned.checked.prog.headLifts.contains "ownunsafe" = false := by kernel_rfl
theorem twFits : Tryz.pinned.checked.prog.listedFits (("unicode/utf8.first", Rows.laid_unicode_utf8_first) :: tlaid) = true := by
  unfold Program.listedFits
  rw [twOwn]
  kernel_rfl
theorem twKinds : tlaid.map (fun x => Tryz.prog.kindOfLater x.1) = [LaidKind.data, .data, .sentinel, .sentinel, .data, .data, .data, .data, .data].map some := by kernel_rfl
theorem twVars : Tryz.prog.funcNamed "gosem.cut.vars" = some 738 := by kernel_rfl
theorem twPlain : (tlaid.all fun x => x.2.handleName?.isNone) = true := by kernel_rfl
theorem twWord : Tryz.prog.worded (varsWordLater true) = true := by kernel_rfl
end Go.Proofs.YtdbpcmddocbfiaaGreatDoor
