/- The tables are tied to the program's text. -/
import Derived.Test.YthjcjglemefekaaGreatDoorM09
import Derived.Test.YthjcjglemefekaaGreatDoorRows
import Derived.LaidByTextLater
import Derived.LaidOnce
import Derived.KernelRfl
namespace Go.Proofs.YthjcjglemefekaaGreatDoor
open Go Go.Am
set_option maxRecDepth 100000
abbrev tabs : List (String × DataW Unit) := [("math/bits.deBruijn32tab", Rows.laid_math_bits_deBruijn32tab), ("math/bits.deBruijn64tab", Rows.laid_math_bits_deBruijn64tab), ("internal/strconv.uint64pow10", Rows.laid_internal_strconv_uint64pow10), ("unicode/utf8.acceptRanges", Rows.laid_unicode_utf8_acceptRanges)]
theorem t1 : Tryz.prog.worded (varsWordLater true) = true := worded_of (by kernel_rfl)
theorem t2 : Tryz.prog.worded (varsWordLater !true) = false := worded_of (by kernel_rfl)
theorem t3 : Tryz.prog.worded rootWordLater = true := worded_of (by kernel_rfl)
theorem t4 : tabs.map (fun x => Tryz.prog.kindOfLater x.1) = [LaidKind.data, .data, .data, .data].map some := by kernel_rfl
theorem t5 : (Tryz.prog.funcNamed "gosem.cut.vars").isSome = true := by kernel_rfl
theorem t6 : varsNamedLaterB Tryz.prog (varsId Tryz.prog) tabs = true := by kernel_rfl
theorem t7 (os : Os) (tape : Tape) : doorLeaves Tryz.prog 34 8 65 tabs os tape = some (tabs.filter fun x => x.2.handleName?.isNone, (funcsListed tabs).map (·.2.funcsOut)) := by kernel_rfl
theorem tie1 : Tryz.prog.laidByTextLater tabs [.data, .data, .data, .data] true := Program.laidByTextLater_by_one 34 8 65 t1 t2 t3 t4 t5 t6 t7
end Go.Proofs.YthjcjglemefekaaGreatDoor
