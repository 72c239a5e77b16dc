/- Joined texts: what the statement needs, walks by program (wip/tools). -/
import Derived.Test.YtgbbgkcjpbdepaaGreatDoorA48
import Derived.Test.YtgbbgkcjpbdepaaGreatDoorA49
import Derived.Test.YtgbbgkcjpbdepaaGreatDoorA50
import Derived.LaidSub
import Derived.SevenTiedAt
set_option linter.unusedVariables false
set_option linter.unusedSimpArgs false
set_option linter.unusedSectionVars false
set_option linter.unnecessarySimpa false
set_option maxRecDepth 100000
namespace Go.Proofs.YtgbbgkcjpbdepaaGreatDoor
open Go
theorem seatTie:Tryz.prog.laidByTextLater laidL [.data,.data,.data,.data,.sentinel,.sentinel] true :=
 Program.laidByTextLater_by_one 400 8 65 tw1 tw2 tw3 tk tg t6 leaves
end Go.Proofs.YtgbbgkcjpbdepaaGreatDoor
set_option maxRecDepth 100000
namespace Go.Proofs.YtgbbgkcjpbdepaaGreatDoor
open Go
theorem yT:Tryz.pinned.checked.prog.pinnedFits "unicode/utf8.first" = true:=by kernel_rfl
theorem noOwnUnsafe:Tryz.pinned.checked.prog.headLifts.contains "ownunsafe" = false:=by kernel_rfl
theorem Y6:Tryz.pinned.checked.prog.listedFits [("internal/strconv.uint64pow10",Rows.laid_internal_strconv_uint64pow10),("math/bits.deBruijn32tab",Rows.laid_math_bits_deBruijn32tab),("math/bits.deBruijn64tab",Rows.laid_math_bits_deBruijn64tab),("unicode/utf8.first",Rows.laid_unicode_utf8_first),("unicode/utf8.acceptRanges",Rows.laid_unicode_utf8_acceptRanges),("strconv.ErrSyntax",Rows.laid_strconv_ErrSyntax),("strconv.ErrRange",Rows.laid_strconv_ErrRange)]=true:=by
 unfold Program.listedFits
 rw [noOwnUnsafe]
 kernel_rfl
theorem y9 : Rows.topSearchedBookRow.laidByTextAt .later Tryz.pinned [.data, .data, .data, .pinned, .data, .sentinel, .sentinel] true :=
  OpenClaim.laidByTextAt_pinned rfl rfl seatTie rfl rfl rfl rfl (fun y hy _e => by
    simp only [Rows.topSearchedBookRow, List.zip_cons_cons, List.zip_nil_right, List.mem_cons, List.mem_nil_iff, or_false] at hy
    rcases hy with rfl | rfl | rfl | rfl | rfl | rfl | rfl
    · cases _e
    · cases _e
    · cases _e
    · exact ⟨yT, by kernel_rfl⟩
    · cases _e
    · cases _e
    · cases _e) Y6
end Go.Proofs.YtgbbgkcjpbdepaaGreatDoor
