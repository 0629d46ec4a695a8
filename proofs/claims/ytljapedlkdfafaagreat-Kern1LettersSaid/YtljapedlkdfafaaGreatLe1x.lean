/- The closed facts of the row of Kern1Letters, by the kernel's run. Conditions: none. -/
import Derived.Test.YtljapedlkdfafaaGreatRows
import Derived.JoinedOf
set_option maxRecDepth 100000
namespace Go.Proofs.YtljapedlkdfafaaGreat
open Go Rows
theorem kern1Letters_found : Tryz.prog.funcNamed Rows.kern1LettersRow.func = some 6 := by kernel_rfl
theorem kern1Letters_inPlace : (Rows.kern1LettersRow.inPlace == Tryz.prog.inPlace 6) = true := by kernel_rfl
theorem kern1Letters_unfollowed : (Rows.kern1LettersRow.unfollowed == Tryz.prog.unfollowed 6) = true := by kernel_rfl
theorem kern1Letters_recurses : (Rows.kern1LettersRow.recurses == Tryz.prog.recurses 6) = true := by kernel_rfl
theorem kern1Letters_named : (Rows.kern1LettersRow.named == Tryz.prog.varsNamed 6) = true := by kernel_rfl
end Go.Proofs.YtljapedlkdfafaaGreat
