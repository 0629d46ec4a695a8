/- The closed facts of the row of Kern1Drops, by the kernel's run. Conditions: none. -/
import Derived.Test.YtdhhfiaepnemcaaGreatRows
import Derived.JoinedOf
set_option maxRecDepth 100000
namespace Go.Proofs.YtdhhfiaepnemcaaGreat
open Go Rows
theorem kern1Drops_found : Tryz.prog.funcNamed Rows.kern1DropsRow.func = some 7 := by kernel_rfl
theorem kern1Drops_inPlace : (Rows.kern1DropsRow.inPlace == Tryz.prog.inPlace 7) = true := by kernel_rfl
theorem kern1Drops_unfollowed : (Rows.kern1DropsRow.unfollowed == Tryz.prog.unfollowed 7) = true := by kernel_rfl
theorem kern1Drops_recurses : (Rows.kern1DropsRow.recurses == Tryz.prog.recurses 7) = true := by kernel_rfl
theorem kern1Drops_named : (Rows.kern1DropsRow.named == Tryz.prog.varsNamed 7) = true := by kernel_rfl
end Go.Proofs.YtdhhfiaepnemcaaGreat
