/- The closed facts of the row of ShimLevels, by the kernel's run. Conditions: none. -/
import Derived.Test.YtdhhfiaepnemcaaGreatRows
import Derived.JoinedOf
set_option maxRecDepth 100000
namespace Go.Proofs.YtdhhfiaepnemcaaGreat
open Go Rows
theorem shimLevels_found : Tryz.prog.funcNamed Rows.shimLevelsRow.func = some 10 := by kernel_rfl
theorem shimLevels_inPlace : (Rows.shimLevelsRow.inPlace == Tryz.prog.inPlace 10) = true := by kernel_rfl
theorem shimLevels_unfollowed : (Rows.shimLevelsRow.unfollowed == Tryz.prog.unfollowed 10) = true := by kernel_rfl
theorem shimLevels_recurses : (Rows.shimLevelsRow.recurses == Tryz.prog.recurses 10) = true := by kernel_rfl
theorem shimLevels_named : (Rows.shimLevelsRow.named == Tryz.prog.varsNamed 10) = true := by kernel_rfl
end Go.Proofs.YtdhhfiaepnemcaaGreat
