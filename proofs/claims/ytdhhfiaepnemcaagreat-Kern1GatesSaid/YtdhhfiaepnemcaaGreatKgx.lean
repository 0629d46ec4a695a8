/- The closed facts of the row of Kern1Gates, by the kernel's run. Conditions: none. -/
import Derived.Test.YtdhhfiaepnemcaaGreatRows
import Derived.JoinedOf
set_option maxRecDepth 100000
namespace Go.Proofs.YtdhhfiaepnemcaaGreat
open Go Rows
theorem kern1Gates_found : Tryz.prog.funcNamed Rows.kern1GatesRow.func = some 5 := by kernel_rfl
theorem kern1Gates_inPlace : (Rows.kern1GatesRow.inPlace == Tryz.prog.inPlace 5) = true := by kernel_rfl
theorem kern1Gates_unfollowed : (Rows.kern1GatesRow.unfollowed == Tryz.prog.unfollowed 5) = true := by kernel_rfl
theorem kern1Gates_recurses : (Rows.kern1GatesRow.recurses == Tryz.prog.recurses 5) = true := by kernel_rfl
theorem kern1Gates_named : (Rows.kern1GatesRow.named == Tryz.prog.varsNamed 5) = true := by kernel_rfl
end Go.Proofs.YtdhhfiaepnemcaaGreat
