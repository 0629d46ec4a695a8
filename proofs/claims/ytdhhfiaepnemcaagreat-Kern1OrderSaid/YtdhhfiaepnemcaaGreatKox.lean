/- The closed facts of the row of Kern1Order, by the kernel's run. Conditions: none. -/
import Derived.Test.YtdhhfiaepnemcaaGreatRows
import Derived.JoinedOf
set_option maxRecDepth 100000
namespace Go.Proofs.YtdhhfiaepnemcaaGreat
open Go Rows
theorem kern1Order_found : Tryz.prog.funcNamed Rows.kern1OrderRow.func = some 9 := by kernel_rfl
theorem kern1Order_inPlace : (Rows.kern1OrderRow.inPlace == Tryz.prog.inPlace 9) = true := by kernel_rfl
theorem kern1Order_unfollowed : (Rows.kern1OrderRow.unfollowed == Tryz.prog.unfollowed 9) = true := by kernel_rfl
theorem kern1Order_recurses : (Rows.kern1OrderRow.recurses == Tryz.prog.recurses 9) = true := by kernel_rfl
theorem kern1Order_named : (Rows.kern1OrderRow.named == Tryz.prog.varsNamed 9) = true := by kernel_rfl
end Go.Proofs.YtdhhfiaepnemcaaGreat
