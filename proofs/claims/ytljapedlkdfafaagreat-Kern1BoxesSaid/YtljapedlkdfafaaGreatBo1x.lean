/- The closed facts of the row of Kern1Boxes, by the kernel's run. Conditions: none. -/
import Derived.Test.YtljapedlkdfafaaGreatRows
import Derived.JoinedOf
set_option maxRecDepth 100000
namespace Go.Proofs.YtljapedlkdfafaaGreat
open Go Rows
theorem kern1Boxes_found : Tryz.prog.funcNamed Rows.kern1BoxesRow.func = some 4 := by kernel_rfl
theorem kern1Boxes_inPlace : (Rows.kern1BoxesRow.inPlace == Tryz.prog.inPlace 4) = true := by kernel_rfl
theorem kern1Boxes_unfollowed : (Rows.kern1BoxesRow.unfollowed == Tryz.prog.unfollowed 4) = true := by kernel_rfl
theorem kern1Boxes_recurses : (Rows.kern1BoxesRow.recurses == Tryz.prog.recurses 4) = true := by kernel_rfl
theorem kern1Boxes_named : (Rows.kern1BoxesRow.named == Tryz.prog.varsNamed 4) = true := by kernel_rfl
end Go.Proofs.YtljapedlkdfafaaGreat
