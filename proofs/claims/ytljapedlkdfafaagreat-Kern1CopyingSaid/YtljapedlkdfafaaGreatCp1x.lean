/- The closed facts of the row of Kern1Copying, by the kernel's run. Conditions: none. -/
import Derived.Test.YtljapedlkdfafaaGreatRows
import Derived.JoinedOf
set_option maxRecDepth 100000
namespace Go.Proofs.YtljapedlkdfafaaGreat
open Go Rows
theorem kern1Copying_found : Tryz.prog.funcNamed Rows.kern1CopyingRow.func = some 7 := by kernel_rfl
theorem kern1Copying_inPlace : (Rows.kern1CopyingRow.inPlace == Tryz.prog.inPlace 7) = true := by kernel_rfl
theorem kern1Copying_unfollowed : (Rows.kern1CopyingRow.unfollowed == Tryz.prog.unfollowed 7) = true := by kernel_rfl
theorem kern1Copying_recurses : (Rows.kern1CopyingRow.recurses == Tryz.prog.recurses 7) = true := by kernel_rfl
theorem kern1Copying_named : (Rows.kern1CopyingRow.named == Tryz.prog.varsNamed 7) = true := by kernel_rfl
end Go.Proofs.YtljapedlkdfafaaGreat
