/- The closed facts of the row of Kern1Cats, by the kernel's run. Conditions: none. -/
import Derived.Test.YtljapedlkdfafaaGreatRows
import Derived.JoinedOf
set_option maxRecDepth 100000
namespace Go.Proofs.YtljapedlkdfafaaGreat
open Go Rows
theorem kern1Cats_found : Tryz.prog.funcNamed Rows.kern1CatsRow.func = some 3 := by kernel_rfl
theorem kern1Cats_inPlace : (Rows.kern1CatsRow.inPlace == Tryz.prog.inPlace 3) = true := by kernel_rfl
theorem kern1Cats_unfollowed : (Rows.kern1CatsRow.unfollowed == Tryz.prog.unfollowed 3) = true := by kernel_rfl
theorem kern1Cats_recurses : (Rows.kern1CatsRow.recurses == Tryz.prog.recurses 3) = true := by kernel_rfl
theorem kern1Cats_named : (Rows.kern1CatsRow.named == Tryz.prog.varsNamed 3) = true := by kernel_rfl
end Go.Proofs.YtljapedlkdfafaaGreat
