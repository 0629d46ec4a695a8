/- The closed facts of the row of Kern1All, by the kernel's run. Conditions: none. -/
import Derived.Test.YtoioonbabnomkaaGreatRows
import Derived.JoinedOf
set_option maxRecDepth 100000
namespace Go.Proofs.YtoioonbabnomkaaGreat
open Go Rows
theorem kern1All_found : Tryz.prog.funcNamed Rows.kern1AllRow.func = some 3 := by kernel_rfl
theorem kern1All_inPlace : (Rows.kern1AllRow.inPlace == Tryz.prog.inPlace 3) = true := by kernel_rfl
theorem kern1All_unfollowed : (Rows.kern1AllRow.unfollowed == Tryz.prog.unfollowed 3) = true := by kernel_rfl
theorem kern1All_recurses : (Rows.kern1AllRow.recurses == Tryz.prog.recurses 3) = true := by kernel_rfl
theorem kern1All_named : (Rows.kern1AllRow.named == Tryz.prog.varsNamed 3) = true := by kernel_rfl
end Go.Proofs.YtoioonbabnomkaaGreat
