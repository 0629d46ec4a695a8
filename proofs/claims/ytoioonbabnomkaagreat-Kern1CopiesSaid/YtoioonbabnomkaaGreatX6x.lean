/- The closed facts of the row of Kern1Copies, by the kernel's run. Conditions: none. -/
import Derived.Test.YtoioonbabnomkaaGreatRows
import Derived.JoinedOf
set_option maxRecDepth 100000
namespace Go.Proofs.YtoioonbabnomkaaGreat
open Go Rows
theorem kern1Copies_found : Tryz.prog.funcNamed Rows.kern1CopiesRow.func = some 8 := by kernel_rfl
theorem kern1Copies_inPlace : (Rows.kern1CopiesRow.inPlace == Tryz.prog.inPlace 8) = true := by kernel_rfl
theorem kern1Copies_unfollowed : (Rows.kern1CopiesRow.unfollowed == Tryz.prog.unfollowed 8) = true := by kernel_rfl
theorem kern1Copies_recurses : (Rows.kern1CopiesRow.recurses == Tryz.prog.recurses 8) = true := by kernel_rfl
theorem kern1Copies_named : (Rows.kern1CopiesRow.named == Tryz.prog.varsNamed 8) = true := by kernel_rfl
end Go.Proofs.YtoioonbabnomkaaGreat
