/- The closed facts of the row of Kern1Costs, by the kernel's run. Conditions: none. -/
import Derived.Test.YtoioonbabnomkaaGreatRows
import Derived.JoinedOf
set_option maxRecDepth 100000
namespace Go.Proofs.YtoioonbabnomkaaGreat
open Go Rows
theorem kern1Costs_found : Tryz.prog.funcNamed Rows.kern1CostsRow.func = some 5 := by kernel_rfl
theorem kern1Costs_inPlace : (Rows.kern1CostsRow.inPlace == Tryz.prog.inPlace 5) = true := by kernel_rfl
theorem kern1Costs_unfollowed : (Rows.kern1CostsRow.unfollowed == Tryz.prog.unfollowed 5) = true := by kernel_rfl
theorem kern1Costs_recurses : (Rows.kern1CostsRow.recurses == Tryz.prog.recurses 5) = true := by kernel_rfl
theorem kern1Costs_named : (Rows.kern1CostsRow.named == Tryz.prog.varsNamed 5) = true := by kernel_rfl
end Go.Proofs.YtoioonbabnomkaaGreat
