/- The closed facts of the row of Kern1Flows, by the kernel's run. Conditions: none. -/
import Derived.Test.YtoioonbabnomkaaGreatRows
import Derived.JoinedOf
set_option maxRecDepth 100000
namespace Go.Proofs.YtoioonbabnomkaaGreat
open Go Rows
theorem kern1Flows_found : Tryz.prog.funcNamed Rows.kern1FlowsRow.func = some 6 := by kernel_rfl
theorem kern1Flows_inPlace : (Rows.kern1FlowsRow.inPlace == Tryz.prog.inPlace 6) = true := by kernel_rfl
theorem kern1Flows_unfollowed : (Rows.kern1FlowsRow.unfollowed == Tryz.prog.unfollowed 6) = true := by kernel_rfl
theorem kern1Flows_recurses : (Rows.kern1FlowsRow.recurses == Tryz.prog.recurses 6) = true := by kernel_rfl
theorem kern1Flows_named : (Rows.kern1FlowsRow.named == Tryz.prog.varsNamed 6) = true := by kernel_rfl
end Go.Proofs.YtoioonbabnomkaaGreat
