/- The closed facts of the row of MachineWhy, by the kernel's run. Conditions: none. -/
import Derived.Test.YtjkllffbjeajhaaGreatRows
import Derived.JoinedOf
set_option maxRecDepth 100000
namespace Go.Proofs.YtjkllffbjeajhaaGreat
open Go Rows
theorem machineWhy_found : Tryz.prog.funcNamed Rows.machineWhyRow.func = some 9 := by kernel_rfl
theorem machineWhy_inPlace : (Rows.machineWhyRow.inPlace == Tryz.prog.inPlace 9) = true := by kernel_rfl
theorem machineWhy_unfollowed : (Rows.machineWhyRow.unfollowed == Tryz.prog.unfollowed 9) = true := by kernel_rfl
theorem machineWhy_recurses : (Rows.machineWhyRow.recurses == Tryz.prog.recurses 9) = true := by kernel_rfl
theorem machineWhy_named : (Rows.machineWhyRow.named == Tryz.prog.varsNamed 9) = true := by kernel_rfl
end Go.Proofs.YtjkllffbjeajhaaGreat
