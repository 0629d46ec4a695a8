/- The closed facts of the row of UpdateFirst, by the kernel's run. Conditions: none. -/
import Derived.Test.YtjkllffbjeajhaaGreatRows
import Derived.JoinedOf
set_option maxRecDepth 100000
namespace Go.Proofs.YtjkllffbjeajhaaGreat
open Go Rows
theorem updateFirst_found : Tryz.prog.funcNamed Rows.updateFirstRow.func = some 3 := by kernel_rfl
theorem updateFirst_inPlace : (Rows.updateFirstRow.inPlace == Tryz.prog.inPlace 3) = true := by kernel_rfl
theorem updateFirst_unfollowed : (Rows.updateFirstRow.unfollowed == Tryz.prog.unfollowed 3) = true := by kernel_rfl
theorem updateFirst_recurses : (Rows.updateFirstRow.recurses == Tryz.prog.recurses 3) = true := by kernel_rfl
theorem updateFirst_named : (Rows.updateFirstRow.named == Tryz.prog.varsNamed 3) = true := by kernel_rfl
end Go.Proofs.YtjkllffbjeajhaaGreat
