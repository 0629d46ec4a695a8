/- The closed facts of the row of MachineTags, by the kernel's run. Conditions: none. -/
import Derived.Test.YtjkllffbjeajhaaGreatRows
import Derived.JoinedOf
set_option maxRecDepth 100000
namespace Go.Proofs.YtjkllffbjeajhaaGreat
open Go Rows
theorem machineTags_found : Tryz.prog.funcNamed Rows.machineTagsRow.func = some 8 := by kernel_rfl
theorem machineTags_inPlace : (Rows.machineTagsRow.inPlace == Tryz.prog.inPlace 8) = true := by kernel_rfl
theorem machineTags_unfollowed : (Rows.machineTagsRow.unfollowed == Tryz.prog.unfollowed 8) = true := by kernel_rfl
theorem machineTags_recurses : (Rows.machineTagsRow.recurses == Tryz.prog.recurses 8) = true := by kernel_rfl
theorem machineTags_named : (Rows.machineTagsRow.named == Tryz.prog.varsNamed 8) = true := by kernel_rfl
end Go.Proofs.YtjkllffbjeajhaaGreat
