/- The closed facts of the row of Kern1Stats, by the kernel's run. Conditions: none. -/
import Derived.Test.YtljapedlkdfafaaGreatRows
import Derived.JoinedOf
set_option maxRecDepth 100000
namespace Go.Proofs.YtljapedlkdfafaaGreat
open Go Rows
theorem kern1Stats_found : Tryz.prog.funcNamed Rows.kern1StatsRow.func = some 5 := by kernel_rfl
theorem kern1Stats_inPlace : (Rows.kern1StatsRow.inPlace == Tryz.prog.inPlace 5) = true := by kernel_rfl
theorem kern1Stats_unfollowed : (Rows.kern1StatsRow.unfollowed == Tryz.prog.unfollowed 5) = true := by kernel_rfl
theorem kern1Stats_recurses : (Rows.kern1StatsRow.recurses == Tryz.prog.recurses 5) = true := by kernel_rfl
theorem kern1Stats_named : (Rows.kern1StatsRow.named == Tryz.prog.varsNamed 5) = true := by kernel_rfl
end Go.Proofs.YtljapedlkdfafaaGreat
