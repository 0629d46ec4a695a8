/- The closed facts of the row of ScriptBack, by the kernel's run. Conditions: none. -/
import Derived.Test.YtjkllffbjeajhaaGreatRows
import Derived.JoinedOf
set_option maxRecDepth 100000
namespace Go.Proofs.YtjkllffbjeajhaaGreat
open Go Rows
theorem scriptBack_found : Tryz.prog.funcNamed Rows.scriptBackRow.func = some 5 := by kernel_rfl
theorem scriptBack_inPlace : (Rows.scriptBackRow.inPlace == Tryz.prog.inPlace 5) = true := by kernel_rfl
theorem scriptBack_unfollowed : (Rows.scriptBackRow.unfollowed == Tryz.prog.unfollowed 5) = true := by kernel_rfl
theorem scriptBack_recurses : (Rows.scriptBackRow.recurses == Tryz.prog.recurses 5) = true := by kernel_rfl
theorem scriptBack_named : (Rows.scriptBackRow.named == Tryz.prog.varsNamed 5) = true := by kernel_rfl
end Go.Proofs.YtjkllffbjeajhaaGreat
