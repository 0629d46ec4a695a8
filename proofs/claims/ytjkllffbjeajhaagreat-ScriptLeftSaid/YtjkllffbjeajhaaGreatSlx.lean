/- The closed facts of the row of ScriptLeft, by the kernel's run. Conditions: none. -/
import Derived.Test.YtjkllffbjeajhaaGreatRows
import Derived.JoinedOf
set_option maxRecDepth 100000
namespace Go.Proofs.YtjkllffbjeajhaaGreat
open Go Rows
theorem scriptLeft_found : Tryz.prog.funcNamed Rows.scriptLeftRow.func = some 7 := by kernel_rfl
theorem scriptLeft_inPlace : (Rows.scriptLeftRow.inPlace == Tryz.prog.inPlace 7) = true := by kernel_rfl
theorem scriptLeft_unfollowed : (Rows.scriptLeftRow.unfollowed == Tryz.prog.unfollowed 7) = true := by kernel_rfl
theorem scriptLeft_recurses : (Rows.scriptLeftRow.recurses == Tryz.prog.recurses 7) = true := by kernel_rfl
theorem scriptLeft_named : (Rows.scriptLeftRow.named == Tryz.prog.varsNamed 7) = true := by kernel_rfl
end Go.Proofs.YtjkllffbjeajhaaGreat
