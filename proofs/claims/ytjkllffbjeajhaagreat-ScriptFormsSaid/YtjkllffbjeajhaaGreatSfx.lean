/- The closed facts of the row of ScriptForms, by the kernel's run. Conditions: none. -/
import Derived.Test.YtjkllffbjeajhaaGreatRows
import Derived.JoinedOf
set_option maxRecDepth 100000
namespace Go.Proofs.YtjkllffbjeajhaaGreat
open Go Rows
theorem scriptForms_found : Tryz.prog.funcNamed Rows.scriptFormsRow.func = some 6 := by kernel_rfl
theorem scriptForms_inPlace : (Rows.scriptFormsRow.inPlace == Tryz.prog.inPlace 6) = true := by kernel_rfl
theorem scriptForms_unfollowed : (Rows.scriptFormsRow.unfollowed == Tryz.prog.unfollowed 6) = true := by kernel_rfl
theorem scriptForms_recurses : (Rows.scriptFormsRow.recurses == Tryz.prog.recurses 6) = true := by kernel_rfl
theorem scriptForms_named : (Rows.scriptFormsRow.named == Tryz.prog.varsNamed 6) = true := by kernel_rfl
end Go.Proofs.YtjkllffbjeajhaaGreat
