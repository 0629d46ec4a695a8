/- The closed facts of the row of ModelForms, by the kernel's run. Conditions: none. -/
import Derived.Test.YtdhhfiaepnemcaaGreatRows
import Derived.JoinedOf
set_option maxRecDepth 100000
namespace Go.Proofs.YtdhhfiaepnemcaaGreat
open Go Rows
theorem modelForms_found : Tryz.prog.funcNamed Rows.modelFormsRow.func = some 11 := by kernel_rfl
theorem modelForms_inPlace : (Rows.modelFormsRow.inPlace == Tryz.prog.inPlace 11) = true := by kernel_rfl
theorem modelForms_unfollowed : (Rows.modelFormsRow.unfollowed == Tryz.prog.unfollowed 11) = true := by kernel_rfl
theorem modelForms_recurses : (Rows.modelFormsRow.recurses == Tryz.prog.recurses 11) = true := by kernel_rfl
theorem modelForms_named : (Rows.modelFormsRow.named == Tryz.prog.varsNamed 11) = true := by kernel_rfl
end Go.Proofs.YtdhhfiaepnemcaaGreat
