/- The closed facts of the row of ModelTags, by the kernel's run. Conditions: none. -/
import Derived.Test.YtdhhfiaepnemcaaGreatRows
import Derived.JoinedOf
set_option maxRecDepth 100000
namespace Go.Proofs.YtdhhfiaepnemcaaGreat
open Go Rows
theorem modelTags_found : Tryz.prog.funcNamed Rows.modelTagsRow.func = some 12 := by kernel_rfl
theorem modelTags_inPlace : (Rows.modelTagsRow.inPlace == Tryz.prog.inPlace 12) = true := by kernel_rfl
theorem modelTags_unfollowed : (Rows.modelTagsRow.unfollowed == Tryz.prog.unfollowed 12) = true := by kernel_rfl
theorem modelTags_recurses : (Rows.modelTagsRow.recurses == Tryz.prog.recurses 12) = true := by kernel_rfl
theorem modelTags_named : (Rows.modelTagsRow.named == Tryz.prog.varsNamed 12) = true := by kernel_rfl
end Go.Proofs.YtdhhfiaepnemcaaGreat
