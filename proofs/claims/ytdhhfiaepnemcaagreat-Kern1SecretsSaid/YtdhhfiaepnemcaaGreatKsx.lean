/- The closed facts of the row of Kern1Secrets, by the kernel's run. Conditions: none. -/
import Derived.Test.YtdhhfiaepnemcaaGreatRows
import Derived.JoinedOf
set_option maxRecDepth 100000
namespace Go.Proofs.YtdhhfiaepnemcaaGreat
open Go Rows
theorem kern1Secrets_found : Tryz.prog.funcNamed Rows.kern1SecretsRow.func = some 4 := by kernel_rfl
theorem kern1Secrets_inPlace : (Rows.kern1SecretsRow.inPlace == Tryz.prog.inPlace 4) = true := by kernel_rfl
theorem kern1Secrets_unfollowed : (Rows.kern1SecretsRow.unfollowed == Tryz.prog.unfollowed 4) = true := by kernel_rfl
theorem kern1Secrets_recurses : (Rows.kern1SecretsRow.recurses == Tryz.prog.recurses 4) = true := by kernel_rfl
theorem kern1Secrets_named : (Rows.kern1SecretsRow.named == Tryz.prog.varsNamed 4) = true := by kernel_rfl
end Go.Proofs.YtdhhfiaepnemcaaGreat
