/- The closed facts of the row of Kern1Fails, by the kernel's run. Conditions: none. -/
import Derived.Test.YtoioonbabnomkaaGreatRows
import Derived.JoinedOf
set_option maxRecDepth 100000
namespace Go.Proofs.YtoioonbabnomkaaGreat
open Go Rows
theorem kern1Fails_found : Tryz.prog.funcNamed Rows.kern1FailsRow.func = some 4 := by kernel_rfl
theorem kern1Fails_inPlace : (Rows.kern1FailsRow.inPlace == Tryz.prog.inPlace 4) = true := by kernel_rfl
theorem kern1Fails_unfollowed : (Rows.kern1FailsRow.unfollowed == Tryz.prog.unfollowed 4) = true := by kernel_rfl
theorem kern1Fails_recurses : (Rows.kern1FailsRow.recurses == Tryz.prog.recurses 4) = true := by kernel_rfl
theorem kern1Fails_named : (Rows.kern1FailsRow.named == Tryz.prog.varsNamed 4) = true := by kernel_rfl
end Go.Proofs.YtoioonbabnomkaaGreat
