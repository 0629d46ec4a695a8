/- Facts of the program that every row asks for, by the kernel's run: the second part. Conditions: none. -/
import Derived.Test.YtoioonbabnomkaaGreatRows
import Derived.JoinedOf
set_option maxRecDepth 100000
namespace Go.Proofs.YtoioonbabnomkaaGreat
open Go Rows
theorem Tryz.enter : Tryz.prog.mayEnter = true := by kernel_rfl
theorem Tryz.noLifts : (Rows.kern1AllRow.lifted == Tryz.prog.liftsFinal) = true := by kernel_rfl
theorem Tryz.made : (Tryz.prog.make == some Rows.kern1AllRow.make) = true := by kernel_rfl
end Go.Proofs.YtoioonbabnomkaaGreat
