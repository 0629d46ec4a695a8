/- Facts of the program that every row asks for, by the kernel's run: the second part. Conditions: none. -/
import Derived.Test.YtmffhohcjifllaaGreatRows
import Derived.JoinedOf
set_option maxRecDepth 100000
namespace Go.Proofs.YtmffhohcjifllaaGreat
open Go Rows
theorem Tryz.enter : Tryz.prog.mayEnter = true := by kernel_rfl
theorem Tryz.noLifts : (Rows.quietComesRow.lifted == Tryz.prog.liftsFinal) = true := by kernel_rfl
theorem Tryz.made : (Tryz.prog.make == some Rows.quietComesRow.make) = true := by kernel_rfl
end Go.Proofs.YtmffhohcjifllaaGreat
