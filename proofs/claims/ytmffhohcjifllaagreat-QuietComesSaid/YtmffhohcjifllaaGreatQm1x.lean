/- The closed facts of the row of QuietComes, by the kernel's run. Conditions: none. -/
import Derived.Test.YtmffhohcjifllaaGreatRows
import Derived.JoinedOf
set_option maxRecDepth 100000
namespace Go.Proofs.YtmffhohcjifllaaGreat
open Go Rows
theorem quietComes_found : Tryz.prog.funcNamed Rows.quietComesRow.func = some 3 := by kernel_rfl
theorem quietComes_inPlace : (Rows.quietComesRow.inPlace == Tryz.prog.inPlace 3) = true := by kernel_rfl
theorem quietComes_unfollowed : (Rows.quietComesRow.unfollowed == Tryz.prog.unfollowed 3) = true := by kernel_rfl
theorem quietComes_recurses : (Rows.quietComesRow.recurses == Tryz.prog.recurses 3) = true := by kernel_rfl
theorem quietComes_named : (Rows.quietComesRow.named == Tryz.prog.varsNamed 3) = true := by kernel_rfl
end Go.Proofs.YtmffhohcjifllaaGreat
