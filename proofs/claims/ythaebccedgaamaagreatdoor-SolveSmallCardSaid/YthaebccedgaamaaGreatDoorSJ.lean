/- The closed facts of the row. Conditions: none. -/
import Derived.Test.YthaebccedgaamaaGreatDoorRows
import Derived.KernelRfl
import Derived.JoinedOf
set_option linter.unusedSimpArgs false
set_option linter.unusedVariables false
section
/- The closed facts of the row of SolveSmall. Conditions: none. -/
namespace Go.Abs.C
open Go Go.Proofs Go.Proofs.YthaebccedgaamaaGreatDoor
set_option maxRecDepth 100000
theorem j4I : Tryz.prog.inPlace 4 = Rows.solveSmallRow.inPlace := by kernel_rfl
theorem j4U : Tryz.prog.unfollowed 4 = true := by kernel_rfl
theorem j4R : Tryz.prog.recurses 4 = true := by kernel_rfl
theorem j4N : Tryz.prog.varsNamed 4 = Rows.solveSmallRow.named := by kernel_rfl
theorem j4F : joinedFacts Tryz.prog 4 Tryz.f4 Rows.solveSmallSpec Rows.solveSmallRow = true := by
  simp only [joinedFacts, j4I, j4U, j4R, j4N]
  kernel_rfl
end Go.Abs.C
end
