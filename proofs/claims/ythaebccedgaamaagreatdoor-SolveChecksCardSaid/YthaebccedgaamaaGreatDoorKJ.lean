/- The closed facts of the row. Conditions: none. -/
import Derived.Test.YthaebccedgaamaaGreatDoorRows
import Derived.KernelRfl
import Derived.JoinedOf
set_option linter.unusedSimpArgs false
set_option linter.unusedVariables false
section
/- The closed facts of the row of SolveChecks. Conditions: none. -/
namespace Go.Abs.C
open Go Go.Proofs Go.Proofs.YthaebccedgaamaaGreatDoor
set_option maxRecDepth 100000
theorem jI : Tryz.prog.inPlace 3 = Rows.solveChecksRow.inPlace := by kernel_rfl
theorem jU : Tryz.prog.unfollowed 3 = true := by kernel_rfl
theorem jR : Tryz.prog.recurses 3 = true := by kernel_rfl
theorem jN : Tryz.prog.varsNamed 3 = Rows.solveChecksRow.named := by kernel_rfl
theorem jF : joinedFacts Tryz.prog 3 Tryz.f3 Rows.solveChecksSpec Rows.solveChecksRow = true := by
  simp only [joinedFacts, jI, jU, jR, jN]
  kernel_rfl
end Go.Abs.C
end
