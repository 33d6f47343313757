/- Rounds. Conditions: none. -/
import Derived.Test.YthaebccedgaamaaGreatDoorSS
set_option linter.unusedSimpArgs false
set_option linter.unusedVariables false
section
/- Rounds of SolveSmall. Conditions: none. -/
namespace Go.Abs.C
open Go Go.Abs Go.Proofs
set_option maxRecDepth 1000000
theorem it12 (m : Nat) : one m (s 12) = some (s 13) := by kernel_rfl
theorem it13 (m : Nat) : one m (s 13) = some (s 14) := by kernel_rfl
theorem it14 (m : Nat) : one m (s 14) = some (s 15) := by kernel_rfl
end Go.Abs.C
end
