/- Rounds. Conditions: none. -/
import Derived.Test.YthaebccedgaamaaGreatDoorSS
set_option linter.unusedSimpArgs false
set_option linter.unusedVariables false
section
/- Rounds of SolveSmall. Conditions: none. -/
namespace Go.Abs.C
open Go Go.Abs Go.Proofs
set_option maxRecDepth 1000000
theorem it8 (m : Nat) : one m (s 8) = some (s 9) := by kernel_rfl
theorem it9 (m : Nat) : one m (s 9) = some (s 10) := by kernel_rfl
theorem it10 (m : Nat) : one m (s 10) = some (s 11) := by kernel_rfl
theorem it11 (m : Nat) : one m (s 11) = some (s 12) := by kernel_rfl
end Go.Abs.C
end
