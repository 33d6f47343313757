/- Rounds. Conditions: none. -/
import Derived.Test.YthaebccedgaamaaGreatDoorSS
set_option linter.unusedSimpArgs false
set_option linter.unusedVariables false
section
/- Rounds of SolveSmall. Conditions: none. -/
namespace Go.Abs.C
open Go Go.Abs Go.Proofs
set_option maxRecDepth 1000000
theorem it15 (m : Nat) : one m (s 15) = some (s 16) := by kernel_rfl
theorem it16 (m : Nat) : one m (s 16) = some (s 17) := by kernel_rfl
theorem it17 (m : Nat) : one m (s 17) = some (s 18) := by kernel_rfl
theorem it18 (m : Nat) : one m (s 18) = some (s 19) := by kernel_rfl
end Go.Abs.C
end
