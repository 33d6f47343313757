/- Rounds. Conditions: none. -/
import Derived.Test.YthaebccedgaamaaGreatDoorSS
set_option linter.unusedSimpArgs false
set_option linter.unusedVariables false
section
/- Rounds of SolveSmall. Conditions: none. -/
namespace Go.Abs.C
open Go Go.Abs Go.Proofs
set_option maxRecDepth 1000000
theorem it4 (m : Nat) : one m (s 4) = some (s 5) := by kernel_rfl
theorem it5 (m : Nat) : one m (s 5) = some (s 6) := by kernel_rfl
theorem it6 (m : Nat) : one m (s 6) = some (s 7) := by kernel_rfl
theorem it7 (m : Nat) : one m (s 7) = some (s 8) := by kernel_rfl
end Go.Abs.C
end
