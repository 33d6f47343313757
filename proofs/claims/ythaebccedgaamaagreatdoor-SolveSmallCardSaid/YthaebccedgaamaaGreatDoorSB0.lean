/- Rounds. Conditions: none. -/
import Derived.Test.YthaebccedgaamaaGreatDoorSS
set_option linter.unusedSimpArgs false
set_option linter.unusedVariables false
section
/- Rounds of SolveSmall. Conditions: none. -/
namespace Go.Abs.C
open Go Go.Abs Go.Proofs
set_option maxRecDepth 1000000
theorem itm1 (m : Nat) : one m (s (-1)) = some (s 0) := by kernel_rfl
theorem it0 (m : Nat) : one m (s 0) = some (s 1) := by kernel_rfl
theorem it1 (m : Nat) : one m (s 1) = some (s 2) := by kernel_rfl
theorem it2 (m : Nat) : one m (s 2) = some (s 3) := by kernel_rfl
theorem it3 (m : Nat) : one m (s 3) = some (s 4) := by kernel_rfl
end Go.Abs.C
end
