/- The head of the rounds. Conditions: none. -/
import Derived.Test.YthaebccedgaamaaGreatDoorSA
set_option linter.unusedSimpArgs false
set_option linter.unusedVariables false
section
/- The head of the rounds of SolveSmall. Conditions: none. -/
namespace Go.Abs.C
open Go Go.Abs Go.Proofs
set_option maxRecDepth 1000000
def body2 (c : AC) : AC := match c with | .hint _ (.hint _ b) => b | c => c
def hd4 (st : ASt) : Option ASt := (doHint (.keep [1, 4]) st).bind (doHint .norm)
def s (n : Int) : ASt := ⟨[(1, (.ptr 0 0)), (4, (.int .i64 n))], [.row [(.msl 1 0 1 1), (.int .i64 0), (.int .i64 1), (.int .i64 4), (.int .i64 1), (.bool false), (.msl 2 0 1 1)], .row [(.int .i64 1)], .row [(.msl 3 0 1 1)], .row [(.msl 4 0 1 1)], .row [(.int .i64 0), (.int .i64 0), (.int .i64 0), (.int .i64 11), (.int .i64 0), .nils]], [], 0, 248, none⟩
noncomputable def one (m : Nat) (x : ASt) : Option ASt := match codeF T (semsF T M0 (m + 300)) (body2 f4l2) x with | some (.normal, y) => hd4 y | _ => none
end Go.Abs.C
end
