/-
  NARROWER THAN 'FOR EVERY INPUT', by the rows' own cells (each row's printed sentence says how): SolveChecks: laid · SolveSmall: laid · SolveMore: laid · SolveCosts: laid.
  DERIVED. THE GIVEN ROWS OF THIS SEAT. 4 by the template 'for every input the law returns true; each argument reads behind the call as it read before'; 0 by the template 'total and deterministic' (their statements: YthaebccedgaamaaGreatDoorTotals.lean).
  GIVEN WITH THE SEED: the statements are not yours to turn. If you find one false, say at which input.
  Laid BY PROGRAM, IN A SANDBOX (cutbox-rows.mjs): the forced cells as the released guide's own fill.sh prints them over the translation b7b3492c38a1a013… (all of the seat's roots in one cut). By AI agents, Wed Nov 11 2026. No macro, syntax, notation, axiom, sorry.
-/
import Derived.Test.YthaebccedgaamaaGreatDoorChecked
import GoSem.Claim
import GoSem.ClaimJoined
import GoSem.ClaimMapViews
import Derived.JoinedTies
import Derived.KernelRfl
namespace Go.Proofs.YthaebccedgaamaaGreatDoor
/- THE CELL 'sum', in the pinned program and in every row, IS THE sha256 OF THE DUMP (.gsa) THAT YthaebccedgaamaaGreatDoorProg.lean LOADS. Nothing in Lean hashes anything: it is a label: what it is worth is what the hold of that sum in a sandbox is worth. -/
noncomputable def Tryz.pinned : Pinned := { name := "ythaebccedgaamaagreatdoor", sum := "b7b3492c38a1a013c48f9426e79bfc699197c6b856a62fcbe77cd7ae0c103062", checked := Tryz.checked }
namespace Rows
def none {H : Type} : Left H := { results := [], args := [] }

/- WHAT THE LISTED PACKAGE-LEVEL VARIABLES READ AS WHEN THE CALL BEGINS. Each datum BY PROGRAM (the guide's laid-datum.mjs) off the statement by which the dump's own 'gosem.cut.vars' lays the variable. In a bare row this is a premise. The card (YthaebccedgaamaaGreatDoorCards.lean) ties it to the program's text. -/
def laid_custos_cell_zones {H : Type} : DataW H := .agg [.lit (.int .i64 4), .lit (.int .i64 10), .lit (.int .i64 (-2))]

/-- 'custoslaw10.SolveChecks': WHATEVER THE INPUT: true; the input reads as it did. -/
def solveChecksSpec : ChangeSpec := { name := "solveChecks", fn := fun _ => fun
  | [d1, d2, d3] => { results := [.lit (.bool true)], args := [d1, d2, d3] }
  | _ => none }
def solveChecksRow : OpenClaim := { program := "ythaebccedgaamaagreatdoor", sum := "b7b3492c38a1a013c48f9426e79bfc699197c6b856a62fcbe77cd7ae0c103062", func := "custos/custoslaw10.SolveChecks", spec := "solveChecks", unfollowed := true, recurses := true, named := ["custos/cell.zones"], plainKeys := false, apart := false, laid := [("custos/cell.zones", laid_custos_cell_zones)] }
def SolveChecksSaid : Prop := solveChecksRow.holds Tryz.pinned (OpenSpec.ofChange solveChecksSpec)

/-- ITS FALSE NEIGHBOUR: 'it returns false'. Refute it at one input. -/
def solveChecksWrong : ChangeSpec := { name := "solveChecks", fn := fun _ => fun
  | [d1, d2, d3] => { results := [.lit (.bool false)], args := [d1, d2, d3] }
  | _ => none }
def SolveChecksWrongFalsely : Prop := solveChecksRow.holds Tryz.pinned (OpenSpec.ofChange solveChecksWrong)

/-- 'custoslaw10.SolveSmall': WHATEVER THE INPUT: true; the input reads as it did. -/
def solveSmallSpec : ChangeSpec := { name := "solveSmall", fn := fun _ => fun
  | [] => { results := [.lit (.bool true)], args := [] }
  | _ => none }
def solveSmallRow : OpenClaim := { program := "ythaebccedgaamaagreatdoor", sum := "b7b3492c38a1a013c48f9426e79bfc699197c6b856a62fcbe77cd7ae0c103062", func := "custos/custoslaw10.SolveSmall", spec := "solveSmall", unfollowed := true, recurses := true, named := ["custos/cell.zones"], plainKeys := false, apart := false, laid := [("custos/cell.zones", laid_custos_cell_zones)] }
def SolveSmallSaid : Prop := solveSmallRow.holds Tryz.pinned (OpenSpec.ofChange solveSmallSpec)

/-- ITS FALSE NEIGHBOUR: 'it returns false'. Refute it at one input. -/
def solveSmallWrong : ChangeSpec := { name := "solveSmall", fn := fun _ => fun
  | [] => { results := [.lit (.bool false)], args := [] }
  | _ => none }
def SolveSmallWrongFalsely : Prop := solveSmallRow.holds Tryz.pinned (OpenSpec.ofChange solveSmallWrong)

/-- 'custoslaw10.SolveMore': WHATEVER THE INPUT: true; the input reads as it did. -/
def solveMoreSpec : ChangeSpec := { name := "solveMore", fn := fun _ => fun
  | [d1, d2, d3, d4] => { results := [.lit (.bool true)], args := [d1, d2, d3, d4] }
  | _ => none }
def solveMoreRow : OpenClaim := { program := "ythaebccedgaamaagreatdoor", sum := "b7b3492c38a1a013c48f9426e79bfc699197c6b856a62fcbe77cd7ae0c103062", func := "custos/custoslaw10.SolveMore", spec := "solveMore", unfollowed := true, recurses := true, named := ["custos/cell.zones"], plainKeys := false, apart := false, laid := [("custos/cell.zones", laid_custos_cell_zones)] }
def SolveMoreSaid : Prop := solveMoreRow.holds Tryz.pinned (OpenSpec.ofChange solveMoreSpec)

/-- ITS FALSE NEIGHBOUR: 'it returns false'. Refute it at one input. -/
def solveMoreWrong : ChangeSpec := { name := "solveMore", fn := fun _ => fun
  | [d1, d2, d3, d4] => { results := [.lit (.bool false)], args := [d1, d2, d3, d4] }
  | _ => none }
def SolveMoreWrongFalsely : Prop := solveMoreRow.holds Tryz.pinned (OpenSpec.ofChange solveMoreWrong)

/-- 'custoslaw10.SolveCosts': WHATEVER THE INPUT: true; the input reads as it did. -/
def solveCostsSpec : ChangeSpec := { name := "solveCosts", fn := fun _ => fun
  | [d1, d2, d3] => { results := [.lit (.bool true)], args := [d1, d2, d3] }
  | _ => none }
def solveCostsRow : OpenClaim := { program := "ythaebccedgaamaagreatdoor", sum := "b7b3492c38a1a013c48f9426e79bfc699197c6b856a62fcbe77cd7ae0c103062", func := "custos/custoslaw10.SolveCosts", spec := "solveCosts", unfollowed := true, recurses := true, named := ["custos/cell.zones"], plainKeys := false, apart := false, laid := [("custos/cell.zones", laid_custos_cell_zones)] }
def SolveCostsSaid : Prop := solveCostsRow.holds Tryz.pinned (OpenSpec.ofChange solveCostsSpec)

/-- ITS FALSE NEIGHBOUR: 'it returns false'. Refute it at one input. -/
def solveCostsWrong : ChangeSpec := { name := "solveCosts", fn := fun _ => fun
  | [d1, d2, d3] => { results := [.lit (.bool false)], args := [d1, d2, d3] }
  | _ => none }
def SolveCostsWrongFalsely : Prop := solveCostsRow.holds Tryz.pinned (OpenSpec.ofChange solveCostsWrong)

/- THE SECOND FORM. 'bulk': how many values and letters a reading holds, each counted each time it is reached (what is shared counts as often as it is met; a slice's spare places count too). A statement '..UptoSaid' is the law's where the arguments, and the package variables that the reading takes, are together of bulk at most 1048576: NARROWER than '..Said'. Prove '..Said' where nothing that the law and all that it calls make is longer than what came in: it says more and counts as full. Else prove '..UptoSaid'. A law counts once. -/
mutual
def uptoBulk {H : Type} : DataW H → Nat
  | .lit (.string bytes) => bytes.length + 1
  | .lit _ => 1
  | .nil => 1
  | .ptr d => uptoBulk d + 1
  | .slice elems spare => uptoBulkAll elems + uptoBulkAll spare + 1
  | .agg parts => uptoBulkAll parts + 1
  | .iface _ d => uptoBulk d + 1
  | .map entries => uptoBulkEntries entries + 1
  | .held _ => 1
def uptoBulkAll {H : Type} : List (DataW H) → Nat
  | [] => 0
  | d :: r => uptoBulk d + uptoBulkAll r
def uptoBulkEntries {H : Type} : List (Lit × DataW H) → Nat
  | [] => 0
  | x :: r => uptoBulkEntry x + uptoBulkEntries r
def uptoBulkEntry {H : Type} : Lit × DataW H → Nat
  | (.string bytes, d) => bytes.length + uptoBulk d + 1
  | (_, d) => uptoBulk d + 1
 end
def uptoSmall : (H : Type) → List (DataW H) → Bool := fun _ ds => decide (uptoBulkAll ds ≤ 1048576)
def OpenSpec.upto (s : _root_.Go.ChangeSpec) : _root_.Go.OpenSpec := { _root_.Go.OpenSpec.ofChange s with cond := some uptoSmall }

/-- 'custoslaw10.SolveChecks', WHERE WHAT IT READS IS OF BULK AT MOST 1048576: true; the input reads as it did. -/
def solveChecksUptoRow : OpenClaim := { program := "ythaebccedgaamaagreatdoor", sum := "b7b3492c38a1a013c48f9426e79bfc699197c6b856a62fcbe77cd7ae0c103062", func := "custos/custoslaw10.SolveChecks", spec := "solveChecks", unfollowed := true, recurses := true, named := ["custos/cell.zones"], plainKeys := false, apart := false, laid := [("custos/cell.zones", laid_custos_cell_zones)], narrowed := true }
def SolveChecksUptoSaid : Prop := solveChecksUptoRow.holds Tryz.pinned (OpenSpec.upto solveChecksSpec)

/-- 'custoslaw10.SolveSmall', WHERE WHAT IT READS IS OF BULK AT MOST 1048576: true; the input reads as it did. -/
def solveSmallUptoRow : OpenClaim := { program := "ythaebccedgaamaagreatdoor", sum := "b7b3492c38a1a013c48f9426e79bfc699197c6b856a62fcbe77cd7ae0c103062", func := "custos/custoslaw10.SolveSmall", spec := "solveSmall", unfollowed := true, recurses := true, named := ["custos/cell.zones"], plainKeys := false, apart := false, laid := [("custos/cell.zones", laid_custos_cell_zones)], narrowed := true }
def SolveSmallUptoSaid : Prop := solveSmallUptoRow.holds Tryz.pinned (OpenSpec.upto solveSmallSpec)

/-- 'custoslaw10.SolveMore', WHERE WHAT IT READS IS OF BULK AT MOST 1048576: true; the input reads as it did. -/
def solveMoreUptoRow : OpenClaim := { program := "ythaebccedgaamaagreatdoor", sum := "b7b3492c38a1a013c48f9426e79bfc699197c6b856a62fcbe77cd7ae0c103062", func := "custos/custoslaw10.SolveMore", spec := "solveMore", unfollowed := true, recurses := true, named := ["custos/cell.zones"], plainKeys := false, apart := false, laid := [("custos/cell.zones", laid_custos_cell_zones)], narrowed := true }
def SolveMoreUptoSaid : Prop := solveMoreUptoRow.holds Tryz.pinned (OpenSpec.upto solveMoreSpec)

/-- 'custoslaw10.SolveCosts', WHERE WHAT IT READS IS OF BULK AT MOST 1048576: true; the input reads as it did. -/
def solveCostsUptoRow : OpenClaim := { program := "ythaebccedgaamaagreatdoor", sum := "b7b3492c38a1a013c48f9426e79bfc699197c6b856a62fcbe77cd7ae0c103062", func := "custos/custoslaw10.SolveCosts", spec := "solveCosts", unfollowed := true, recurses := true, named := ["custos/cell.zones"], plainKeys := false, apart := false, laid := [("custos/cell.zones", laid_custos_cell_zones)], narrowed := true }
def SolveCostsUptoSaid : Prop := solveCostsUptoRow.holds Tryz.pinned (OpenSpec.upto solveCostsSpec)

end Rows
end Go.Proofs.YthaebccedgaamaaGreatDoor
