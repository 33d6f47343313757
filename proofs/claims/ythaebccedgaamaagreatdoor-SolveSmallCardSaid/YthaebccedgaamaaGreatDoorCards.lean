/-
  DERIVED. GIVEN WITH THE SEED: THE CARDS: each row of YthaebccedgaamaaGreatDoorRows.lean that lists a variable, with what it lists TIED to the program's text (the seventh form; the later family's looks); each row that meets fmt, with fmt's text TOLD by the authors' own Lean function (tested against real Go, not proved from fmt's source: count such statements apart). THE CARD IS WHAT COUNTS. Prove the row's statement (the work); the ties are given (YthaebccedgaamaaGreatDoorTie.lean); close each card by the builder's one call (the guide's Derived/Test/ToyasCard.lean, 'card_holds'). Laid BY PROGRAM, IN A SANDBOX (cutbox-door.mjs). By AI agents, Wed Nov 11 2026. No macro, syntax, notation, axiom, sorry.
-/
import Derived.Test.YthaebccedgaamaaGreatDoorRows
import GoSem.ClaimSeven
namespace Go.Proofs.YthaebccedgaamaaGreatDoor
namespace Rows

/-- THE TIED CARD OF 'custoslaw10.SolveChecks'. -/
def solveChecksCard : Claim7 := { stood := { row := solveChecksRow, standIns := [], harness := (true, "5d5ee703deffb376b761b41bc67b6124236d203989f64ff7609b7cae08f12276"), looks := true }, kinds := [], alts := [], laidByText := true, laidKinds := [.data], laidTests := true, laidLooks := .later }
def SolveChecksCardSaid : Prop := Claim7.holds Tryz.pinned (.plain (OpenSpec.ofChange solveChecksSpec)) solveChecksCard

/-- THE TIED CARD OF 'custoslaw10.SolveSmall'. -/
def solveSmallCard : Claim7 := { stood := { row := solveSmallRow, standIns := [], harness := (true, "5d5ee703deffb376b761b41bc67b6124236d203989f64ff7609b7cae08f12276"), looks := true }, kinds := [], alts := [], laidByText := true, laidKinds := [.data], laidTests := true, laidLooks := .later }
def SolveSmallCardSaid : Prop := Claim7.holds Tryz.pinned (.plain (OpenSpec.ofChange solveSmallSpec)) solveSmallCard

/-- THE TIED CARD OF 'custoslaw10.SolveMore'. -/
def solveMoreCard : Claim7 := { stood := { row := solveMoreRow, standIns := [], harness := (true, "5d5ee703deffb376b761b41bc67b6124236d203989f64ff7609b7cae08f12276"), looks := true }, kinds := [], alts := [], laidByText := true, laidKinds := [.data], laidTests := true, laidLooks := .later }
def SolveMoreCardSaid : Prop := Claim7.holds Tryz.pinned (.plain (OpenSpec.ofChange solveMoreSpec)) solveMoreCard

/-- THE TIED CARD OF 'custoslaw10.SolveCosts'. -/
def solveCostsCard : Claim7 := { stood := { row := solveCostsRow, standIns := [], harness := (true, "5d5ee703deffb376b761b41bc67b6124236d203989f64ff7609b7cae08f12276"), looks := true }, kinds := [], alts := [], laidByText := true, laidKinds := [.data], laidTests := true, laidLooks := .later }
def SolveCostsCardSaid : Prop := Claim7.holds Tryz.pinned (.plain (OpenSpec.ofChange solveCostsSpec)) solveCostsCard

/-- THE SECOND FORM's CARD OF 'custoslaw10.SolveChecks'. -/
def solveChecksUptoCard : Claim7 := { stood := { row := solveChecksUptoRow, standIns := [], harness := (true, "5d5ee703deffb376b761b41bc67b6124236d203989f64ff7609b7cae08f12276"), looks := true }, kinds := [], alts := [], laidByText := true, laidKinds := [.data], laidTests := true, laidLooks := .later }
def SolveChecksUptoCardSaid : Prop := Claim7.holds Tryz.pinned (.plain (OpenSpec.upto solveChecksSpec)) solveChecksUptoCard

/-- THE SECOND FORM's CARD OF 'custoslaw10.SolveSmall'. -/
def solveSmallUptoCard : Claim7 := { stood := { row := solveSmallUptoRow, standIns := [], harness := (true, "5d5ee703deffb376b761b41bc67b6124236d203989f64ff7609b7cae08f12276"), looks := true }, kinds := [], alts := [], laidByText := true, laidKinds := [.data], laidTests := true, laidLooks := .later }
def SolveSmallUptoCardSaid : Prop := Claim7.holds Tryz.pinned (.plain (OpenSpec.upto solveSmallSpec)) solveSmallUptoCard

/-- THE SECOND FORM's CARD OF 'custoslaw10.SolveMore'. -/
def solveMoreUptoCard : Claim7 := { stood := { row := solveMoreUptoRow, standIns := [], harness := (true, "5d5ee703deffb376b761b41bc67b6124236d203989f64ff7609b7cae08f12276"), looks := true }, kinds := [], alts := [], laidByText := true, laidKinds := [.data], laidTests := true, laidLooks := .later }
def SolveMoreUptoCardSaid : Prop := Claim7.holds Tryz.pinned (.plain (OpenSpec.upto solveMoreSpec)) solveMoreUptoCard

/-- THE SECOND FORM's CARD OF 'custoslaw10.SolveCosts'. -/
def solveCostsUptoCard : Claim7 := { stood := { row := solveCostsUptoRow, standIns := [], harness := (true, "5d5ee703deffb376b761b41bc67b6124236d203989f64ff7609b7cae08f12276"), looks := true }, kinds := [], alts := [], laidByText := true, laidKinds := [.data], laidTests := true, laidLooks := .later }
def SolveCostsUptoCardSaid : Prop := Claim7.holds Tryz.pinned (.plain (OpenSpec.upto solveCostsSpec)) solveCostsUptoCard
end Rows
end Go.Proofs.YthaebccedgaamaaGreatDoor
