/- SolveSmall answers true. Conditions: none. -/
import Derived.Test.YthaebccedgaamaaGreatDoorSR
import Derived.Test.YthaebccedgaamaaGreatDoorSD
import Derived.Test.YthaebccedgaamaaGreatDoorSJ
import Derived.Test.YthaebccedgaamaaGreatDoorChecked
import Derived.Test.YthaebccedgaamaaGreatDoorCards
import Derived.Test.YthaebccedgaamaaGreatDoorTie
import Derived.LaidLaws
import Derived.Stop.Joined
import Derived.SevenTiedAt
set_option linter.unusedSimpArgs false
set_option linter.unusedVariables false
section
/- The row of SolveSmall. Conditions: none. -/
namespace Go.Proofs.YthaebccedgaamaaGreatDoor
open Go Go.Abs Go.Abs.C Go.Proofs Go.Proofs.YthaebccedgaamaaGreatDoor
open Go.ChangeShapes Go.WideShapes Go.ChangeAt Go.RowKit
set_option maxRecDepth 100000

theorem small_lifted (os : Os) (started : os.Started) (H : Type) (enc : TypeId × Value → H) :
    ReturnsInHanded {} Tryz.checked os 4 .any (fun w args => (Rows.solveSmallSpec.pre enc Tryz.prog Tryz.f4 [] false w args ∧ laidMetH Tryz.prog lz w) ∧ sizedMet enc Tryz.prog Tryz.f4 (OpenSpec.ofChange Rows.solveSmallSpec) false w args)
      (Rows.solveSmallSpec.post enc Tryz.prog Tryz.f4 false true false false) := by
  refine returnsInHanded_of_change_and (C := Tryz.checked) (X := fun w _ => laidMetH Tryz.prog lz w) (fun _ _ _ hh h => h.of_heap hh) own started (by kernel_rfl) Tryz.func4
    (ChangeSpec.witness_shaped (enc := enc) (C := Tryz.checked) (os := os) (X := fun w _ => laidMetH Tryz.prog lz w) false (World.doorLaid Tryz.prog 400 os) #[] 8 rfl (World.shaped_of_RefB (by kernel_rfl) (by kernel_rfl)) (by kernel_rfl) (by kernel_rfl) (by kernel_rfl) (door_met os _)) ?_
  intro W base args ds gs before hval0 hW _ _ hL _
  have hW' := hW
  obtain ⟨p, q, hA0, hV, rfl, hfz, hnd⟩ := hW
  have hA : DataW.TrodAll enc Tryz.prog W 0 (fun _ => true) true Tryz.f4.params.toList args.toList ds p := hA0
  rw [Tryz.params4] at hA
  obtain ⟨h1, h2, h3⟩ := trodAll_nil hA
  have h1' : args = #[] := by
    obtain ⟨l⟩ := args
    have : l = [] := h1
    rw [this]
  subst h1'
  obtain ⟨H', ht⟩ := small_told
  refine (calls_told ht VRels.nil (gl_of_laid hL)).mono fun e W' ⟨he, hB⟩ => ⟨_, he, ?_⟩
  exact post_true laidOut (by kernel_rfl) rfl (by kernel_rfl) u4 (fun ds hd => by
    match ds, hd with
    | [], _ => rfl) hW' hB

theorem small_holds : Rows.SolveSmallSaid :=
  OpenClaim.holds_of_wide 4 Tryz.f4 rfl rfl rfl rfl rfl rfl rfl ⟨rfl, rfl, rfl, rfl, rfl⟩ rfl rfl rfl rfl rfl (by kernel_rfl) Tryz.func4 j4F
    (of_decide_eq_true (by kernel_rfl)) (by unfold Func.isWrapper; first | (rw [if_pos (by decide +kernel)]; kernel_rfl) | (rw [if_neg (by decide +kernel)]; exact ⟨rfl, rfl⟩))
    (fun os started H enc _ => small_lifted os started H enc)

theorem small_card : Rows.SolveSmallCardSaid :=
  Claim7.holds_tied_plain_at .later [] [.data] true (true, "5d5ee703deffb376b761b41bc67b6124236d203989f64ff7609b7cae08f12276") true
    small_holds (fun _ h => by cases h) (by kernel_rfl) (fun _ h => by cases h) solveSmall_row_tie rfl ⟨rfl, rfl⟩ (by kernel_rfl) rfl
    (fun f fn hf hfn => by
      obtain rfl : f = 4 := Option.some.inj ((show Tryz.prog.funcNamed "custos/custoslaw10.SolveSmall" = some 4 by kernel_rfl).symm.trans hf) |>.symm
      obtain rfl : fn = Tryz.f4 := (Option.some.inj (Tryz.func4.symm.trans hfn)).symm
      exact ⟨by kernel_rfl, fun j t ht => by
        rw [Tryz.params4] at ht
        simp at ht⟩)
    (by kernel_rfl)
#print axioms small_card
end Go.Proofs.YthaebccedgaamaaGreatDoor
end
