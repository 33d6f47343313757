/- SolveChecks answers true at every input. Conditions: none. -/
import Derived.Test.YthaebccedgaamaaGreatDoorKR
import Derived.Test.YthaebccedgaamaaGreatDoorKJ
import Derived.Test.YthaebccedgaamaaGreatDoorChecked
import Derived.Test.YthaebccedgaamaaGreatDoorCards
import Derived.Test.YthaebccedgaamaaGreatDoorTie
import Derived.LaidLaws
import Derived.Stop.Joined
import Derived.SevenTiedAt
set_option linter.unusedSimpArgs false
set_option linter.unusedVariables false
section
/- The row of checks. Conditions: none. -/
namespace Go.Proofs.YthaebccedgaamaaGreatDoor
open Go Go.Abs Go.Abs.C Go.Proofs Go.Proofs.YthaebccedgaamaaGreatDoor
open Go.ChangeShapes Go.WideShapes Go.ChangeAt Go.RowKit
set_option maxRecDepth 100000

def caseV : Value := .agg #[.slice none 0 0, .int .i64 0, .int .i64 0, .int .i64 0, .int .i64 0, .bool false, .slice none 0 0]

theorem checks_lifted (os : Os) (started : os.Started) (H : Type) (enc : TypeId × Value → H) :
    ReturnsInHanded {} Tryz.checked os 3 .any (fun w args => (Rows.solveChecksSpec.pre enc Tryz.prog Tryz.f3 [] false w args ∧ laidMetH Tryz.prog lz w) ∧ sizedMet enc Tryz.prog Tryz.f3 (OpenSpec.ofChange Rows.solveChecksSpec) false w args)
      (Rows.solveChecksSpec.post enc Tryz.prog Tryz.f3 false true false false) := by
  refine returnsInHanded_of_change_and (C := Tryz.checked) (X := fun w _ => laidMetH Tryz.prog lz w) (fun _ _ _ hh h => h.of_heap hh) own started (by kernel_rfl) Tryz.func3
    (ChangeSpec.witness_shaped (enc := enc) (C := Tryz.checked) (os := os) (X := fun w _ => laidMetH Tryz.prog lz w) false (World.doorLaid Tryz.prog 400 os) #[caseV, .int .i64 0, .int .i64 0] 8 rfl (World.shaped_of_RefB (by kernel_rfl) (by kernel_rfl)) (by kernel_rfl) (by kernel_rfl) (by kernel_rfl) (door_met os _)) ?_
  intro W base args ds gs before hval0 hW _ _ hL _
  have hval : ∀ (j : Nat) t v, Tryz.f3.params[j]? = some t → args[j]? = some v → Value.okWide Tryz.prog W .any base t v := hval0
  have hW' := hW
  obtain ⟨p, q, hA0, hV, rfl, hfz, hnd⟩ := hW
  have hA : DataW.TrodAll enc Tryz.prog W 0 (fun _ => true) true Tryz.f3.params.toList args.toList ds p := hA0
  rw [Tryz.params3] at hA hval
  obtain ⟨v0, v1, v2, d0, d1, d2, p0, p1, p2, rfl, rfl, rfl, h0, h1, h2⟩ := trodAll_three hA
  obtain ⟨n0, h0'⟩ := h0
  obtain ⟨c, hc⟩ := case_rel h0'
  have r0 := arg_agg (by kernel_rfl) (hval 0 30 v0 rfl rfl) hc
  obtain ⟨a, rfl, rfl, rfl, wa⟩ := open_int u3 (hval 1 3 v1 rfl rfl) h1
  obtain ⟨b, rfl, rfl, rfl, wb⟩ := open_int u3 (hval 2 3 v2 rfl rfl) h2
  refine (calls_true (checks3 c a b) (VRels.cons r0 (VRels.cons (.int _ _) (VRels.cons (.int _ _) VRels.nil))) (gl_of_laid hL)).mono fun e W' ⟨he, hB⟩ => ⟨_, he, ?_⟩
  exact post_true laidOut (by kernel_rfl) rfl (by kernel_rfl) u4 (fun ds hd => by
    match ds, hd with
    | [_, _, _], _ => rfl) hW' hB

theorem checks_holds : Rows.SolveChecksSaid :=
  OpenClaim.holds_of_wide 3 Tryz.f3 rfl rfl rfl rfl rfl rfl rfl ⟨rfl, rfl, rfl, rfl, rfl⟩ rfl rfl rfl rfl rfl (by kernel_rfl) Tryz.func3 jF
    (of_decide_eq_true (by kernel_rfl)) (by unfold Func.isWrapper; first | (rw [if_pos (by decide +kernel)]; kernel_rfl) | (rw [if_neg (by decide +kernel)]; exact ⟨rfl, rfl⟩))
    (fun os started H enc _ => checks_lifted os started H enc)

theorem checks_card : Rows.SolveChecksCardSaid :=
  Claim7.holds_tied_plain_at .later [] [.data] true (true, "5d5ee703deffb376b761b41bc67b6124236d203989f64ff7609b7cae08f12276") true
    checks_holds (fun _ h => by cases h) (by kernel_rfl) (fun _ h => by cases h) solveChecks_row_tie rfl ⟨rfl, rfl⟩ (by kernel_rfl) rfl
    (fun f fn hf hfn => by
      obtain rfl : f = 3 := Option.some.inj ((show Tryz.prog.funcNamed "custos/custoslaw10.SolveChecks" = some 3 by kernel_rfl).symm.trans hf) |>.symm
      obtain rfl : fn = Tryz.f3 := (Option.some.inj (Tryz.func3.symm.trans hfn)).symm
      exact ⟨by kernel_rfl, fun j t ht => by
        rw [Tryz.params3] at ht
        have hm : t ∈ [30, 3] := by simpa using Array.mem_of_getElem? ht
        have hall : ([30, 3].all fun u => !Tryz.prog.wantsStandIn u) = true := by kernel_rfl
        exact (show Tryz.prog.wantsStandIn t = false by simpa using List.all_eq_true.1 hall t hm)⟩)
    (by kernel_rfl)
#print axioms checks_card
end Go.Proofs.YthaebccedgaamaaGreatDoor
end
