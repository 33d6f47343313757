/- SolveSmall, run. Conditions: none. -/
import Derived.Test.YthaebccedgaamaaGreatDoorSB0
import Derived.Test.YthaebccedgaamaaGreatDoorSB1
import Derived.Test.YthaebccedgaamaaGreatDoorSB2
import Derived.Test.YthaebccedgaamaaGreatDoorSB3
import Derived.Test.YthaebccedgaamaaGreatDoorSB4
set_option linter.unusedSimpArgs false
set_option linter.unusedVariables false
section
/- SolveSmall, its head and its end. Conditions: none. -/
namespace Go.Abs.C
open Go Go.Abs Go.Proofs
set_option maxRecDepth 1000000

def z4 : ASt := ⟨[(62, .bool false), (61, .int .i64 19), (1, .ptr 0 0), (4, .int .i64 19)], (s 0).H, [], 0, 248, none⟩
theorem exit4 : codeF T (semsF T M0 300) (body2 f4l2) (s 19) = some (.exit 2, z4) := by kernel_rfl

def lft (c : AC) : AC := match c with | .seq a _ => a | c => c
def rgt (c : AC) : AC := match c with | .seq _ b => b | c => c
def st0 : ASt := ⟨[], [], [], 0, 248, none⟩
def st1 : ASt := ⟨[(60, (.bool false)), (59, (.int .i64 6)), (58, (.agg [(.msl 1 0 1 1), (.int .i64 0), (.int .i64 1), (.int .i64 4), (.int .i64 1), (.bool false), (.msl 2 0 1 1)])), (57, (.ptr 4 5)), (56, (.ptr 4 0)), (55, (.msl 4 0 1 1)), (54, (.ptr 3 0)), (53, (.msl 3 0 1 1)), (52, (.ptr 2 0)), (51, (.msl 2 0 1 1)), (50, (.ptr 0 6)), (28, (.bool false)), (1, (.ptr 0 0)), (25, (.msl 6 0 4 4)), (26, (.int .i64 4)), (27, (.int .i64 4))], [.row [(.msl 1 0 1 1), (.int .i64 0), (.int .i64 1), (.int .i64 4), (.int .i64 1), (.bool false), (.msl 2 0 1 1)], .row [(.int .i64 1)], .row [(.msl 3 0 1 1)], .row [(.msl 4 0 1 1)], .row [(.int .i64 0), (.int .i64 0), (.int .i64 0), (.int .i64 11), (.int .i64 0), .nils], .row [(.int .i64 4), (.int .i64 10001), (.int .i64 2), (.int .i64 0)], .row [(.int .i64 (-1)), (.int .i64 0), (.int .i64 10000), (.int .i64 10001)]], [], 0, 248, none⟩
def y0 : ASt := { st1 with env := (4, .int .i64 (-1)) :: st1.env }
theorem part1 : runTo T (semsF T M0 320) 5 f4b st0 = some (tailAt 5 f4b, st1) := by kernel_rfl
theorem cut5 : tailAt 5 f4b = .seq (lft (tailAt 5 f4b)) (rgt (tailAt 5 f4b)) := by kernel_rfl
theorem part2 : runTo T (semsF T M0 320) 1 (lft (tailAt 5 f4b)) st1 = some (.block 2 (.loop f4l2), y0) := by kernel_rfl
theorem part3 : hd4 y0 = some (s (-1)) := by kernel_rfl
def fin4 : Option (AExit × ASt) → Bool
  | some (.ret, st) => st.dfs.isEmpty && (match results st [.t 0] with | some (.bool b) => b | _ => false)
  | _ => false
theorem part4 : fin4 (codeF T (semsF T M0 320) (rgt (tailAt 5 f4b)) z4) = true := by kernel_rfl

end Go.Abs.C
end

section
/- SolveSmall, run. Conditions: none. -/
namespace Go.Abs
section
variable {T : Tab} {S : Sems} {M : Book}
theorem c_loop_on {b : AC} {x y : ASt} (h : code T S b x = some (.normal, y)) : code T S (.loop b) x = S.code (.loop b) y := by
  simp only [code, h]
theorem c_loop_out {b : AC} {x y : ASt} {k : Nat} (h : code T S b x = some (.exit k, y)) : code T S (.loop b) x = some (.exit k, y) := by
  simp only [code, h]
theorem c_block_out {b : AC} {x y : ASt} {k : Nat} (h : code T S b x = some (.exit k, y)) : code T S (.block k b) x = some (.normal, y) := by
  simp only [code, h, if_true]
theorem c_seq_on {a b : AC} {x y : ASt} (h : code T S a x = some (.normal, y)) : code T S (.seq a b) x = code T S b y := by
  simp only [code, h]
theorem s_code (k : Nat) : (semsM T M (k + 1)).code = code T (semsM T M k) := rfl
theorem s_call0 {f : Nat} {xs : List AV} (k : Nat) (h : M.find f xs = none) : (semsM T M (k + 1)).call f xs [] = call T (semsM T M k) f xs [] := by
  show (match M.find f xs with | some r => some r | none => call T (semsM T M k) f xs []) = _
  rw [h]
theorem call_ret {f : Nat} {xs : List AV} {F : AFun} {st : ASt} {v : AV} (hfn : T.fn f = some F) (hle : xs.length ≤ F.nt) {H : List AB}
    (hb : code T S F.body ⟨(List.range xs.length).zip xs, H, [], H.length, F.nt, none⟩ = some (.ret, st)) (hd : st.dfs = []) (hr : results st F.res = some v) : call T S f xs H = some (.ret v, st.H) := by
  simp only [call, hfn]
  rw [if_pos hle, hb]
  simp only
  rw [hd]
  simp only [leave, hr, Option.map_some]
theorem head2 (ks : List Nat) (b : AC) (st : ASt) : code T S (.hint (.keep ks) (.hint .norm b)) st = ((doHint (.keep ks) st).bind (doHint .norm)).bind (code T S b) := by
  simp only [code]
  cases doHint (.keep ks) st with
  | none => rfl
  | some x => simp only [Option.bind_some]; cases doHint .norm x <;> rfl
end
end Go.Abs
namespace Go.Abs.C
open Go Go.Abs Go.Proofs
set_option maxRecDepth 100000
theorem f4l2_eq : f4l2 = .hint (.keep [1, 4]) (.hint .norm (body2 f4l2)) := by kernel_rfl
theorem hd_in {S : Sems} {x y : ASt} (hx : hd4 x = some y) : code T S f4l2 x = code T S (body2 f4l2) y := by
  have h : code T S f4l2 x = ((doHint (.keep [1, 4]) x).bind (doHint .norm)).bind (code T S (body2 f4l2)) := (congrArg (fun c => code T S c x) f4l2_eq).trans (head2 [1, 4] (body2 f4l2) x)
  unfold hd4 at hx
  rw [h, hx, Option.bind_some]

theorem roundM {K m : Nat} (hK : K + 1 = m + 300) {p q : ASt} (hit : one m p = some q) {x : ASt} (hx : hd4 x = some p) :
    ∃ y, code T (semsM T M0 (K + 1)) (.loop f4l2) x = code T (semsM T M0 K) (.loop f4l2) y ∧ hd4 y = some q := by
  unfold one at hit
  rw [semsF_eq, ← hK, codeF_eq] at hit
  split at hit
  · rename_i y hy
    refine ⟨y, ?_, hit⟩
    rw [c_loop_on ((hd_in hx).trans hy), s_code]
  · cases hit

theorem its (m : Nat) (n : Int) (h1 : -1 ≤ n) (h2 : n ≤ 18) : one m (s n) = some (s (n + 1)) := by
  have : n = -1 ∨ n = 0 ∨ n = 1 ∨ n = 2 ∨ n = 3 ∨ n = 4 ∨ n = 5 ∨ n = 6 ∨ n = 7 ∨ n = 8 ∨ n = 9 ∨ n = 10 ∨ n = 11 ∨ n = 12 ∨ n = 13 ∨ n = 14 ∨ n = 15 ∨ n = 16 ∨ n = 17 ∨ n = 18 := by omega
  rcases this with h | h | h | h | h | h | h | h | h | h | h | h | h | h | h | h | h | h | h | h
  · rw [show n + 1 = 0 by omega, h]; exact itm1 m
  · rw [show n + 1 = 1 by omega, h]; exact it0 m
  · rw [show n + 1 = 2 by omega, h]; exact it1 m
  · rw [show n + 1 = 3 by omega, h]; exact it2 m
  · rw [show n + 1 = 4 by omega, h]; exact it3 m
  · rw [show n + 1 = 5 by omega, h]; exact it4 m
  · rw [show n + 1 = 6 by omega, h]; exact it5 m
  · rw [show n + 1 = 7 by omega, h]; exact it6 m
  · rw [show n + 1 = 8 by omega, h]; exact it7 m
  · rw [show n + 1 = 9 by omega, h]; exact it8 m
  · rw [show n + 1 = 10 by omega, h]; exact it9 m
  · rw [show n + 1 = 11 by omega, h]; exact it10 m
  · rw [show n + 1 = 12 by omega, h]; exact it11 m
  · rw [show n + 1 = 13 by omega, h]; exact it12 m
  · rw [show n + 1 = 14 by omega, h]; exact it13 m
  · rw [show n + 1 = 15 by omega, h]; exact it14 m
  · rw [show n + 1 = 16 by omega, h]; exact it15 m
  · rw [show n + 1 = 17 by omega, h]; exact it16 m
  · rw [show n + 1 = 18 by omega, h]; exact it17 m
  · rw [show n + 1 = 19 by omega, h]; exact it18 m

theorem chain : ∀ (j : Nat), j ≤ 20 → ∀ (n : Int), n + j = 19 → ∀ x, hd4 x = some (s n) → code T (semsM T M0 (300 + j)) (.loop f4l2) x = some (.exit 2, z4)
  | 0, _, n, hn, x, hx => by
    have hy := exit4
    rw [semsF_eq, codeF_eq] at hy
    rw [show n = 19 by omega] at hx
    exact c_loop_out ((hd_in hx).trans hy)
  | j + 1, hj, n, hn, x, hx => by
    obtain ⟨y, h2, h3⟩ := roundM (K := 300 + j) (m := j + 1) (by omega) (its (j + 1) n (by omega) (by omega)) hx
    rw [show 300 + (j + 1) = 300 + j + 1 by omega, h2]
    exact chain j (by omega) (n + 1) (by omega) y h3

theorem fn4 : T.fn 4 = some f4 := by kernel_rfl
theorem find4 : M0.find 4 [] = none := by kernel_rfl
theorem body4 : f4.body = f4b := by kernel_rfl
theorem st0_eq : (⟨(List.range ([] : List AV).length).zip [], [], [], ([] : List AB).length, f4.nt, none⟩ : ASt) = st0 := by kernel_rfl
theorem res4 : f4.res = [.t 0] := by kernel_rfl
theorem fin4_inv {q : Option (AExit × ASt)} (h : fin4 q = true) : ∃ st, q = some (.ret, st) ∧ st.dfs = [] ∧ results st [.t 0] = some (.bool true) := by
  unfold fin4 at h
  split at h
  · rename_i st
    simp only [Bool.and_eq_true, List.isEmpty_iff] at h
    obtain ⟨hd, hr⟩ := h
    refine ⟨st, rfl, hd, ?_⟩
    cases e : results st [.t 0] with
    | none => rw [e] at hr; cases hr
    | some v =>
      rw [e] at hr
      cases v with
      | bool b => simp only at hr; rw [hr]
      | _ => cases hr
  · cases h

theorem small_call : ∃ H', (semsM T M0 (320 + 1)).call 4 [] [] = some (.ret (.bool true), H') := by
  have p1 := part1
  have p2 := part2
  obtain ⟨st, hst, hd, hr⟩ := fin4_inv part4
  rw [semsF_eq] at p1 p2 hst
  rw [codeF_eq] at hst
  have c := chain 20 (Nat.le_refl _) (-1) (by omega) y0 part3
  rw [show 300 + 20 = 320 by rfl] at c
  have e1 := (runTo_code p2).trans (c_block_out c)
  have e2 := runTo_code p1
  rw [cut5, c_seq_on e1, hst] at e2
  refine ⟨st.H, ?_⟩
  rw [s_call0 320 find4]
  refine call_ret fn4 (Nat.zero_le _) ?_ hd (by rw [res4]; exact hr)
  rw [st0_eq, body4]
  exact e2

theorem small_told : ∃ H', Told Tryz.prog T 4 [] [] (.ret (.bool true)) H' := by
  obtain ⟨H', h⟩ := small_call
  exact ⟨H', toldM tab_ok fn_ok ok0 h⟩
end Go.Abs.C
end
