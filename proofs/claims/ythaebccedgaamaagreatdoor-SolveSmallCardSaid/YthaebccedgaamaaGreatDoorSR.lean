/- Arguments, their reading; the variable that is laid. Conditions: none. -/
import Derived.Test.YthaebccedgaamaaGreatDoorST
import Derived.IntWalk
import Derived.Carry
import Derived.ProofKit
import Derived.ChangeSame
import Derived.Test.YthaebccedgaamaaGreatDoorProg
import Derived.KernelRfl
import Derived.LaidLaws
import Derived.Stop.Joined
import Derived.LaidMore
import Derived.OpenShut
import Derived.MakeChecks
import Derived.Test.YthaebccedgaamaaGreatDoorRows
set_option linter.unusedSimpArgs false
set_option linter.unusedVariables false
section
/- Steps of the walk over letters. Conditions: none. -/
namespace Go.Abs

section
variable {T : Tab}

/-- A call with arguments that name no block, from a memory of its own, comes to a value. -/
def Ret (T : Tab) (f : Nat) (ys : List AV) (v : AV) : Prop := ∃ w H', (lim T).call f ys [] = some (.ret w, H') ∧ frz H' false depthF w = some v

theorem frz_pures {H : List AB} : ∀ {xs : List AV}, AV.pures xs = true → optAll (frz H true depthF) xs = some xs := by
  intro xs
  induction xs with
  | nil => intro _; rfl
  | cons u l ih =>
    intro hl
    simp only [AV.pures, Bool.and_eq_true] at hl
    have hu : frz H true depthF u = some u := by simp [frz, depthF, hl.1]
    simp [optAll, hu, ih hl.2]

theorem enter0 {f : Nat} {xs ys : List AV} {v : AV} {H : List AB} (hq : T.prim f xs = none) (hf : optAll (frz H true depthF) xs = some ys) (hc : Ret T f ys v) (hv : (AV.pures xs || v.flat) = true) : enter T (lim T) 0 f xs H = some (.ret v, H) := by
  obtain ⟨w, H', h1, h2⟩ := hc
  simp only [enter, hq, if_neg (show ¬ (0 = 2) by omega), hf, Option.bind_some, h1, if_neg (show ¬ (0 = 1) by omega), h2, Option.map_some, hv, if_true]

/-- ... with arguments that name no block. -/
theorem enterP {f : Nat} {xs : List AV} {v : AV} {H : List AB} (hc : Ret T f xs v) (hq : T.prim f xs = none) (hp : AV.pures xs = true) : enter T (lim T) 0 f xs H = some (.ret v, H) :=
  enter0 hq (frz_pures hp) hc (by rw [hp]; rfl)

/-- What a frame that has ended hands back, where nothing is deferred. -/
def fin (rs : List ARs) : Option (AExit × ASt) → Option AV
  | some (.normal, st) | some (.ret, st) => if st.dfs.isEmpty then (results st rs).bind (frz st.H false depthF) else none
  | _ => none

theorem Ret.of {f : Nat} {F : AFun} {xs : List AV} {v : AV} (hf : T.fn f = some F) (hn : xs.length ≤ F.nt)
    (hc : fin F.res (code T (lim T) F.body ⟨(List.range xs.length).zip xs, [], [], 0, F.nt, none⟩) = some v) : Ret T f xs v := by
  have go : ∀ (e : AExit) (st : ASt), (e = .normal ∨ e = .ret) → code T (lim T) F.body ⟨(List.range xs.length).zip xs, [], [], 0, F.nt, none⟩ = some (e, st) → (if st.dfs.isEmpty then (results st F.res).bind (frz st.H false depthF) else none) = some v → Ret T f xs v := fun e st he h1 h2 => by
    split at h2
    · rename_i hd
      rw [Option.bind_eq_some_iff] at h2
      obtain ⟨w, hr, hz⟩ := h2
      refine ⟨w, st.H, lim_call_of ?_, hz⟩
      simp only [call, hf, if_pos hn, List.length_nil, h1]
      have hd' := List.isEmpty_iff.1 hd
      rcases he with rfl | rfl <;> simp [hd', leave, hr]
    · cases h2
  unfold fin at hc
  split at hc
  · rename_i st h; exact go _ st (.inl rfl) h hc
  · rename_i st h; exact go _ st (.inr rfl) h hc
  · cases hc

/-! a loop, from the state behind the hints at its head -/

def LoopR (T : Tab) (b : AC) (hd : ASt → Option ASt) (s : ASt) (r : AExit × ASt) : Prop := ∀ st, hd st = some s → code T (lim T) (.loop b) st = some r

theorem LoopR.out {b b' : AC} {hd : ASt → Option ASt} (hb : ∀ st, code T (lim T) b st = (hd st).bind (code T (lim T) b')) {s st1 : ASt} {e : AExit} (h : code T (lim T) b' s = some (e, st1)) (he : e ≠ .normal) : LoopR T b hd s (e, st1) := fun st h0 => by
  simp only [code, hb, h0, Option.bind_some, h]
  cases e <;> first | rfl | exact absurd rfl he

theorem LoopR.step {b b' : AC} {hd : ASt → Option ASt} (hb : ∀ st, code T (lim T) b st = (hd st).bind (code T (lim T) b')) {s st1 s1 : ASt} {r : AExit × ASt} (h : code T (lim T) b' s = some (.normal, st1)) (h1 : hd st1 = some s1) (h2 : LoopR T b hd s1 r) : LoopR T b hd s r := fun st h0 => by
  simp only [code, hb, h0, Option.bind_some, h]
  exact lim_code_of (h2 st1 h1)

theorem LoopR.for {b b' : AC} {hd : ASt → Option ASt} (hb : ∀ st, code T (lim T) b st = (hd st).bind (code T (lim T) b')) (inv : Nat → ASt) (n : Nat) {r : AExit × ASt} (hs : ∀ j, j < n → ∃ st1, code T (lim T) b' (inv j) = some (.normal, st1) ∧ hd st1 = some (inv (j + 1))) (hx : LoopR T b hd (inv n) r) :
    LoopR T b hd (inv 0) r := by
  have : ∀ k, k ≤ n → LoopR T b hd (inv (n - k)) r := by
    intro k
    induction k with
    | zero => intro _; exact hx
    | succ k ih =>
      intro hk
      obtain ⟨st1, h1, h2⟩ := hs (n - (k + 1)) (by omega)
      have e : n - (k + 1) + 1 = n - k := by omega
      rw [e] at h2
      exact .step hb h1 h2 (ih (by omega))
  have := this n (Nat.le_refl _)
  rwa [Nat.sub_self] at this

theorem doHint_fz {t : Nat} {st : ASt} : doHint (.fz t) st = (match st.env.get t with
    | some v => if v.canon then some st else (frz st.H false depthF v).map fun w =>
      { st with env := (t, w) :: st.env, H := (kil st.H depthF v).foldl (fun H b => H.set b .dead) st.H }
    | none => some st) := rfl
theorem doHint_fzc {t off : Nat} {st : ASt} : doHint (.fzc t off) st = (match st.env.get t with
    | some (.ptr b o) => match st.H[b]? with
      | some (.row cs) => match cs[o + off]? with
        | some v => if v.canon then some st else (frz st.H false depthF v).map fun w =>
          { st with H := (kil st.H depthF v).foldl (fun H b => H.set b .dead) (st.H.set b (.row (cs.set (o + off) w))) }
        | none => none
      | _ => none
    | _ => none) := rfl
theorem doHint_norm {st : ASt} : doHint .norm st = norm st := rfl

mutual
theorem ids_pure : ∀ {v : AV}, v.pure = true → v.ids = []
  | .bool _, _ | .int _ _, _ | .str _, _ | .nilp, _ | .nils, _ | .nilm, _ | .nilf, _ | .nili, _ => by simp [AV.ids]
  | .ptr _ _, h | .msl _ _ _ _, h | .gsl _ _ _, h | .mp _, h | .yld _, h => by simp [AV.pure] at h
  | .cptr cs, h | .csl cs _ _ _, h | .agg cs, h | .tup cs, h => by simp only [AV.ids]; exact idss_pure (by simpa [AV.pure] using h)
  | .fn _ a b, h => by
    simp only [AV.pure, Bool.and_eq_true] at h
    simp only [AV.ids, idss_pure h.1, idss_pure h.2, List.append_nil]
  | .iface _ v, h => by simp only [AV.ids]; exact ids_pure (by simpa [AV.pure] using h)
theorem idss_pure : ∀ {l : List AV}, AV.pures l = true → AV.idss l = []
  | [], _ => rfl
  | v :: l, h => by
    simp only [AV.pures, Bool.and_eq_true] at h
    simp only [AV.idss, ids_pure h.1, idss_pure h.2, List.append_nil]
end

/-- A round that goes on, and the state behind the next head. -/
def goOn (hd : ASt → Option ASt) : Option (AExit × ASt) → Option ASt
  | some (.normal, st) => hd st
  | _ => none

theorem goOn_inv {hd : ASt → Option ASt} {x : Option (AExit × ASt)} {s : ASt} (h : goOn hd x = some s) : ∃ st1, x = some (.normal, st1) ∧ hd st1 = some s := by
  unfold goOn at h
  split at h
  · exact ⟨_, rfl, h⟩
  · cases h

/-- The temporaries named. -/
def keepS (ks : List Nat) (st : ASt) : ASt := { st with env := st.env.keep ks }
theorem keepS_mk {ks : List Nat} {e : Env} {H : List AB} {d : List ADf} {b n : Nat} {r : Option Nat} : keepS ks ⟨e, H, d, b, n, r⟩ = ⟨e.keep ks, H, d, b, n, r⟩ := rfl
theorem keepS_one {t : Nat} {v : AV} {st1 : ASt} {H : List AB} {d : List ADf} {b n : Nat} {r : Option Nat} (h : keepS [t] st1 = ⟨[(t, v)], H, d, b, n, r⟩) : st1.H = H ∧ st1.dfs = d ∧ st1.env.get t = some v := by
  simp only [keepS, Env.keep, ASt.mk.injEq] at h
  obtain ⟨h1, h2, h3, _⟩ := h
  refine ⟨h2, h3, ?_⟩
  split at h1
  · simp at h1; rw [← h1]; assumption
  · cases h1
theorem doHint_keep {ks : List Nat} {st : ASt} : doHint (.keep ks) st = some (keepS ks st) := rfl

/-- A round that leaves, and what is kept of the state. -/
def goOut (ks : List Nat) : Option (AExit × ASt) → Option (AExit × ASt)
  | some (.normal, _) => none
  | some (e, st) => some (e, keepS ks st)
  | none => none

theorem goOut_inv {ks : List Nat} {x : Option (AExit × ASt)} {e : AExit} {s : ASt} (h : goOut ks x = some (e, s)) : ∃ st1, x = some (e, st1) ∧ e ≠ .normal ∧ keepS ks st1 = s := by
  unfold goOut at h
  split at h
  · cases h
  · rename_i e st hne
    cases h
    exact ⟨st, rfl, fun he => hne he, rfl⟩
  · cases h

/-- A loop that goes through all its rounds. -/
theorem LoopR.for' {b b' : AC} {hd : ASt → Option ASt} (hb : ∀ st, code T (lim T) b st = (hd st).bind (code T (lim T) b')) (ks : List Nat) (inv : Nat → ASt) (n : Nat) {e : AExit} {s : ASt} (hs : ∀ j, j < n → goOn hd (code T (lim T) b' (inv j)) = some (inv (j + 1))) (hx : goOut ks (code T (lim T) b' (inv n)) = some (e, s)) :
    ∃ st1, LoopR T b hd (inv 0) (e, st1) ∧ keepS ks st1 = s := by
  obtain ⟨st1, h1, h2, h3⟩ := goOut_inv hx
  exact ⟨st1, .for hb inv n (fun j hj => goOn_inv (hs j hj)) (.out hb h1 h2), h3⟩

/-- A loop that leaves at the first round that is bad, or goes through all. -/
theorem LoopR.search {b b' : AC} {hd : ASt → Option ASt} (hb : ∀ st, code T (lim T) b st = (hd st).bind (code T (lim T) b')) (kr kx : List Nat) (inv : Nat → ASt) (n : Nat) (bad : Nat → Prop) {er ex : AExit} {sr sx : ASt} (hgo : ∀ j, j < n → (∀ k, k ≤ j → ¬ bad k) → goOn hd (code T (lim T) b' (inv j)) = some (inv (j + 1)))
    (hbad : ∀ j, j < n → bad j → (∀ k, k < j → ¬ bad k) → goOut kr (code T (lim T) b' (inv j)) = some (er, sr)) (hx : (∀ j, j < n → ¬ bad j) → goOut kx (code T (lim T) b' (inv n)) = some (ex, sx)) :
    (∃ st1, LoopR T b hd (inv 0) (er, st1) ∧ keepS kr st1 = sr ∧ ∃ j, j < n ∧ bad j ∧ ∀ k, k < j → ¬ bad k) ∨ ∃ st1, LoopR T b hd (inv 0) (ex, st1) ∧ keepS kx st1 = sx ∧ ∀ j, j < n → ¬ bad j := by
  by_cases h : ∃ j, j < n ∧ bad j
  · left
    -- the first
    have : ∀ m, (∃ j, j < m ∧ j < n ∧ bad j) → ∃ j, j < n ∧ bad j ∧ ∀ k, k < j → ¬ bad k := by
      intro m
      induction m with
      | zero => rintro ⟨j, hj, _⟩; omega
      | succ m ih =>
        rintro ⟨j, hj, hn, hbj⟩
        by_cases hm : ∃ j, j < m ∧ j < n ∧ bad j
        · exact ih hm
        · exact ⟨j, hn, hbj, fun k hk hbk => hm ⟨k, by omega, by omega, hbk⟩⟩
    obtain ⟨j0, hj0, hb0⟩ := h
    obtain ⟨j, hj, hbj, hfirst⟩ := this (j0 + 1) ⟨j0, by omega, hj0, hb0⟩
    obtain ⟨st1, h1, h2, h3⟩ := goOut_inv (hbad j hj hbj hfirst)
    exact ⟨st1, .for hb inv j (fun k hk => goOn_inv (hgo k (by omega) fun k' hk' => hfirst k' (by omega))) (.out hb h1 h2), h3, j, hj, hbj, hfirst⟩
  · right
    have hall : ∀ j, j < n → ¬ bad j := fun j hj hbj => h ⟨j, hj, hbj⟩
    obtain ⟨st1, h1, h2⟩ := LoopR.for' hb kx inv n (fun j hj => hgo j hj fun k hk => hall k (by omega)) (hx hall)
    exact ⟨st1, h1, h2, hall⟩

/-! one equation a kind of code, but for loops -/
section
variable {S : Sems} {st : ASt}
theorem code_skip : code T S .skip st = some (.normal, st) := rfl
theorem code_exit {id : Nat} : code T S (.exit id) st = some (.exit id, st) := rfl
theorem code_ret : code T S .ret st = some (.ret, st) := rfl
theorem code_seq {a b : AC} : code T S (.seq a b) st = (match code T S a st with | some (.normal, st') => code T S b st' | x => x) := rfl
theorem code_cond {c : Opd} {a b : AC} : code T S (.cond c a b) st = (match val T st.env c with | some (.bool t) => if t then code T S a st else code T S b st | _ => none) := rfl
theorem code_block {id : Nat} {b : AC} : code T S (.block id b) st = (match code T S b st with | some (.exit id', st') => if id' = id then some (.normal, st') else some (.exit id', st') | x => x) := rfl
theorem code_hint {h : Hint} {c : AC} : code T S (.hint h c) st = (match doHint h st with | some st => code T S c st | none => none) := rfl
theorem code_ops0 {l : List AO} : code T S (.ops l none) st = (match runOps T S l st with | some (.next st') => some (.normal, st') | some (.out e st') => some (e, st') | none => none) := by
  simp only [code]
  cases runOps T S l st with
  | none => rfl
  | some s => cases s <;> rfl
theorem code_opsd {l : List AO} {inc : List (Nat × Nat)} : code T S (.ops l (some inc)) st = (match runOps T S l st with | some (.next st') => if looseOk T S l st inc then some (.normal, st') else none | _ => none) := by
  simp only [code]
  cases runOps T S l st with
  | none => rfl
  | some s => cases s <;> rfl
end

end

section
variable {H : List AB} {n : Nat}
@[simp] theorem frz1_int {ar : Bool} {k : IntKind} {z : Int} : frz H ar (n + 1) (.int k z) = some (.int k z) := by simp [frz, AV.canon, AV.pure]
@[simp] theorem frz1_bool {ar b : Bool} : frz H ar (n + 1) (.bool b) = some (.bool b) := by simp [frz, AV.canon, AV.pure]
@[simp] theorem frz1_str {ar : Bool} {s : ByteArray} : frz H ar (n + 1) (.str s) = some (.str s) := by simp [frz, AV.canon, AV.pure]
@[simp] theorem frz1_nils : frz H false (n + 1) .nils = some (.csl [] 0 none false) := by simp [frz, AV.canon, AV.pure]
@[simp] theorem frz1_gsl {ar : Bool} {b l w : Nat} : frz H ar (n + 1) (.gsl b l w) = (match H[b]? with | some (.row cs) => if l * w ≤ cs.length then (frzL ar (frz H ar n) (cs.take (l * w))).map fun cs => .csl cs l none ar else none | _ => none) := by
  simp [frz, AV.canon, AV.pure]
  cases H[b]? with
  | none => rfl
  | some B => cases B <;> rfl
@[simp] theorem frz1_msl {ar : Bool} {b o l c : Nat} : frz H ar (n + 1) (.msl b o l c) = (match H[b]? with | some (.row cs) => if o ≤ cs.length then (frzL ar (frz H ar n) (cs.drop o)).map fun cs => .csl cs l none ar else none | _ => none) := by
  simp [frz, AV.canon, AV.pure]
  cases H[b]? with
  | none => rfl
  | some B => cases B <;> rfl
@[simp] theorem frz1_ptr {ar : Bool} {b o : Nat} : frz H ar (n + 1) (.ptr b o) = (match H[b]? with | some (.row cs) => if o ≤ cs.length then (frzL ar (frz H ar n) (cs.drop o)).map .cptr else none | _ => none) := by
  simp [frz, AV.canon, AV.pure]
  cases H[b]? with
  | none => rfl
  | some B => cases B <;> rfl
@[simp] theorem frz1_agg {ar : Bool} {cs : List AV} : frz H ar (n + 1) (.agg cs) = if AV.canons cs || ar && AV.pures cs then some (.agg cs) else (frzL ar (frz H ar n) cs).map .agg := by
  by_cases h : (AV.canons cs || ar && AV.pures cs) = true <;> simp [frz, AV.canon, AV.pure, h]
@[simp] theorem frz1_tup {ar : Bool} {cs : List AV} : frz H ar (n + 1) (.tup cs) = if AV.canons cs || ar && AV.pures cs then some (.tup cs) else (frzL ar (frz H ar n) cs).map .tup := by
  by_cases h : (AV.canons cs || ar && AV.pures cs) = true <;> simp [frz, AV.canon, AV.pure, h]
theorem frz1_canon {ar : Bool} {v : AV} (h : v.canon = true) : frz H ar (n + 1) v = some v := by simp [frz, h]
@[simp] theorem frz1_csl {ar : Bool} {cs : List AV} {l : Nat} (h : AV.canons cs = true) : frz H ar (n + 1) (.csl cs l none false) = some (.csl cs l none false) := frz1_canon (by simpa [AV.canon] using h)
@[simp] theorem frz1_cnil {ar : Bool} {l : Nat} : frz H ar (n + 1) (.csl [] l none false) = some (.csl [] l none false) := frz1_canon rfl
@[simp] theorem kil1_nils : kil H (n + 1) .nils = [] := by simp [kil, AV.pure]
@[simp] theorem kil1_gsl {b l w : Nat} : kil H (n + 1) (.gsl b l w) = b :: (match H[b]? with | some (.row cs) => if AV.pures cs then [] else cs.flatMap (kil H n) | _ => []) := by
  simp [kil, AV.pure]
  cases H[b]? with
  | none => rfl
  | some B => cases B <;> rfl
@[simp] theorem kil1_msl {b o l c : Nat} : kil H (n + 1) (.msl b o l c) = b :: (match H[b]? with | some (.row cs) => if AV.pures cs then [] else cs.flatMap (kil H n) | _ => []) := by
  simp [kil, AV.pure]
  cases H[b]? with
  | none => rfl
  | some B => cases B <;> rfl
@[simp] theorem frzL1 {ar : Bool} {f : AV → Option AV} {l : List AV} : frzL ar f l = if AV.canons l || ar && AV.pures l then some l else optAll f l := rfl
end

@[simp] theorem cells_agg {c : List AV} : (AV.agg c).cells = c := rfl
@[simp] theorem cells_int {k : IntKind} {n : Int} : (AV.int k n).cells = [.int k n] := rfl
@[simp] theorem cells_bool {b : Bool} : (AV.bool b).cells = [.bool b] := rfl
@[simp] theorem cells_str {s : ByteArray} : (AV.str s).cells = [.str s] := rfl
@[simp] theorem cells_ptr {b o : Nat} : (AV.ptr b o).cells = [.ptr b o] := rfl
@[simp] theorem cells_cptr {c : List AV} : (AV.cptr c).cells = [.cptr c] := rfl
@[simp] theorem cells_msl {b o l c : Nat} : (AV.msl b o l c).cells = [.msl b o l c] := rfl
@[simp] theorem cells_gsl {b l c : Nat} : (AV.gsl b l c).cells = [.gsl b l c] := rfl
@[simp] theorem cells_csl {c : List AV} {l : Nat} {k : Option Nat} {b : Bool} : (AV.csl c l k b).cells = [.csl c l k b] := rfl
@[simp] theorem cells_nils : AV.nils.cells = [.nils] := rfl
@[simp] theorem cells_nilp : AV.nilp.cells = [.nilp] := rfl
@[simp] theorem cells_fn {f : Fn} {a b : List AV} : (AV.fn f a b).cells = [.fn f a b] := rfl
@[simp] theorem cell_int {k : IntKind} {n : Int} : (AV.int k n).isCell = true := rfl
@[simp] theorem cell_bool {b : Bool} : (AV.bool b).isCell = true := rfl
@[simp] theorem cell_str {s : ByteArray} : (AV.str s).isCell = true := rfl
@[simp] theorem cell_ptr {b o : Nat} : (AV.ptr b o).isCell = true := rfl
@[simp] theorem cell_msl {b o l c : Nat} : (AV.msl b o l c).isCell = true := rfl
@[simp] theorem cell_gsl {b l c : Nat} : (AV.gsl b l c).isCell = true := rfl
@[simp] theorem cell_csl {c : List AV} {l : Nat} {k : Option Nat} {b : Bool} : (AV.csl c l k b).isCell = true := rfl
@[simp] theorem cell_nils : AV.nils.isCell = true := rfl
@[simp] theorem cell_nilp : AV.nilp.isCell = true := rfl
@[simp] theorem cell_fn {f : Fn} {a b : List AV} : (AV.fn f a b).isCell = true := rfl

attribute [simp] List.findIdx?_cons doHint_fz doHint_fzc doHint_norm norm visit rensP AV.renP AV.ren renB idsP AB.ids AV.ids AV.idss code_skip code_exit code_ret code_seq code_cond code_block code_hint code_ops0 code_opsd runOps stepO guardO skipO aop val Env.get ASt.put doHint_keep keepS_mk Env.keep abin aint aun AEff.at fin results optAll AV.canon AV.canons AV.pure AV.pures AV.flat AV.flats takeV bound srcOf goOn goOut invoke finO parts fillC over looseOk AOp.calm
end Go.Abs
end

section
/- Cases, features, options as the walk tells them. Conditions: none. -/
namespace Go.Abs.C
open Go Go.Abs

def i (n : Int) : AV := .int .i64 n
def sl (cells : List AV) (n : Nat) : AV := .csl cells n none false
structure Opt where
  v : Int
  m : Int
  deriving Inhabited
structure Feat where
  a : Int
  b : Int
  c : Int
  d : Int
  e : Int
  o : List Opt
  deriving Inhabited
structure Case where
  clefs : List Int
  key : Int
  beats : Int
  unit : Int
  bar : Int
  free : Bool
  cells : List (List (List Feat))
  deriving Inhabited

def fl {α : Type} (e : α → List AV) (l : List α) : List AV := l.flatMap e
def ml {α : Type} (e : α → AV) (l : List α) : List AV := l.map e
def il (l : List Int) : AV := sl (ml i l) l.length
def oc (o : Opt) : List AV := [i o.v, i o.m]
def os (l : List Opt) : AV := sl (fl oc l) l.length
def pc (f : Feat) : List AV := [i f.a, i f.b, i f.c, i f.d, i f.e]
def fc (f : Feat) : List AV := [i f.a, i f.b, i f.c, i f.d, i f.e, os f.o]
def fs (l : List Feat) : AV := sl (fl fc l) l.length
def rs (l : List (List Feat)) : AV := sl (ml fs l) l.length
def cs (l : List (List (List Feat))) : AV := sl (ml rs l) l.length
def frc (c : Case) : List AV := [il c.clefs, i c.key, i c.beats, i c.unit, i c.bar, .bool c.free]
def cc (c : Case) : List AV := [il c.clefs, i c.key, i c.beats, i c.unit, i c.bar, .bool c.free, cs c.cells]

theorem pures_append {a b : List AV} : AV.pures (a ++ b) = (AV.pures a && AV.pures b) := by
  induction a with
  | nil => simp
  | cons x a ih => simp [ih, Bool.and_assoc]
theorem canons_append {a b : List AV} : AV.canons (a ++ b) = (AV.canons a && AV.canons b) := by
  induction a with
  | nil => simp
  | cons x a ih => simp [ih, Bool.and_assoc]
theorem pures_fl {α : Type} {e : α → List AV} (h : ∀ a, AV.pures (e a) = true) : ∀ l, AV.pures (fl e l) = true
  | [] => rfl
  | a :: l => by simp only [fl, List.flatMap_cons, pures_append, h a, Bool.true_and]; exact pures_fl h l
theorem canons_fl {α : Type} {e : α → List AV} (h : ∀ a, AV.canons (e a) = true) : ∀ l, AV.canons (fl e l) = true
  | [] => rfl
  | a :: l => by simp only [fl, List.flatMap_cons, canons_append, h a, Bool.true_and]; exact canons_fl h l
theorem pures_map {α : Type} {e : α → AV} (h : ∀ a, (e a).pure = true) : ∀ l : List α, AV.pures (ml e l) = true
  | [] => rfl
  | a :: l => by have := pures_map h l; simp only [ml] at this; simp [ml, h a, this]
theorem canons_map {α : Type} {e : α → AV} (h : ∀ a, (e a).canon = true) : ∀ l : List α, AV.canons (ml e l) = true
  | [] => rfl
  | a :: l => by have := canons_map h l; simp only [ml] at this; simp [ml, h a, this]
theorem len_fl {α : Type} {e : α → List AV} {w : Nat} (h : ∀ a, (e a).length = w) : ∀ l, (fl e l).length = l.length * w
  | [] => by simp [fl]
  | a :: l => by
    have := len_fl h l
    simp only [fl, List.flatMap_cons, List.length_append, List.length_cons] at this ⊢
    rw [this, h a, Nat.add_mul, Nat.one_mul, Nat.add_comm]
theorem at_fl {α : Type} {e : α → List AV} {w : Nat} (h : ∀ a, (e a).length = w) : ∀ {l : List α} {j : Nat} {a : α}, l[j]? = some a → ((fl e l).drop (j * w)).take w = e a
  | [], j, a, hj => by simp at hj
  | b :: l, 0, a, hj => by
    simp at hj; subst hj
    simp only [fl, List.flatMap_cons, Nat.zero_mul, List.drop_zero]
    rw [List.take_append_of_le_length (by rw [h]; exact Nat.le_refl _), List.take_of_length_le (by rw [h]; exact Nat.le_refl _)]
  | b :: l, j + 1, a, hj => by
    have ih := at_fl h (l := l) (j := j) (a := a) (by simpa using hj)
    rw [← ih]
    simp only [fl, List.flatMap_cons]
    rw [List.drop_append, h b, List.drop_eq_nil_of_le (by rw [h b, Nat.add_mul]; omega), List.nil_append]
    congr 2
    rw [Nat.add_mul]; omega
theorem at_map {α : Type} {e : α → AV} {l : List α} {j : Nat} {a : α} (hj : l[j]? = some a) : ((ml e l).drop j).take 1 = [e a] := by
  obtain ⟨hj', rfl⟩ := List.getElem?_eq_some_iff.1 hj
  simp only [ml]
  rw [List.drop_eq_getElem_cons (by simpa using hj')]
  simp

@[simp] theorem len_ml {α : Type} (e : α → AV) (l : List α) : (ml e l).length = l.length := by simp [ml]
@[simp] theorem ml_nil {α : Type} (e : α → AV) : ml e [] = [] := rfl
theorem ml_take {α : Type} {e : α → AV} {l : List α} {j : Nat} {a : α} (hj : l[j]? = some a) : ml e (l.take j) ++ [e a] = ml e (l.take (j + 1)) := by
  obtain ⟨hj', rfl⟩ := List.getElem?_eq_some_iff.1 hj
  simp only [ml]
  rw [← List.take_append_getElem hj', List.map_append]
  rfl

@[simp] theorem pure_i (n : Int) : (i n).pure = true := rfl
@[simp] theorem canon_i (n : Int) : (i n).canon = true := rfl
@[simp] theorem flat_i (n : Int) : (i n).flat = true := rfl
@[simp] theorem cell_i (n : Int) : (i n).isCell = true := rfl
@[simp] theorem cells_i (n : Int) : (i n).cells = [i n] := rfl
theorem pure_sl {c : List AV} {n : Nat} (h : AV.pures c = true) : (sl c n).pure = true := by simpa [sl] using h
theorem canon_sl {c : List AV} {n : Nat} (h : AV.canons c = true) : (sl c n).canon = true := by simpa [sl] using h
@[simp] theorem cell_sl (c : List AV) (n : Nat) : (sl c n).isCell = true := rfl
@[simp] theorem cells_sl (c : List AV) (n : Nat) : (sl c n).cells = [sl c n] := rfl
@[simp] theorem pures_il (l : List Int) : AV.pures (ml i l) = true := pures_map pure_i l
@[simp] theorem canons_il (l : List Int) : AV.canons (ml i l) = true := canons_map canon_i l
@[simp] theorem pure_il (l : List Int) : (il l).pure = true := pure_sl (pures_il l)
@[simp] theorem canon_il (l : List Int) : (il l).canon = true := canon_sl (canons_il l)
@[simp] theorem pures_oc (o : Opt) : AV.pures (oc o) = true := rfl
@[simp] theorem canons_oc (o : Opt) : AV.canons (oc o) = true := rfl
@[simp] theorem len_oc (o : Opt) : (oc o).length = 2 := rfl
@[simp] theorem pures_ocs (l : List Opt) : AV.pures (fl oc l) = true := pures_fl pures_oc l
@[simp] theorem canons_ocs (l : List Opt) : AV.canons (fl oc l) = true := canons_fl canons_oc l
@[simp] theorem len_ocs (l : List Opt) : (fl oc l).length = l.length * 2 := len_fl len_oc l
@[simp] theorem pure_os (l : List Opt) : (os l).pure = true := pure_sl (pures_ocs l)
@[simp] theorem canon_os (l : List Opt) : (os l).canon = true := canon_sl (canons_ocs l)
@[simp] theorem cell_os (l : List Opt) : (os l).isCell = true := rfl
@[simp] theorem cells_os (l : List Opt) : (os l).cells = [os l] := rfl
@[simp] theorem pures_fc (f : Feat) : AV.pures (fc f) = true := by simp [fc]
@[simp] theorem canons_fc (f : Feat) : AV.canons (fc f) = true := by simp [fc]
@[simp] theorem len_fc (f : Feat) : (fc f).length = 6 := rfl
@[simp] theorem pures_pc (f : Feat) : AV.pures (pc f) = true := by simp [pc]
@[simp] theorem canons_pc (f : Feat) : AV.canons (pc f) = true := by simp [pc]
@[simp] theorem len_pc (f : Feat) : (pc f).length = 5 := rfl
@[simp] theorem pures_fcs (l : List Feat) : AV.pures (fl fc l) = true := pures_fl pures_fc l
@[simp] theorem canons_fcs (l : List Feat) : AV.canons (fl fc l) = true := canons_fl canons_fc l
@[simp] theorem len_fcs (l : List Feat) : (fl fc l).length = l.length * 6 := len_fl len_fc l
@[simp] theorem pure_fs (l : List Feat) : (fs l).pure = true := pure_sl (pures_fcs l)
@[simp] theorem canon_fs (l : List Feat) : (fs l).canon = true := canon_sl (canons_fcs l)
@[simp] theorem cell_fs (l : List Feat) : (fs l).isCell = true := rfl
@[simp] theorem cells_fs (l : List Feat) : (fs l).cells = [fs l] := rfl
@[simp] theorem pures_fss (l : List (List Feat)) : AV.pures (ml fs l) = true := pures_map pure_fs l
@[simp] theorem canons_fss (l : List (List Feat)) : AV.canons (ml fs l) = true := canons_map canon_fs l
@[simp] theorem pure_rs (l : List (List Feat)) : (rs l).pure = true := pure_sl (pures_fss l)
@[simp] theorem canon_rs (l : List (List Feat)) : (rs l).canon = true := canon_sl (canons_fss l)
@[simp] theorem cell_rs (l : List (List Feat)) : (rs l).isCell = true := rfl
@[simp] theorem cells_rs (l : List (List Feat)) : (rs l).cells = [rs l] := rfl
@[simp] theorem pures_rss (l : List (List (List Feat))) : AV.pures (ml rs l) = true := pures_map pure_rs l
@[simp] theorem canons_rss (l : List (List (List Feat))) : AV.canons (ml rs l) = true := canons_map canon_rs l
@[simp] theorem pure_cs (l : List (List (List Feat))) : (cs l).pure = true := pure_sl (pures_rss l)
@[simp] theorem canon_cs (l : List (List (List Feat))) : (cs l).canon = true := canon_sl (canons_rss l)
@[simp] theorem cell_cs (l : List (List (List Feat))) : (cs l).isCell = true := rfl
@[simp] theorem cells_cs (l : List (List (List Feat))) : (cs l).cells = [cs l] := rfl
@[simp] theorem cell_il (l : List Int) : (il l).isCell = true := rfl
@[simp] theorem cells_il (l : List Int) : (il l).cells = [il l] := rfl
@[simp] theorem pures_cc (c : Case) : AV.pures (cc c) = true := by simp [cc]
@[simp] theorem canons_cc (c : Case) : AV.canons (cc c) = true := by simp [cc]
@[simp] theorem pures_frc (c : Case) : AV.pures (frc c) = true := by simp [frc]
@[simp] theorem canons_frc (c : Case) : AV.canons (frc c) = true := by simp [frc]

@[simp] theorem take_fc (f : Feat) : List.take 6 (fc f) = fc f := rfl
@[simp] theorem take5_fc (f : Feat) : List.take 5 (fc f) = pc f := rfl
@[simp] theorem drop5_fc (f : Feat) : List.drop 5 (fc f) = [os f.o] := rfl
@[simp] theorem take_oc (o : Opt) : List.take 2 (oc o) = oc o := rfl
@[simp] theorem drop1_oc (o : Opt) : List.drop 1 (oc o) = [i o.m] := rfl
@[simp] theorem take_pc (f : Feat) : List.take 5 (pc f) = pc f := rfl
@[simp] theorem fl_nil {α : Type} (e : α → List AV) : fl e [] = [] := rfl
@[simp] theorem frz1_i {H : List AB} {ar : Bool} {n : Nat} (z : Int) : frz H ar (n + 1) (i z) = some (i z) := frz1_canon (by simp)
@[simp] theorem frz1_il {H : List AB} {ar : Bool} {n : Nat} (l : List Int) : frz H ar (n + 1) (il l) = some (il l) := frz1_canon (by simp)
@[simp] theorem frz1_os {H : List AB} {ar : Bool} {n : Nat} (l : List Opt) : frz H ar (n + 1) (os l) = some (os l) := frz1_canon (by simp)
@[simp] theorem frz1_fs {H : List AB} {ar : Bool} {n : Nat} (l : List Feat) : frz H ar (n + 1) (fs l) = some (fs l) := frz1_canon (by simp)
@[simp] theorem frz1_rs {H : List AB} {ar : Bool} {n : Nat} (l : List (List Feat)) : frz H ar (n + 1) (rs l) = some (rs l) := frz1_canon (by simp)
@[simp] theorem frz1_cs {H : List AB} {ar : Bool} {n : Nat} (l : List (List (List Feat))) : frz H ar (n + 1) (cs l) = some (cs l) := frz1_canon (by simp)
@[simp] theorem ids_i (n : Int) : (i n).ids = [] := rfl
@[simp] theorem ids_il (l : List Int) : (il l).ids = [] := ids_pure (by simp)
@[simp] theorem ids_os (l : List Opt) : (os l).ids = [] := ids_pure (by simp)
@[simp] theorem ids_fs (l : List Feat) : (fs l).ids = [] := ids_pure (by simp)
@[simp] theorem ids_rs (l : List (List Feat)) : (rs l).ids = [] := ids_pure (by simp)
@[simp] theorem ids_cs (l : List (List (List Feat))) : (cs l).ids = [] := ids_pure (by simp)
@[simp] theorem idss_fcs (l : List Feat) : AV.idss (fl fc l) = [] := idss_pure (by simp)
@[simp] theorem idss_ocs (l : List Opt) : AV.idss (fl oc l) = [] := idss_pure (by simp)
@[simp] theorem idss_il (l : List Int) : AV.idss (ml i l) = [] := idss_pure (by simp)
@[simp] theorem idss_rss (l : List (List (List Feat))) : AV.idss (ml rs l) = [] := idss_pure (by simp)
@[simp] theorem idss_fss (l : List (List Feat)) : AV.idss (ml fs l) = [] := idss_pure (by simp)

@[simp] theorem take_ml {α : Type} (e : α → AV) (l : List α) : List.take l.length (ml e l) = ml e l := List.take_of_length_le (by simp)
@[simp] theorem take_fcs (l : List Feat) : List.take (l.length * 6) (fl fc l) = fl fc l := List.take_of_length_le (by simp)
@[simp] theorem take_ocs (l : List Opt) : List.take (l.length * 2) (fl oc l) = fl oc l := List.take_of_length_le (by simp)
theorem wrap_ok {n : Int} (h1 : -9223372036854775808 ≤ n) (h2 : n ≤ 9223372036854775807) : IntKind.i64.wrap n = n := by rw [IntKind.wrap_i64]; omega

theorem frz_canon0 {H : List AB} {ar : Bool} {v : AV} (h : v.canon = true) : frz H ar depthF v = some v := frz1_canon h
@[simp] theorem frz_bool {H : List AB} {ar b : Bool} : frz H ar depthF (.bool b) = some (.bool b) := frz_canon0 rfl
@[simp] theorem frz_int {H : List AB} {ar : Bool} {k : IntKind} {n : Int} : frz H ar depthF (.int k n) = some (.int k n) := frz_canon0 rfl
theorem frz_canon {H : List AB} {ar : Bool} {v : AV} (h : v.canon = true) : frz H ar depthF v = some v := frz1_canon h
theorem frz_pure {H : List AB} {v : AV} (h : v.pure = true) : frz H true depthF v = some v := by simp [depthF, frz, h]
@[simp] theorem kilD_nils {H : List AB} : kil H depthF .nils = [] := by simp [depthF]
theorem kilD_gsl {H : List AB} {b l w : Nat} : kil H depthF (.gsl b l w) = b :: (match H[b]? with | some (.row cs) => if AV.pures cs then [] else cs.flatMap (kil H (depthF - 1)) | _ => []) := by simp only [depthF]; exact kil1_gsl
theorem kilD_msl {H : List AB} {b o l c : Nat} : kil H depthF (.msl b o l c) = b :: (match H[b]? with | some (.row cs) => if AV.pures cs then [] else cs.flatMap (kil H (depthF - 1)) | _ => []) := by simp only [depthF]; exact kil1_msl
theorem frzD_gsl {H : List AB} {ar : Bool} {b l w : Nat} : frz H ar depthF (.gsl b l w) = (match H[b]? with | some (.row cs) => if l * w ≤ cs.length then (frzL ar (frz H ar (depthF - 1)) (cs.take (l * w))).map fun cs => .csl cs l none ar else none | _ => none) := by simp only [depthF]; exact frz1_gsl
theorem frzD_msl {H : List AB} {ar : Bool} {b o l c : Nat} : frz H ar depthF (.msl b o l c) = (match H[b]? with | some (.row cs) => if o ≤ cs.length then (frzL ar (frz H ar (depthF - 1)) (cs.drop o)).map fun cs => .csl cs l none ar else none | _ => none) := by simp only [depthF]; exact frz1_msl
@[simp] theorem frzD_nils {H : List AB} : frz H false depthF .nils = some (.csl [] 0 none false) := by simp only [depthF]; exact frz1_nils
theorem frzD_agg {H : List AB} {ar : Bool} {cs : List AV} : frz H ar depthF (.agg cs) = if AV.canons cs || ar && AV.pures cs then some (.agg cs) else (frzL ar (frz H ar (depthF - 1)) cs).map .agg := by simp only [depthF]; exact frz1_agg
theorem frzD_tup {H : List AB} {ar : Bool} {cs : List AV} : frz H ar depthF (.tup cs) = if AV.canons cs || ar && AV.pures cs then some (.tup cs) else (frzL ar (frz H ar (depthF - 1)) cs).map .tup := by simp only [depthF]; exact frz1_tup
@[simp] theorem frzD_tupc {H : List AB} {ar : Bool} {cs : List AV} (h : AV.canons cs = true) : frz H ar depthF (.tup cs) = some (.tup cs) := frz_canon0 (by simpa [AV.canon] using h)
@[simp] theorem frzD_aggc {H : List AB} {ar : Bool} {cs : List AV} (h : AV.canons cs = true) : frz H ar depthF (.agg cs) = some (.agg cs) := frz_canon0 (by simpa [AV.canon] using h)
@[simp] theorem frzD_cslc {H : List AB} {ar : Bool} {cs : List AV} {n : Nat} (h : AV.canons cs = true) : frz H ar depthF (.csl cs n none false) = some (.csl cs n none false) := frz_canon0 (by simpa [AV.canon] using h)
end Go.Abs.C
end

section
/- A row whose call answers true and leaves all old memory as it was. Conditions: none. -/
namespace Go.Abs
open Go Go.ChangeShapes Go.WideShapes Go.RowKit

section
variable {H : Type} {enc : TypeId × Value → H} {P : Program}

theorem keptBut_of_below {W W' : World} (hB : Below W.heap.size W W') (may : MemPlace → Prop) : W.keptBut W' may := by
  refine ⟨hB.os, hB.output, fun i hi => ?_⟩
  rw [hB.block i hi]
  cases W.heap[i]? with
  | none => trivial
  | some b => cases b <;> simp

theorem frozen_of_below {W W' : World} (hB : Below W.heap.size W W') {a : Addr} (ha : a.block < W.heap.size) : W'.frozen? a = W.frozen? a := by
  simp only [World.frozen?, hB.block _ ha]

theorem trodAll_below (hl : laidOutB P = true) {W W' : World} (hB : Below W.heap.size W W') : ∀ {ts : List TypeId}, (∀ t ∈ ts, P.readableRec t = true ∧ t < P.types.size) → ∀ {vs : List Value} {ds : List (DataW H)} {p : List MemPlace},
    DataW.TrodAll enc P W 0 (fun _ => true) true ts vs ds p → (∀ x ∈ p, x.block < W.heap.size) → ∀ sp : Nat → Bool, (∀ x ∈ p, sp x.block = true) → DataW.TrodAll enc P W' 0 sp true ts vs ds p
  | [], _, _, _, _, h, _, _, _ => by
    obtain ⟨rfl, rfl, rfl⟩ := trodAll_nil h
    exact rfl
  | t :: ts, ht, _, _, _, h, hp, sp, hs => by
    obtain ⟨v, vs1, d, ds1, a, b, rfl, rfl, rfl, h1, h2⟩ := trodAll_cons h
    have ht0 := ht t (List.mem_cons_self ..)
    refine ⟨a, b, WideElems.Trod_stays hl ht0.1 ht0.2 h1 (fun x hx => hB.same (hp x (List.mem_append_left _ hx))) (fun x hx => hs x (List.mem_append_left _ hx)), ?_, rfl⟩
    exact trodAll_below hl hB (fun t' h' => ht t' (List.mem_cons_of_mem _ h')) h2 (fun x hx => hp x (List.mem_append_right _ hx)) sp (fun x hx => hs x (List.mem_append_right _ hx))

theorem trodAll_len {W : World} {sp : Nat → Bool} {b : Nat} {hd : Bool} : ∀ {ts : List TypeId} {vs : List Value} {ds : List (DataW H)} {p : List MemPlace}, DataW.TrodAll enc P W b sp hd ts vs ds p → ds.length = ts.length
  | [], _, _, _, h => by
    obtain ⟨rfl, rfl, rfl⟩ := trodAll_nil h
    rfl
  | t :: ts, _, _, _, h => by
    obtain ⟨v, vs1, d, ds1, a, b, rfl, rfl, rfl, h1, h2⟩ := trodAll_cons h
    simp [trodAll_len h2]

theorem post_true {f : Func} {s : ChangeSpec} {fresh handsOn again : Bool} {tb : TypeId} (hl : laidOutB P = true) (hts : (f.params.toList.all fun t => P.readableRec t && decide (t < P.types.size)) = true)
    (hv : s.vars = []) (hr : f.resultTypes = #[tb]) (hb : P.underlying tb = some .bool) (hs : ∀ ds : List (DataW H), ds.length = f.params.toList.length → s.fn H ds = { results := [.lit (.bool true)], args := ds })
    {W W' : World} {args : Array Value} {ds gs : List (DataW H)} {before : List MemPlace} (hW : DataW.Whole enc P f.params.toList s.vars false W args.toList ds gs before) (hB : Below W.heap.size W W') :
    s.post enc P f false fresh handsOn again W args (.bool true) W' := by
  have hlt := hW.lt
  have hW' := hW
  obtain ⟨p, q, hA, hV, rfl, hz, hn⟩ := hW'
  rw [hv] at hV
  obtain ⟨rfl, rfl⟩ : gs = [] ∧ q = [] := by
    cases gs with
    | nil => exact ⟨rfl, hV⟩
    | cons g gs => exact hV.elim
  have hlen := trodAll_len hA
  have hfn := hs ds hlen
  have hts' : ∀ t ∈ f.params.toList, P.readableRec t = true ∧ t < P.types.size := fun t ht => by simpa using List.all_eq_true.1 hts t ht
  simp only [List.append_nil] at *
  have hres : ∀ (b : Nat) (sp : Nat → Bool) (hd : Bool), DataW.TrodAll enc P W' b sp hd f.resultTypes.toList ((Value.bool true).resultList f.resultTypes.size) [.lit (.bool true)] [] := fun b sp hd => by
    rw [hr]
    exact trodAll_mk1 (shut_bool hb _)
  have hargs := fun (sp : Nat → Bool) (h : ∀ x ∈ p, sp x.block = true) => trodAll_below hl hB hts' hA hlt sp h
  have hvars : ∀ sp : Nat → Bool, DataW.TrodVars enc P W' sp s.vars ([] : List (DataW H)) [] := fun sp => by rw [hv]; rfl
  refine ⟨ds, [], p, [], p, [], hW, ?_, ?_, ?_, keptBut_of_below hB _, fun _ => ?_⟩
  · rw [List.append_nil, hfn]; exact hres _ _ _
  · rw [List.append_nil, hfn]; exact hargs _ (fun x hx => by simpa using hlt x hx)
  · rw [List.append_nil, hfn]; exact hvars _
  · refine ⟨ok_one hr rfl (okWide_bool_mk hb _), _, _, ([] ++ p) ++ [], ⟨[] ++ p, [], trodAll_append (hargs _ (fun _ _ => rfl)) (hres _ _ _), hvars _, rfl, ?_, ?_⟩, ?_⟩
    · intro b off hp
      simp only [List.nil_append, List.append_nil] at hp
      rw [frozen_of_below hB (hlt _ hp)]
      exact hz b off hp
    · intro h; cases h
    · intro x hx _
      simpa using hx
end
end Go.Abs
end

section
/- What a reading of the arguments tells the walk. Conditions: none. -/
namespace Go.Abs.C
open Go Go.Abs
set_option maxRecDepth 10000

section
variable {H : Type} {enc : TypeId × Value → H} {P : Program} {W : World}

/-- All blocks that there are. -/
abbrev Old (W : World) (k : Nat) : Prop := k < W.heap.size
abbrev VR (W : World) (v : AV) (x : Value) : Prop := VRel W (Old W) (fun _ => none) v x
/-- Cells, told one by one. -/
def CellsRel (W : World) (es : List AV) (cs : List Value) : Prop := cs.length = es.length ∧ ∀ (j : Nat) (v : AV) (x : Value), es[j]? = some v → cs[j]? = some x → VR W v x

theorem CellsRel.one {v : AV} {x : Value} (h : VR W v x) : CellsRel W [v] [x] := ⟨rfl, fun j v' x' h1 h2 => by
  cases j with
  | zero => simp at h1 h2; subst h1; subst h2; exact h
  | succ j => simp at h1⟩
theorem CellsRel.append {a b : List AV} {x y : List Value} (h : CellsRel W a x) (g : CellsRel W b y) : CellsRel W (a ++ b) (x ++ y) := by
  refine ⟨by simp [h.1, g.1], fun j v z h1 h2 => ?_⟩
  rcases Nat.lt_or_ge j a.length with hj | hj
  · rw [List.getElem?_append_left hj] at h1
    rw [List.getElem?_append_left (by rw [h.1]; exact hj)] at h2
    exact h.2 j v z h1 h2
  · rw [List.getElem?_append_right hj] at h1
    rw [List.getElem?_append_right (by rw [h.1]; exact hj), h.1] at h2
    exact g.2 _ v z h1 h2

theorem cells_get {base n : Nat} {a : Addr} {cs : List Value} (h : W.cells? base a n = some cs) : cs.length = n ∧ ∀ i, i < n → W.cell? (a.add i) = cs[i]? := by
  simp only [World.cells?] at h
  split at h
  · exact ⟨by simpa using mapM_some_length h, fun i hi => mapM_some_get h i i (by simp [hi])⟩
  · cases h

theorem cell_old {a : Addr} {v : Value} (h : W.cell? a = some v) : Old W a.block := by
  simp only [World.cell?] at h
  rcases Nat.lt_or_ge a.block W.heap.size with hk | hk
  · exact hk
  · have : W.heap[a.block]? = none := Array.getElem?_eq_none_iff.2 hk
    simp [this] at h

theorem slice_rel {α : Type} {e : α → List AV} {t te : TypeId} {k : Nat} (hk : 0 < k) (hu : P.underlying t = some (.slice te)) (hc : P.cellsOf te = k) (he : ∀ a, (e a).length = k)
    (hel : ∀ (n : Nat) (cs : List Value) (x : DataW H × List MemPlace), DataW.trod enc P W 0 (fun _ => true) true n te cs = some x → ∃ a, CellsRel W (e a) cs)
    {n : Nat} {cs : List Value} {x : DataW H × List MemPlace} (h : DataW.trod enc P W 0 (fun _ => true) true n t cs = some x) : ∃ l : List α, CellsRel W [sl (fl e l) l.length] cs := by
  rcases DataW.trod_slice hu h with ⟨rfl, _⟩ | ⟨a, len, cap, elems, rest, m, rfl, rfl, _, _, hlc, _, hlen, hget, _, _⟩
  · exact ⟨[], .one (.csl (fun _ => undef) (Nat.le_refl _) (fun h => by cases h) (fun c h => by cases h) (fun _ => ⟨rfl, rfl⟩) (fun a' h => by cases h) (fun a' h => by cases h) (fun j v hj => by simp at hj))⟩
  · rw [hc] at hget
    -- the elements
    have : ∀ q, q ≤ len → ∃ l : List α, l.length = q ∧ ∀ i a', l[i]? = some a' → ∃ ecs, W.cells? 0 (a.add (i * k)) k = some ecs ∧ CellsRel W (e a') ecs := by
      intro q
      induction q with
      | zero => intro _; exact ⟨[], rfl, fun i a' hi => by simp at hi⟩
      | succ q ih =>
        intro hq
        obtain ⟨l, h1, h2⟩ := ih (by omega)
        have hg := hget q (by omega)
        have hq2 : elems[q]? = some (elems[q]'(by omega)) := List.getElem?_eq_getElem (by omega)
        rw [hq2, Option.bind_eq_some_iff] at hg
        obtain ⟨ecs, h3, h4⟩ := hg
        obtain ⟨b, hb⟩ := hel _ _ _ h4
        refine ⟨l ++ [b], by simp [h1], fun i a' hi => ?_⟩
        rcases Nat.lt_or_ge i l.length with hil | hil
        · rw [List.getElem?_append_left hil] at hi
          exact h2 i a' hi
        · rw [List.getElem?_append_right hil] at hi
          obtain rfl : i = q := by
            have := (List.getElem?_eq_some_iff.1 hi).1
            simp at this; omega
          rw [h1, Nat.sub_self] at hi
          simp at hi; subst hi
          exact ⟨ecs, h3, hb⟩
    obtain ⟨l, hl, hall⟩ := this len (Nat.le_refl _)
    subst hl
    have hspot : l ≠ [] → a.spot = none ∧ Old W a.block := fun hne => by
      have h0 : l[0]? = some (l[0]'(List.length_pos_iff.2 hne)) := List.getElem?_eq_getElem _
      obtain ⟨ecs, h1, h2⟩ := hall 0 _ h0
      obtain ⟨h3, h4⟩ := cells_get h1
      have h5 := h4 0 hk
      have : ecs[0]? = some (ecs[0]'(by omega)) := List.getElem?_eq_getElem (by omega)
      rw [this, Nat.zero_mul] at h5
      have h6 : (a.add 0).add 0 = a := by simp [Addr.add]
      rw [h6] at h5
      exact ⟨World.cell?_spot h5, cell_old h5⟩
    have hcell : ∀ (j : Nat) (v : AV), (fl e l)[j]? = some v → ∃ y, W.cell? ⟨a.block, a.off + j, none⟩ = some y ∧ VR W v y := fun j v hj => by
      have hjl := (List.getElem?_eq_some_iff.1 hj).1
      rw [len_fl he] at hjl
      have hne : l ≠ [] := by rintro rfl; simp at hjl
      have hsp := (hspot hne).1
      obtain ⟨b, off, s⟩ := a
      simp only at hsp
      subst hsp
      have hdm : j / k * k + j % k = j := by rw [Nat.mul_comm]; exact Nat.div_add_mod j k
      have hq : j / k < l.length := Nat.div_lt_of_lt_mul (by rw [Nat.mul_comm]; exact hjl)
      have hr : j % k < k := Nat.mod_lt _ hk
      have hli : l[j / k]? = some l[j / k] := List.getElem?_eq_getElem hq
      have ha := congrArg (fun z => z[j % k]?) (at_fl he hli)
      simp only [List.getElem?_take, List.getElem?_drop, hr, if_true, hdm] at ha
      rw [hj] at ha
      obtain ⟨ecs, h1, h2⟩ := hall _ _ hli
      obtain ⟨h3, h4⟩ := cells_get h1
      have h5 := h4 (j % k) hr
      have h6 : ecs[j % k]? = some (ecs[j % k]'(by omega)) := List.getElem?_eq_getElem (by omega)
      rw [h6, add_plain, add_plain, Nat.add_assoc, hdm] at h5
      exact ⟨_, h5, h2.2 _ _ _ ha.symm h6⟩
    refine ⟨l, .one (.csl (fun j => (W.cell? ⟨a.block, a.off + j, none⟩).getD undef) hlc (fun h => by cases h) (fun c h => by cases h) (fun h => by cases h) (fun a' h hb => ?_) (fun a' h j v hj => ?_) (fun j v hj => ?_))⟩
    · cases h
      have := hspot fun h0 => hb ⟨by rw [h0]; rfl, by rw [h0]; rfl, rfl, rfl⟩
      exact ⟨this.2, this.1⟩
    · cases h
      obtain ⟨y, h1, _⟩ := hcell j v hj
      rw [h1]; rfl
    · obtain ⟨y, h1, h2⟩ := hcell j v hj
      rw [h1]; exact h2
end
end Go.Abs.C
end

section
/- A case, as its reading tells it. Conditions: none. -/
namespace Go.Abs.C
open Go Go.Abs Go.Proofs
set_option maxRecDepth 100000

section
variable {H : Type} {enc : TypeId × Value → H} {W : World}
/-- A reading of a type in the world. -/
abbrev Rd (enc : TypeId × Value → H) (W : World) (n : Nat) (t : TypeId) (cs : List Value) (x : Option (DataW H × List MemPlace)) : Prop := DataW.trod enc Tryz.prog W 0 (fun _ => true) true n t cs = x

theorem int_rel {t : TypeId} (hu : Tryz.prog.underlying t = some (.int .i64)) {n : Nat} {cs : List Value} {x : DataW H × List MemPlace} (h : Rd enc W n t cs (some x)) : ∃ z : Int, CellsRel W [i z] cs := by
  obtain ⟨z, rfl, _, _⟩ := DataW.trod_int hu h
  exact ⟨z, .one (.int _ _)⟩
theorem bool_rel {t : TypeId} (hu : Tryz.prog.underlying t = some .bool) {n : Nat} {cs : List Value} {x : DataW H × List MemPlace} (h : Rd enc W n t cs (some x)) : ∃ b : Bool, CellsRel W [.bool b] cs := by
  obtain ⟨b, rfl, _⟩ := DataW.trod_bool hu h
  exact ⟨b, .one (.bool _)⟩
theorem field_rel {t : TypeId} {fs : Array Field} {q : Nat} {f : Field} (hu : Tryz.prog.underlying t = some (.struct fs)) (hf : fs[q]? = some f) {n : Nat} {cs : List Value} {x : DataW H × List MemPlace} (h : Rd enc W n t cs (some x)) :
    ∃ m y, Rd enc W m f.type ((cs.drop f.offset).take (Tryz.prog.cellsOf f.type)) (some y) := by
  obtain ⟨xs, m, rfl, _, _, hl, hall⟩ := DataW.trod_struct hu h
  have hq : q < xs.length := by rw [hl]; exact (Array.getElem?_eq_some_iff.1 hf).1
  exact ⟨m, xs[q], (hall q f hf).trans (List.getElem?_eq_getElem hq)⟩
theorem CellsRel.cat {a b : List AV} {cs : List Value} {n : Nat} (h : CellsRel W a (cs.take n)) (g : CellsRel W b (cs.drop n)) : CellsRel W (a ++ b) cs := by
  have := h.append g
  rwa [List.take_append_drop] at this

def fldOf (P : Program) (t q : Nat) : Option (Nat × Nat) := match P.underlying t with
  | some (.struct fs) => (fs[q]?).map fun f => (f.type, f.offset)
  | _ => none
theorem fld_rel {t q ft off : Nat} (hf : fldOf Tryz.prog t q = some (ft, off)) {n : Nat} {cs : List Value} {x : DataW H × List MemPlace} (h : Rd enc W n t cs (some x)) :
    cs.length = Tryz.prog.cellsOf t ∧ ∃ m y, Rd enc W m ft ((cs.drop off).take (Tryz.prog.cellsOf ft)) (some y) := by
  unfold fldOf at hf
  split at hf
  · rename_i fs hu
    simp only [Option.map_eq_some_iff] at hf
    obtain ⟨f, hq, e⟩ := hf
    cases e
    obtain ⟨_, _, _, _, hl, _, _⟩ := DataW.trod_struct hu h
    exact ⟨hl, field_rel hu hq h⟩
  · cases hf

theorem c3 : Tryz.prog.cellsOf 3 = 1 := by kernel_rfl
theorem c4 : Tryz.prog.cellsOf 4 = 1 := by kernel_rfl
theorem c22 : Tryz.prog.cellsOf 22 = 1 := by kernel_rfl
theorem c24 : Tryz.prog.cellsOf 24 = 2 := by kernel_rfl
theorem c25 : Tryz.prog.cellsOf 25 = 1 := by kernel_rfl
theorem c27 : Tryz.prog.cellsOf 27 = 6 := by kernel_rfl
theorem c28 : Tryz.prog.cellsOf 28 = 1 := by kernel_rfl
theorem c30 : Tryz.prog.cellsOf 30 = 7 := by kernel_rfl
theorem c52 : Tryz.prog.cellsOf 52 = 2 := by kernel_rfl
theorem c53 : Tryz.prog.cellsOf 53 = 1 := by kernel_rfl
theorem c55 : Tryz.prog.cellsOf 55 = 5 := by kernel_rfl
theorem c56 : Tryz.prog.cellsOf 56 = 1 := by kernel_rfl
theorem c58 : Tryz.prog.cellsOf 58 = 6 := by kernel_rfl
theorem c59 : Tryz.prog.cellsOf 59 = 1 := by kernel_rfl
theorem c60 : Tryz.prog.cellsOf 60 = 1 := by kernel_rfl
theorem c108 : Tryz.prog.cellsOf 108 = 1 := by kernel_rfl
theorem u3 : Tryz.prog.underlying 3 = some (.int .i64) := by kernel_rfl
theorem u4 : Tryz.prog.underlying 4 = some .bool := by kernel_rfl
theorem u22 : Tryz.prog.underlying 22 = some (.slice 108) := by kernel_rfl
theorem u25 : Tryz.prog.underlying 25 = some (.int .i64) := by kernel_rfl
theorem u28 : Tryz.prog.underlying 28 = some (.slice 60) := by kernel_rfl
theorem u53 : Tryz.prog.underlying 53 = some (.int .i64) := by kernel_rfl
theorem u56 : Tryz.prog.underlying 56 = some (.slice 52) := by kernel_rfl
theorem u59 : Tryz.prog.underlying 59 = some (.slice 58) := by kernel_rfl
theorem u60 : Tryz.prog.underlying 60 = some (.slice 59) := by kernel_rfl
theorem u108 : Tryz.prog.underlying 108 = some (.int .i64) := by kernel_rfl

theorem opt_rel {n : Nat} {cs : List Value} {x : DataW H × List MemPlace} (h : Rd enc W n 52 cs (some x)) : ∃ o : Opt, CellsRel W (oc o) cs := by
  obtain ⟨hl, m0, y0, h0⟩ := fld_rel (q := 0) (ft := 3) (off := 0) (by kernel_rfl) h
  obtain ⟨_, m1, y1, h1⟩ := fld_rel (q := 1) (ft := 3) (off := 1) (by kernel_rfl) h
  rw [c3] at h0 h1
  rw [c52] at hl
  obtain ⟨a, ha⟩ := int_rel u3 h0
  obtain ⟨b, hb⟩ := int_rel u3 h1
  match cs, hl with
  | [p, q], _ => exact ⟨⟨a, b⟩, ha.append hb⟩

theorem opts_rel {n : Nat} {cs : List Value} {x : DataW H × List MemPlace} (h : Rd enc W n 56 cs (some x)) : ∃ l : List Opt, CellsRel W [os l] cs :=
  slice_rel (k := 2) (by omega) u56 c52 len_oc (fun _ _ _ h => opt_rel h) h

theorem feat_rel {n : Nat} {cs : List Value} {x : DataW H × List MemPlace} (h : Rd enc W n 58 cs (some x)) : ∃ f : Feat, CellsRel W (fc f) cs := by
  obtain ⟨hl, m0, y0, h0⟩ := fld_rel (q := 0) (ft := 55) (off := 0) (by kernel_rfl) h
  obtain ⟨_, m1, y1, h1⟩ := fld_rel (q := 1) (ft := 56) (off := 5) (by kernel_rfl) h
  rw [c55] at h0
  rw [c56] at h1
  rw [c58] at hl
  obtain ⟨_, _, _, p0⟩ := fld_rel (q := 0) (ft := 3) (off := 0) (by kernel_rfl) h0
  obtain ⟨_, _, _, p1⟩ := fld_rel (q := 1) (ft := 3) (off := 1) (by kernel_rfl) h0
  obtain ⟨_, _, _, p2⟩ := fld_rel (q := 2) (ft := 3) (off := 2) (by kernel_rfl) h0
  obtain ⟨_, _, _, p3⟩ := fld_rel (q := 3) (ft := 53) (off := 3) (by kernel_rfl) h0
  obtain ⟨_, _, _, p4⟩ := fld_rel (q := 4) (ft := 3) (off := 4) (by kernel_rfl) h0
  rw [c3] at p0 p1 p2 p4
  rw [c53] at p3
  obtain ⟨a, ha⟩ := int_rel u3 p0
  obtain ⟨b, hb⟩ := int_rel u3 p1
  obtain ⟨c, hc⟩ := int_rel u3 p2
  obtain ⟨d, hd⟩ := int_rel u53 p3
  obtain ⟨e, he⟩ := int_rel u3 p4
  obtain ⟨o, ho⟩ := opts_rel h1
  match cs, hl with
  | [_, _, _, _, _, _], _ => exact ⟨⟨a, b, c, d, e, o⟩, ((((ha.append hb).append hc).append hd).append he).append ho⟩
end
end Go.Abs.C
end

section
/- A case, as its reading tells it (2). Conditions: none. -/
namespace Go.Abs.C
open Go Go.Abs Go.Proofs
set_option maxRecDepth 100000

section
variable {H : Type} {enc : TypeId × Value → H} {W : World}
theorem ml_fl {α : Type} (e : α → AV) (l : List α) : fl (fun a => [e a]) l = ml e l := by
  induction l with
  | nil => rfl
  | cons a l ih => simp only [fl, List.flatMap_cons, ml, List.map_cons] at ih ⊢; rw [ih]; rfl
theorem one_rel {α : Type} {e : α → AV} {t te : Nat} (hu : Tryz.prog.underlying t = some (.slice te)) (hc : Tryz.prog.cellsOf te = 1)
    (hel : ∀ (n : Nat) (cs : List Value) (x : DataW H × List MemPlace), Rd enc W n te cs (some x) → ∃ a, CellsRel W [e a] cs) {n : Nat} {cs : List Value} {x : DataW H × List MemPlace} (h : Rd enc W n t cs (some x)) :
    ∃ l : List α, CellsRel W [sl (ml e l) l.length] cs := by
  obtain ⟨l, hl⟩ := slice_rel (e := fun a => [e a]) (k := 1) (by omega) hu hc (fun _ => rfl) hel h
  rw [ml_fl] at hl
  exact ⟨l, hl⟩
theorem feats_rel {n : Nat} {cs : List Value} {x : DataW H × List MemPlace} (h : Rd enc W n 59 cs (some x)) : ∃ l : List Feat, CellsRel W [fs l] cs :=
  slice_rel (k := 6) (by omega) u59 c58 len_fc (fun _ _ _ h => feat_rel h) h
theorem row_rel {n : Nat} {cs : List Value} {x : DataW H × List MemPlace} (h : Rd enc W n 60 cs (some x)) : ∃ l : List (List Feat), CellsRel W [rs l] cs :=
  one_rel u60 c59 (fun _ _ _ h => feats_rel h) h
theorem cells_rel {n : Nat} {cs' : List Value} {x : DataW H × List MemPlace} (h : Rd enc W n 28 cs' (some x)) : ∃ l : List (List (List Feat)), CellsRel W [cs l] cs' :=
  one_rel u28 c60 (fun _ _ _ h => row_rel h) h
theorem clefs_rel {n : Nat} {cs : List Value} {x : DataW H × List MemPlace} (h : Rd enc W n 22 cs (some x)) : ∃ l : List Int, CellsRel W [il l] cs :=
  one_rel u22 c108 (fun _ _ _ h => int_rel u108 h) h

theorem case_rel {n : Nat} {vs : List Value} {x : DataW H × List MemPlace} (h : Rd enc W n 30 vs (some x)) : ∃ c : Case, CellsRel W (cc c) vs := by
  obtain ⟨hl, m0, y0, h0⟩ := fld_rel (q := 0) (ft := 27) (off := 0) (by kernel_rfl) h
  obtain ⟨_, m1, y1, h1⟩ := fld_rel (q := 1) (ft := 28) (off := 6) (by kernel_rfl) h
  rw [c27] at h0
  rw [c28] at h1
  rw [c30] at hl
  obtain ⟨_, _, _, p0⟩ := fld_rel (q := 0) (ft := 22) (off := 0) (by kernel_rfl) h0
  obtain ⟨_, _, _, p1⟩ := fld_rel (q := 1) (ft := 3) (off := 1) (by kernel_rfl) h0
  obtain ⟨_, _, _, p2⟩ := fld_rel (q := 2) (ft := 24) (off := 2) (by kernel_rfl) h0
  obtain ⟨_, _, _, p3⟩ := fld_rel (q := 3) (ft := 25) (off := 4) (by kernel_rfl) h0
  obtain ⟨_, _, _, p4⟩ := fld_rel (q := 4) (ft := 4) (off := 5) (by kernel_rfl) h0
  rw [c24] at p2
  obtain ⟨_, _, _, q0⟩ := fld_rel (q := 0) (ft := 3) (off := 0) (by kernel_rfl) p2
  obtain ⟨_, _, _, q1⟩ := fld_rel (q := 1) (ft := 3) (off := 1) (by kernel_rfl) p2
  rw [c22] at p0
  rw [c3] at p1 q0 q1
  rw [c25] at p3
  rw [c4] at p4
  obtain ⟨l, hl0⟩ := clefs_rel p0
  obtain ⟨k, hk⟩ := int_rel u3 p1
  obtain ⟨b, hb⟩ := int_rel u3 q0
  obtain ⟨u, hu⟩ := int_rel u3 q1
  obtain ⟨r, hr⟩ := int_rel u25 p3
  obtain ⟨f, hf⟩ := bool_rel u4 p4
  obtain ⟨s, hs⟩ := cells_rel h1
  match vs, hl with
  | [_, _, _, _, _, _, _], _ => exact ⟨⟨l, k, b, u, r, f, s⟩, (((((hl0.append hk).append hb).append hu).append hr).append hf).append hs⟩
end
end Go.Abs.C
end

section
/- A call that answers true. Conditions: none. -/
namespace Go.Abs.C
open Go Go.Abs Go.Proofs Go.RowKit
set_option maxRecDepth 100000

theorem frz_true {H : List AB} {w : AV} (h : frz H false depthF w = some (.bool true)) : w = .bool true := by
  by_cases hc : (w.canon || false && w.pure) = true
  · have : frz H false depthF w = some w := by
      have hc' : w.canon = true := by simpa using hc
      exact frz_canon0 hc'
    rw [this] at h
    exact Option.some.inj h
  · have e : frz H false depthF w = frz H false (29 + 1) w := rfl
    rw [e] at h
    cases w
    all_goals unfold frz at h
    all_goals rw [if_neg hc] at h
    all_goals (try (simp at h; done))
    all_goals simp only at h
    all_goals (try (split at h))
    all_goals (try (split at h))
    all_goals first | (cases h; done) | (simp only [Option.map_eq_some_iff] at h; obtain ⟨_, _, h⟩ := h; cases h) | (simp only [Option.bind_eq_some_iff, Option.map_eq_some_iff] at h; obtain ⟨_, _, _, _, h⟩ := h; cases h)

theorem calls_told {f : Nat} {xs : List AV} {H' : List AB} (ht : Told Tryz.prog T f xs [] (.ret (.bool true)) H') {W : World} {args : Array Value} (hx : VRels W (fun k => k < W.heap.size) (fun _ => none) xs args) (hg : GL T W (fun k => k < W.heap.size)) :
    Calls Tryz.prog f args W fun e W' => e = .returned (.bool true) ∧ Below W.heap.size W W' := by
  refine callsIn_wide.1 ((ht W (fun k => k < W.heap.size) (fun _ => none) args (hrel_nil fun k h => h) hg hx).mono ?_)
  rintro e W' ⟨D', ι', he, _, hE, _, _⟩
  refine ⟨?_, hE.os, hE.tape, hE.output, hE.size, fun k hk => hE.keep k hk (live_nil k)⟩
  cases e with
  | returned x => cases he; rfl
  | _ => cases he

theorem calls_true {f : Nat} {xs : List AV} (h : Ret T f xs (.bool true)) {W : World} {args : Array Value} (hx : VRels W (fun k => k < W.heap.size) (fun _ => none) xs args) (hg : GL T W (fun k => k < W.heap.size)) :
    Calls Tryz.prog f args W fun e W' => e = .returned (.bool true) ∧ Below W.heap.size W W' := by
  obtain ⟨w, H', h1, h2⟩ := h
  obtain rfl := frz_true h2
  exact calls_told (told_lim tab_ok fn_ok h1) hx hg
end Go.Abs.C
end

section
/- The variable that is laid. Conditions: none. -/
namespace Go.Abs.C
open Go Go.Abs Go.Proofs Go.Proofs.YthaebccedgaamaaGreatDoor
open Go.ChangeShapes Go.WideShapes Go.ChangeAt Go.RowKit
set_option maxRecDepth 100000

theorem gZones : Tryz.prog.globalNamed "custos/cell.zones" = some 0 := by kernel_rfl
theorem tZones : (Tryz.prog.globals[0]?).map (·.type) = some 345 := by kernel_rfl
theorem u345 : Tryz.prog.underlying 345 = some (.array 3 3) := by kernel_rfl

theorem gl_of_laid {W : World} (h : laidMetH Tryz.prog [("custos/cell.zones", Rows.laid_custos_cell_zones)] W) : GL T W (Old W) := by
  intro g cs hg
  rw [MakeChecks.laidMetH_plain _ _ _ (by kernel_rfl)] at h
  obtain ⟨ps, ⟨g0, t0, cs0, f0, p0, q0, hg0, ht0, hv0, hd0, _, _⟩, _, _⟩ := h
  obtain rfl := Option.some.inj (gZones.symm.trans hg0)
  obtain rfl := Option.some.inj (tZones.symm.trans ht0)
  obtain ⟨xs, m1, rfl, hx1, hlen, hn3, hel⟩ := DataW.trod_array u345 hd0
  rw [c3] at hel
  have c345 : Tryz.prog.cellsOf 345 = 3 := by kernel_rfl
  rw [c345] at hlen
  have e0 := hel 0 (by omega)
  have e1 := hel 1 (by omega)
  have e2 := hel 2 (by omega)
  have hv := fun j => World.var?_cell gZones hv0 j
  obtain ⟨l⟩ := cs0
  match l, hlen, xs, hn3, hx1, e0, e1, e2 with
  | [a, b, c], _, [x0, x1, x2], _, hx1, e0, e1, e2 =>
    obtain ⟨k0, r0, s0, _⟩ := DataW.trod_int u3 (show DataW.trod _ Tryz.prog W 0 _ false m1 3 _ = some x0 from e0)
    obtain ⟨k1, r1, s1, _⟩ := DataW.trod_int u3 (show DataW.trod _ Tryz.prog W 0 _ false m1 3 _ = some x1 from e1)
    obtain ⟨k2, r2, s2, _⟩ := DataW.trod_int u3 (show DataW.trod _ Tryz.prog W 0 _ false m1 3 _ = some x2 from e2)
    simp [Rows.laid_custos_cell_zones, s0, s1, s2] at hx1
    simp at r0 r1 r2
    obtain ⟨⟨rfl, rfl, rfl⟩, _⟩ := hx1
    subst r0; subst r1; subst r2
    simp only [T] at hg
    cases hb : Nat.beq g 0 with
    | false => rw [hb] at hg; cases hg
    | true =>
      rw [hb] at hg
      cases hg
      obtain rfl := Nat.eq_of_beq_eq_true hb
      have h0 := hv 0
      have h1 := hv 1
      have h2 := hv 2
      simp at h0 h1 h2
      have hz : ∀ (j : Nat) (v : AV), zones[j]? = some v → ∃ n : Int, v = .int .i64 n ∧ W.cell? ⟨0, 0 + j, none⟩ = some (.int .i64 n) := fun j v hj => by
        match j, hj with
        | 0, hj => cases hj; exact ⟨_, rfl, h0⟩
        | 1, hj => cases hj; exact ⟨_, rfl, h1⟩
        | 2, hj => cases hj; exact ⟨_, rfl, h2⟩
        | j + 3, hj => simp [zones] at hj
      refine ⟨rfl, .cptr (fun j => (W.cell? ⟨0, 0 + j, none⟩).getD undef) (cell_old h0) rfl (fun j v hj => ?_) (fun j v hj => ?_)⟩
      · obtain ⟨n, rfl, h⟩ := hz j v hj
        rw [h]; rfl
      · obtain ⟨n, rfl, h⟩ := hz j v hj
        rw [h]; exact .int _ _

theorem own : ownKnob Tryz.prog.godebug = none := by kernel_rfl
theorem laidOut : laidOutB Tryz.prog = true := by kernel_rfl
def lz : List (String × DataW Unit) := [("custos/cell.zones", Rows.laid_custos_cell_zones)]
theorem door_met (os : Os) (args : Array Value) : laidMetH Tryz.prog lz ((World.doorLaid Tryz.prog 400 os).forCall (fun _ _ => 0) ⟨#[], args, []⟩).memory :=
  laidMetH_of_parts3 (fuel := 8) (laidMet_of_run' 8 (by kernel_rfl) (by kernel_rfl)) (by kernel_rfl) (by kernel_rfl)
/-- An argument of a struct's or an array's type. -/
theorem arg_agg {t : TypeId} (hs : (match Tryz.prog.underlying t with | some (.struct _) | some (.array _ _) => true | _ => false) = true) {W : World} {base : Nat} {v : Value} (ho : Value.okWide Tryz.prog W .any base t v) {es : List AV} (hr : CellsRel W es v.cells.toList) : VR W (.agg es) v := by
  have key : (∃ cs, v = .agg cs) → VR W (.agg es) v := fun ⟨cs, e⟩ => by
    subst e
    exact .agg (by simpa [Value.cells] using hr.1) fun j u x h1 h2 => hr.2 j u x h1 (by simpa [Value.cells] using h2)
  unfold Value.okWide at ho
  split at ho
  · obtain ⟨cs, e, _⟩ := ho; exact key ⟨cs, e⟩
  · obtain ⟨cs, e, _⟩ := ho; exact key ⟨cs, e⟩
  · rename_i h1 h2
    split at hs
    · rename_i h; exact absurd h (h1 _)
    · rename_i h; exact absurd h (h2 _ _)
    · cases hs
end Go.Abs.C
end
