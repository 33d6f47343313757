/- The statement of checks, walked. Conditions: none. -/
import Derived.Test.YthaebccedgaamaaGreatDoorKG
import Derived.IntWalk
set_option linter.unusedSimpArgs false
set_option linter.unusedVariables false
section
/- Steps of the walk over letters. Conditions: none. -/
namespace Go.Abs

section
variable {T : Tab}

/-- A call with arguments that name no block, from a memory of its own, comes to a value. -/
def Ret (T : Tab) (f : Nat) (ys : List AV) (v : AV) : Prop := ∃ w H', (lim T).call f ys [] = some (.ret w, H') ∧ frz H' false depthF w = some v

theorem frz_pures {H : List AB} : ∀ {xs : List AV}, AV.pures xs = true → optAll (frz H true depthF) xs = some xs := by
  intro xs
  induction xs with
  | nil => intro _; rfl
  | cons u l ih =>
    intro hl
    simp only [AV.pures, Bool.and_eq_true] at hl
    have hu : frz H true depthF u = some u := by simp [frz, depthF, hl.1]
    simp [optAll, hu, ih hl.2]

theorem enter0 {f : Nat} {xs ys : List AV} {v : AV} {H : List AB} (hq : T.prim f xs = none) (hf : optAll (frz H true depthF) xs = some ys) (hc : Ret T f ys v) (hv : (AV.pures xs || v.flat) = true) : enter T (lim T) 0 f xs H = some (.ret v, H) := by
  obtain ⟨w, H', h1, h2⟩ := hc
  simp only [enter, hq, if_neg (show ¬ (0 = 2) by omega), hf, Option.bind_some, h1, if_neg (show ¬ (0 = 1) by omega), h2, Option.map_some, hv, if_true]

/-- ... with arguments that name no block. -/
theorem enterP {f : Nat} {xs : List AV} {v : AV} {H : List AB} (hc : Ret T f xs v) (hq : T.prim f xs = none) (hp : AV.pures xs = true) : enter T (lim T) 0 f xs H = some (.ret v, H) :=
  enter0 hq (frz_pures hp) hc (by rw [hp]; rfl)

/-- What a frame that has ended hands back, where nothing is deferred. -/
def fin (rs : List ARs) : Option (AExit × ASt) → Option AV
  | some (.normal, st) | some (.ret, st) => if st.dfs.isEmpty then (results st rs).bind (frz st.H false depthF) else none
  | _ => none

theorem Ret.of {f : Nat} {F : AFun} {xs : List AV} {v : AV} (hf : T.fn f = some F) (hn : xs.length ≤ F.nt)
    (hc : fin F.res (code T (lim T) F.body ⟨(List.range xs.length).zip xs, [], [], 0, F.nt, none⟩) = some v) : Ret T f xs v := by
  have go : ∀ (e : AExit) (st : ASt), (e = .normal ∨ e = .ret) → code T (lim T) F.body ⟨(List.range xs.length).zip xs, [], [], 0, F.nt, none⟩ = some (e, st) → (if st.dfs.isEmpty then (results st F.res).bind (frz st.H false depthF) else none) = some v → Ret T f xs v := fun e st he h1 h2 => by
    split at h2
    · rename_i hd
      rw [Option.bind_eq_some_iff] at h2
      obtain ⟨w, hr, hz⟩ := h2
      refine ⟨w, st.H, lim_call_of ?_, hz⟩
      simp only [call, hf, if_pos hn, List.length_nil, h1]
      have hd' := List.isEmpty_iff.1 hd
      rcases he with rfl | rfl <;> simp [hd', leave, hr]
    · cases h2
  unfold fin at hc
  split at hc
  · rename_i st h; exact go _ st (.inl rfl) h hc
  · rename_i st h; exact go _ st (.inr rfl) h hc
  · cases hc

/-! a loop, from the state behind the hints at its head -/

def LoopR (T : Tab) (b : AC) (hd : ASt → Option ASt) (s : ASt) (r : AExit × ASt) : Prop := ∀ st, hd st = some s → code T (lim T) (.loop b) st = some r

theorem LoopR.out {b b' : AC} {hd : ASt → Option ASt} (hb : ∀ st, code T (lim T) b st = (hd st).bind (code T (lim T) b')) {s st1 : ASt} {e : AExit} (h : code T (lim T) b' s = some (e, st1)) (he : e ≠ .normal) : LoopR T b hd s (e, st1) := fun st h0 => by
  simp only [code, hb, h0, Option.bind_some, h]
  cases e <;> first | rfl | exact absurd rfl he

theorem LoopR.step {b b' : AC} {hd : ASt → Option ASt} (hb : ∀ st, code T (lim T) b st = (hd st).bind (code T (lim T) b')) {s st1 s1 : ASt} {r : AExit × ASt} (h : code T (lim T) b' s = some (.normal, st1)) (h1 : hd st1 = some s1) (h2 : LoopR T b hd s1 r) : LoopR T b hd s r := fun st h0 => by
  simp only [code, hb, h0, Option.bind_some, h]
  exact lim_code_of (h2 st1 h1)

theorem LoopR.for {b b' : AC} {hd : ASt → Option ASt} (hb : ∀ st, code T (lim T) b st = (hd st).bind (code T (lim T) b')) (inv : Nat → ASt) (n : Nat) {r : AExit × ASt} (hs : ∀ j, j < n → ∃ st1, code T (lim T) b' (inv j) = some (.normal, st1) ∧ hd st1 = some (inv (j + 1))) (hx : LoopR T b hd (inv n) r) :
    LoopR T b hd (inv 0) r := by
  have : ∀ k, k ≤ n → LoopR T b hd (inv (n - k)) r := by
    intro k
    induction k with
    | zero => intro _; exact hx
    | succ k ih =>
      intro hk
      obtain ⟨st1, h1, h2⟩ := hs (n - (k + 1)) (by omega)
      have e : n - (k + 1) + 1 = n - k := by omega
      rw [e] at h2
      exact .step hb h1 h2 (ih (by omega))
  have := this n (Nat.le_refl _)
  rwa [Nat.sub_self] at this

theorem doHint_fz {t : Nat} {st : ASt} : doHint (.fz t) st = (match st.env.get t with
    | some v => if v.canon then some st else (frz st.H false depthF v).map fun w =>
      { st with env := (t, w) :: st.env, H := (kil st.H depthF v).foldl (fun H b => H.set b .dead) st.H }
    | none => some st) := rfl
theorem doHint_fzc {t off : Nat} {st : ASt} : doHint (.fzc t off) st = (match st.env.get t with
    | some (.ptr b o) => match st.H[b]? with
      | some (.row cs) => match cs[o + off]? with
        | some v => if v.canon then some st else (frz st.H false depthF v).map fun w =>
          { st with H := (kil st.H depthF v).foldl (fun H b => H.set b .dead) (st.H.set b (.row (cs.set (o + off) w))) }
        | none => none
      | _ => none
    | _ => none) := rfl
theorem doHint_norm {st : ASt} : doHint .norm st = norm st := rfl

mutual
theorem ids_pure : ∀ {v : AV}, v.pure = true → v.ids = []
  | .bool _, _ | .int _ _, _ | .str _, _ | .nilp, _ | .nils, _ | .nilm, _ | .nilf, _ | .nili, _ => by simp [AV.ids]
  | .ptr _ _, h | .msl _ _ _ _, h | .gsl _ _ _, h | .mp _, h | .yld _, h => by simp [AV.pure] at h
  | .cptr cs, h | .csl cs _ _ _, h | .agg cs, h | .tup cs, h => by simp only [AV.ids]; exact idss_pure (by simpa [AV.pure] using h)
  | .fn _ a b, h => by
    simp only [AV.pure, Bool.and_eq_true] at h
    simp only [AV.ids, idss_pure h.1, idss_pure h.2, List.append_nil]
  | .iface _ v, h => by simp only [AV.ids]; exact ids_pure (by simpa [AV.pure] using h)
theorem idss_pure : ∀ {l : List AV}, AV.pures l = true → AV.idss l = []
  | [], _ => rfl
  | v :: l, h => by
    simp only [AV.pures, Bool.and_eq_true] at h
    simp only [AV.idss, ids_pure h.1, idss_pure h.2, List.append_nil]
end

/-- A round that goes on, and the state behind the next head. -/
def goOn (hd : ASt → Option ASt) : Option (AExit × ASt) → Option ASt
  | some (.normal, st) => hd st
  | _ => none

theorem goOn_inv {hd : ASt → Option ASt} {x : Option (AExit × ASt)} {s : ASt} (h : goOn hd x = some s) : ∃ st1, x = some (.normal, st1) ∧ hd st1 = some s := by
  unfold goOn at h
  split at h
  · exact ⟨_, rfl, h⟩
  · cases h

/-- The temporaries named. -/
def keepS (ks : List Nat) (st : ASt) : ASt := { st with env := st.env.keep ks }
theorem keepS_mk {ks : List Nat} {e : Env} {H : List AB} {d : List ADf} {b n : Nat} {r : Option Nat} : keepS ks ⟨e, H, d, b, n, r⟩ = ⟨e.keep ks, H, d, b, n, r⟩ := rfl
theorem keepS_one {t : Nat} {v : AV} {st1 : ASt} {H : List AB} {d : List ADf} {b n : Nat} {r : Option Nat} (h : keepS [t] st1 = ⟨[(t, v)], H, d, b, n, r⟩) : st1.H = H ∧ st1.dfs = d ∧ st1.env.get t = some v := by
  simp only [keepS, Env.keep, ASt.mk.injEq] at h
  obtain ⟨h1, h2, h3, _⟩ := h
  refine ⟨h2, h3, ?_⟩
  split at h1
  · simp at h1; rw [← h1]; assumption
  · cases h1
theorem doHint_keep {ks : List Nat} {st : ASt} : doHint (.keep ks) st = some (keepS ks st) := rfl

/-- A round that leaves, and what is kept of the state. -/
def goOut (ks : List Nat) : Option (AExit × ASt) → Option (AExit × ASt)
  | some (.normal, _) => none
  | some (e, st) => some (e, keepS ks st)
  | none => none

theorem goOut_inv {ks : List Nat} {x : Option (AExit × ASt)} {e : AExit} {s : ASt} (h : goOut ks x = some (e, s)) : ∃ st1, x = some (e, st1) ∧ e ≠ .normal ∧ keepS ks st1 = s := by
  unfold goOut at h
  split at h
  · cases h
  · rename_i e st hne
    cases h
    exact ⟨st, rfl, fun he => hne he, rfl⟩
  · cases h

/-- A loop that goes through all its rounds. -/
theorem LoopR.for' {b b' : AC} {hd : ASt → Option ASt} (hb : ∀ st, code T (lim T) b st = (hd st).bind (code T (lim T) b')) (ks : List Nat) (inv : Nat → ASt) (n : Nat) {e : AExit} {s : ASt} (hs : ∀ j, j < n → goOn hd (code T (lim T) b' (inv j)) = some (inv (j + 1))) (hx : goOut ks (code T (lim T) b' (inv n)) = some (e, s)) :
    ∃ st1, LoopR T b hd (inv 0) (e, st1) ∧ keepS ks st1 = s := by
  obtain ⟨st1, h1, h2, h3⟩ := goOut_inv hx
  exact ⟨st1, .for hb inv n (fun j hj => goOn_inv (hs j hj)) (.out hb h1 h2), h3⟩

/-- A loop that leaves at the first round that is bad, or goes through all. -/
theorem LoopR.search {b b' : AC} {hd : ASt → Option ASt} (hb : ∀ st, code T (lim T) b st = (hd st).bind (code T (lim T) b')) (kr kx : List Nat) (inv : Nat → ASt) (n : Nat) (bad : Nat → Prop) {er ex : AExit} {sr sx : ASt} (hgo : ∀ j, j < n → (∀ k, k ≤ j → ¬ bad k) → goOn hd (code T (lim T) b' (inv j)) = some (inv (j + 1)))
    (hbad : ∀ j, j < n → bad j → (∀ k, k < j → ¬ bad k) → goOut kr (code T (lim T) b' (inv j)) = some (er, sr)) (hx : (∀ j, j < n → ¬ bad j) → goOut kx (code T (lim T) b' (inv n)) = some (ex, sx)) :
    (∃ st1, LoopR T b hd (inv 0) (er, st1) ∧ keepS kr st1 = sr ∧ ∃ j, j < n ∧ bad j ∧ ∀ k, k < j → ¬ bad k) ∨ ∃ st1, LoopR T b hd (inv 0) (ex, st1) ∧ keepS kx st1 = sx ∧ ∀ j, j < n → ¬ bad j := by
  by_cases h : ∃ j, j < n ∧ bad j
  · left
    -- the first
    have : ∀ m, (∃ j, j < m ∧ j < n ∧ bad j) → ∃ j, j < n ∧ bad j ∧ ∀ k, k < j → ¬ bad k := by
      intro m
      induction m with
      | zero => rintro ⟨j, hj, _⟩; omega
      | succ m ih =>
        rintro ⟨j, hj, hn, hbj⟩
        by_cases hm : ∃ j, j < m ∧ j < n ∧ bad j
        · exact ih hm
        · exact ⟨j, hn, hbj, fun k hk hbk => hm ⟨k, by omega, by omega, hbk⟩⟩
    obtain ⟨j0, hj0, hb0⟩ := h
    obtain ⟨j, hj, hbj, hfirst⟩ := this (j0 + 1) ⟨j0, by omega, hj0, hb0⟩
    obtain ⟨st1, h1, h2, h3⟩ := goOut_inv (hbad j hj hbj hfirst)
    exact ⟨st1, .for hb inv j (fun k hk => goOn_inv (hgo k (by omega) fun k' hk' => hfirst k' (by omega))) (.out hb h1 h2), h3, j, hj, hbj, hfirst⟩
  · right
    have hall : ∀ j, j < n → ¬ bad j := fun j hj hbj => h ⟨j, hj, hbj⟩
    obtain ⟨st1, h1, h2⟩ := LoopR.for' hb kx inv n (fun j hj => hgo j hj fun k hk => hall k (by omega)) (hx hall)
    exact ⟨st1, h1, h2, hall⟩

/-! one equation a kind of code, but for loops -/
section
variable {S : Sems} {st : ASt}
theorem code_skip : code T S .skip st = some (.normal, st) := rfl
theorem code_exit {id : Nat} : code T S (.exit id) st = some (.exit id, st) := rfl
theorem code_ret : code T S .ret st = some (.ret, st) := rfl
theorem code_seq {a b : AC} : code T S (.seq a b) st = (match code T S a st with | some (.normal, st') => code T S b st' | x => x) := rfl
theorem code_cond {c : Opd} {a b : AC} : code T S (.cond c a b) st = (match val T st.env c with | some (.bool t) => if t then code T S a st else code T S b st | _ => none) := rfl
theorem code_block {id : Nat} {b : AC} : code T S (.block id b) st = (match code T S b st with | some (.exit id', st') => if id' = id then some (.normal, st') else some (.exit id', st') | x => x) := rfl
theorem code_hint {h : Hint} {c : AC} : code T S (.hint h c) st = (match doHint h st with | some st => code T S c st | none => none) := rfl
theorem code_ops0 {l : List AO} : code T S (.ops l none) st = (match runOps T S l st with | some (.next st') => some (.normal, st') | some (.out e st') => some (e, st') | none => none) := by
  simp only [code]
  cases runOps T S l st with
  | none => rfl
  | some s => cases s <;> rfl
theorem code_opsd {l : List AO} {inc : List (Nat × Nat)} : code T S (.ops l (some inc)) st = (match runOps T S l st with | some (.next st') => if looseOk T S l st inc then some (.normal, st') else none | _ => none) := by
  simp only [code]
  cases runOps T S l st with
  | none => rfl
  | some s => cases s <;> rfl
end

end

section
variable {H : List AB} {n : Nat}
@[simp] theorem frz1_int {ar : Bool} {k : IntKind} {z : Int} : frz H ar (n + 1) (.int k z) = some (.int k z) := by simp [frz, AV.canon, AV.pure]
@[simp] theorem frz1_bool {ar b : Bool} : frz H ar (n + 1) (.bool b) = some (.bool b) := by simp [frz, AV.canon, AV.pure]
@[simp] theorem frz1_str {ar : Bool} {s : ByteArray} : frz H ar (n + 1) (.str s) = some (.str s) := by simp [frz, AV.canon, AV.pure]
@[simp] theorem frz1_nils : frz H false (n + 1) .nils = some (.csl [] 0 none false) := by simp [frz, AV.canon, AV.pure]
@[simp] theorem frz1_gsl {ar : Bool} {b l w : Nat} : frz H ar (n + 1) (.gsl b l w) = (match H[b]? with | some (.row cs) => if l * w ≤ cs.length then (frzL ar (frz H ar n) (cs.take (l * w))).map fun cs => .csl cs l none ar else none | _ => none) := by
  simp [frz, AV.canon, AV.pure]
  cases H[b]? with
  | none => rfl
  | some B => cases B <;> rfl
@[simp] theorem frz1_msl {ar : Bool} {b o l c : Nat} : frz H ar (n + 1) (.msl b o l c) = (match H[b]? with | some (.row cs) => if o ≤ cs.length then (frzL ar (frz H ar n) (cs.drop o)).map fun cs => .csl cs l none ar else none | _ => none) := by
  simp [frz, AV.canon, AV.pure]
  cases H[b]? with
  | none => rfl
  | some B => cases B <;> rfl
@[simp] theorem frz1_ptr {ar : Bool} {b o : Nat} : frz H ar (n + 1) (.ptr b o) = (match H[b]? with | some (.row cs) => if o ≤ cs.length then (frzL ar (frz H ar n) (cs.drop o)).map .cptr else none | _ => none) := by
  simp [frz, AV.canon, AV.pure]
  cases H[b]? with
  | none => rfl
  | some B => cases B <;> rfl
@[simp] theorem frz1_agg {ar : Bool} {cs : List AV} : frz H ar (n + 1) (.agg cs) = if AV.canons cs || ar && AV.pures cs then some (.agg cs) else (frzL ar (frz H ar n) cs).map .agg := by
  by_cases h : (AV.canons cs || ar && AV.pures cs) = true <;> simp [frz, AV.canon, AV.pure, h]
@[simp] theorem frz1_tup {ar : Bool} {cs : List AV} : frz H ar (n + 1) (.tup cs) = if AV.canons cs || ar && AV.pures cs then some (.tup cs) else (frzL ar (frz H ar n) cs).map .tup := by
  by_cases h : (AV.canons cs || ar && AV.pures cs) = true <;> simp [frz, AV.canon, AV.pure, h]
theorem frz1_canon {ar : Bool} {v : AV} (h : v.canon = true) : frz H ar (n + 1) v = some v := by simp [frz, h]
@[simp] theorem frz1_csl {ar : Bool} {cs : List AV} {l : Nat} (h : AV.canons cs = true) : frz H ar (n + 1) (.csl cs l none false) = some (.csl cs l none false) := frz1_canon (by simpa [AV.canon] using h)
@[simp] theorem frz1_cnil {ar : Bool} {l : Nat} : frz H ar (n + 1) (.csl [] l none false) = some (.csl [] l none false) := frz1_canon rfl
@[simp] theorem kil1_nils : kil H (n + 1) .nils = [] := by simp [kil, AV.pure]
@[simp] theorem kil1_gsl {b l w : Nat} : kil H (n + 1) (.gsl b l w) = b :: (match H[b]? with | some (.row cs) => if AV.pures cs then [] else cs.flatMap (kil H n) | _ => []) := by
  simp [kil, AV.pure]
  cases H[b]? with
  | none => rfl
  | some B => cases B <;> rfl
@[simp] theorem kil1_msl {b o l c : Nat} : kil H (n + 1) (.msl b o l c) = b :: (match H[b]? with | some (.row cs) => if AV.pures cs then [] else cs.flatMap (kil H n) | _ => []) := by
  simp [kil, AV.pure]
  cases H[b]? with
  | none => rfl
  | some B => cases B <;> rfl
@[simp] theorem frzL1 {ar : Bool} {f : AV → Option AV} {l : List AV} : frzL ar f l = if AV.canons l || ar && AV.pures l then some l else optAll f l := rfl
end

@[simp] theorem cells_agg {c : List AV} : (AV.agg c).cells = c := rfl
@[simp] theorem cells_int {k : IntKind} {n : Int} : (AV.int k n).cells = [.int k n] := rfl
@[simp] theorem cells_bool {b : Bool} : (AV.bool b).cells = [.bool b] := rfl
@[simp] theorem cells_str {s : ByteArray} : (AV.str s).cells = [.str s] := rfl
@[simp] theorem cells_ptr {b o : Nat} : (AV.ptr b o).cells = [.ptr b o] := rfl
@[simp] theorem cells_cptr {c : List AV} : (AV.cptr c).cells = [.cptr c] := rfl
@[simp] theorem cells_msl {b o l c : Nat} : (AV.msl b o l c).cells = [.msl b o l c] := rfl
@[simp] theorem cells_gsl {b l c : Nat} : (AV.gsl b l c).cells = [.gsl b l c] := rfl
@[simp] theorem cells_csl {c : List AV} {l : Nat} {k : Option Nat} {b : Bool} : (AV.csl c l k b).cells = [.csl c l k b] := rfl
@[simp] theorem cells_nils : AV.nils.cells = [.nils] := rfl
@[simp] theorem cells_nilp : AV.nilp.cells = [.nilp] := rfl
@[simp] theorem cells_fn {f : Fn} {a b : List AV} : (AV.fn f a b).cells = [.fn f a b] := rfl
@[simp] theorem cell_int {k : IntKind} {n : Int} : (AV.int k n).isCell = true := rfl
@[simp] theorem cell_bool {b : Bool} : (AV.bool b).isCell = true := rfl
@[simp] theorem cell_str {s : ByteArray} : (AV.str s).isCell = true := rfl
@[simp] theorem cell_ptr {b o : Nat} : (AV.ptr b o).isCell = true := rfl
@[simp] theorem cell_msl {b o l c : Nat} : (AV.msl b o l c).isCell = true := rfl
@[simp] theorem cell_gsl {b l c : Nat} : (AV.gsl b l c).isCell = true := rfl
@[simp] theorem cell_csl {c : List AV} {l : Nat} {k : Option Nat} {b : Bool} : (AV.csl c l k b).isCell = true := rfl
@[simp] theorem cell_nils : AV.nils.isCell = true := rfl
@[simp] theorem cell_nilp : AV.nilp.isCell = true := rfl
@[simp] theorem cell_fn {f : Fn} {a b : List AV} : (AV.fn f a b).isCell = true := rfl

attribute [simp] List.findIdx?_cons doHint_fz doHint_fzc doHint_norm norm visit rensP AV.renP AV.ren renB idsP AB.ids AV.ids AV.idss code_skip code_exit code_ret code_seq code_cond code_block code_hint code_ops0 code_opsd runOps stepO guardO skipO aop val Env.get ASt.put doHint_keep keepS_mk Env.keep abin aint aun AEff.at fin results optAll AV.canon AV.canons AV.pure AV.pures AV.flat AV.flats takeV bound srcOf goOn goOut invoke finO parts fillC over looseOk AOp.calm
end Go.Abs
end

section
/- Cases, features, options as the walk tells them. Conditions: none. -/
namespace Go.Abs.C
open Go Go.Abs

def i (n : Int) : AV := .int .i64 n
def sl (cells : List AV) (n : Nat) : AV := .csl cells n none false
structure Opt where
  v : Int
  m : Int
  deriving Inhabited
structure Feat where
  a : Int
  b : Int
  c : Int
  d : Int
  e : Int
  o : List Opt
  deriving Inhabited
structure Case where
  clefs : List Int
  key : Int
  beats : Int
  unit : Int
  bar : Int
  free : Bool
  cells : List (List (List Feat))
  deriving Inhabited

def fl {α : Type} (e : α → List AV) (l : List α) : List AV := l.flatMap e
def ml {α : Type} (e : α → AV) (l : List α) : List AV := l.map e
def il (l : List Int) : AV := sl (ml i l) l.length
def oc (o : Opt) : List AV := [i o.v, i o.m]
def os (l : List Opt) : AV := sl (fl oc l) l.length
def pc (f : Feat) : List AV := [i f.a, i f.b, i f.c, i f.d, i f.e]
def fc (f : Feat) : List AV := [i f.a, i f.b, i f.c, i f.d, i f.e, os f.o]
def fs (l : List Feat) : AV := sl (fl fc l) l.length
def rs (l : List (List Feat)) : AV := sl (ml fs l) l.length
def cs (l : List (List (List Feat))) : AV := sl (ml rs l) l.length
def frc (c : Case) : List AV := [il c.clefs, i c.key, i c.beats, i c.unit, i c.bar, .bool c.free]
def cc (c : Case) : List AV := [il c.clefs, i c.key, i c.beats, i c.unit, i c.bar, .bool c.free, cs c.cells]

theorem pures_append {a b : List AV} : AV.pures (a ++ b) = (AV.pures a && AV.pures b) := by
  induction a with
  | nil => simp
  | cons x a ih => simp [ih, Bool.and_assoc]
theorem canons_append {a b : List AV} : AV.canons (a ++ b) = (AV.canons a && AV.canons b) := by
  induction a with
  | nil => simp
  | cons x a ih => simp [ih, Bool.and_assoc]
theorem pures_fl {α : Type} {e : α → List AV} (h : ∀ a, AV.pures (e a) = true) : ∀ l, AV.pures (fl e l) = true
  | [] => rfl
  | a :: l => by simp only [fl, List.flatMap_cons, pures_append, h a, Bool.true_and]; exact pures_fl h l
theorem canons_fl {α : Type} {e : α → List AV} (h : ∀ a, AV.canons (e a) = true) : ∀ l, AV.canons (fl e l) = true
  | [] => rfl
  | a :: l => by simp only [fl, List.flatMap_cons, canons_append, h a, Bool.true_and]; exact canons_fl h l
theorem pures_map {α : Type} {e : α → AV} (h : ∀ a, (e a).pure = true) : ∀ l : List α, AV.pures (ml e l) = true
  | [] => rfl
  | a :: l => by have := pures_map h l; simp only [ml] at this; simp [ml, h a, this]
theorem canons_map {α : Type} {e : α → AV} (h : ∀ a, (e a).canon = true) : ∀ l : List α, AV.canons (ml e l) = true
  | [] => rfl
  | a :: l => by have := canons_map h l; simp only [ml] at this; simp [ml, h a, this]
theorem len_fl {α : Type} {e : α → List AV} {w : Nat} (h : ∀ a, (e a).length = w) : ∀ l, (fl e l).length = l.length * w
  | [] => by simp [fl]
  | a :: l => by
    have := len_fl h l
    simp only [fl, List.flatMap_cons, List.length_append, List.length_cons] at this ⊢
    rw [this, h a, Nat.add_mul, Nat.one_mul, Nat.add_comm]
theorem at_fl {α : Type} {e : α → List AV} {w : Nat} (h : ∀ a, (e a).length = w) : ∀ {l : List α} {j : Nat} {a : α}, l[j]? = some a → ((fl e l).drop (j * w)).take w = e a
  | [], j, a, hj => by simp at hj
  | b :: l, 0, a, hj => by
    simp at hj; subst hj
    simp only [fl, List.flatMap_cons, Nat.zero_mul, List.drop_zero]
    rw [List.take_append_of_le_length (by rw [h]; exact Nat.le_refl _), List.take_of_length_le (by rw [h]; exact Nat.le_refl _)]
  | b :: l, j + 1, a, hj => by
    have ih := at_fl h (l := l) (j := j) (a := a) (by simpa using hj)
    rw [← ih]
    simp only [fl, List.flatMap_cons]
    rw [List.drop_append, h b, List.drop_eq_nil_of_le (by rw [h b, Nat.add_mul]; omega), List.nil_append]
    congr 2
    rw [Nat.add_mul]; omega
theorem at_map {α : Type} {e : α → AV} {l : List α} {j : Nat} {a : α} (hj : l[j]? = some a) : ((ml e l).drop j).take 1 = [e a] := by
  obtain ⟨hj', rfl⟩ := List.getElem?_eq_some_iff.1 hj
  simp only [ml]
  rw [List.drop_eq_getElem_cons (by simpa using hj')]
  simp

@[simp] theorem len_ml {α : Type} (e : α → AV) (l : List α) : (ml e l).length = l.length := by simp [ml]
@[simp] theorem ml_nil {α : Type} (e : α → AV) : ml e [] = [] := rfl
theorem ml_take {α : Type} {e : α → AV} {l : List α} {j : Nat} {a : α} (hj : l[j]? = some a) : ml e (l.take j) ++ [e a] = ml e (l.take (j + 1)) := by
  obtain ⟨hj', rfl⟩ := List.getElem?_eq_some_iff.1 hj
  simp only [ml]
  rw [← List.take_append_getElem hj', List.map_append]
  rfl

@[simp] theorem pure_i (n : Int) : (i n).pure = true := rfl
@[simp] theorem canon_i (n : Int) : (i n).canon = true := rfl
@[simp] theorem flat_i (n : Int) : (i n).flat = true := rfl
@[simp] theorem cell_i (n : Int) : (i n).isCell = true := rfl
@[simp] theorem cells_i (n : Int) : (i n).cells = [i n] := rfl
theorem pure_sl {c : List AV} {n : Nat} (h : AV.pures c = true) : (sl c n).pure = true := by simpa [sl] using h
theorem canon_sl {c : List AV} {n : Nat} (h : AV.canons c = true) : (sl c n).canon = true := by simpa [sl] using h
@[simp] theorem cell_sl (c : List AV) (n : Nat) : (sl c n).isCell = true := rfl
@[simp] theorem cells_sl (c : List AV) (n : Nat) : (sl c n).cells = [sl c n] := rfl
@[simp] theorem pures_il (l : List Int) : AV.pures (ml i l) = true := pures_map pure_i l
@[simp] theorem canons_il (l : List Int) : AV.canons (ml i l) = true := canons_map canon_i l
@[simp] theorem pure_il (l : List Int) : (il l).pure = true := pure_sl (pures_il l)
@[simp] theorem canon_il (l : List Int) : (il l).canon = true := canon_sl (canons_il l)
@[simp] theorem pures_oc (o : Opt) : AV.pures (oc o) = true := rfl
@[simp] theorem canons_oc (o : Opt) : AV.canons (oc o) = true := rfl
@[simp] theorem len_oc (o : Opt) : (oc o).length = 2 := rfl
@[simp] theorem pures_ocs (l : List Opt) : AV.pures (fl oc l) = true := pures_fl pures_oc l
@[simp] theorem canons_ocs (l : List Opt) : AV.canons (fl oc l) = true := canons_fl canons_oc l
@[simp] theorem len_ocs (l : List Opt) : (fl oc l).length = l.length * 2 := len_fl len_oc l
@[simp] theorem pure_os (l : List Opt) : (os l).pure = true := pure_sl (pures_ocs l)
@[simp] theorem canon_os (l : List Opt) : (os l).canon = true := canon_sl (canons_ocs l)
@[simp] theorem cell_os (l : List Opt) : (os l).isCell = true := rfl
@[simp] theorem cells_os (l : List Opt) : (os l).cells = [os l] := rfl
@[simp] theorem pures_fc (f : Feat) : AV.pures (fc f) = true := by simp [fc]
@[simp] theorem canons_fc (f : Feat) : AV.canons (fc f) = true := by simp [fc]
@[simp] theorem len_fc (f : Feat) : (fc f).length = 6 := rfl
@[simp] theorem pures_pc (f : Feat) : AV.pures (pc f) = true := by simp [pc]
@[simp] theorem canons_pc (f : Feat) : AV.canons (pc f) = true := by simp [pc]
@[simp] theorem len_pc (f : Feat) : (pc f).length = 5 := rfl
@[simp] theorem pures_fcs (l : List Feat) : AV.pures (fl fc l) = true := pures_fl pures_fc l
@[simp] theorem canons_fcs (l : List Feat) : AV.canons (fl fc l) = true := canons_fl canons_fc l
@[simp] theorem len_fcs (l : List Feat) : (fl fc l).length = l.length * 6 := len_fl len_fc l
@[simp] theorem pure_fs (l : List Feat) : (fs l).pure = true := pure_sl (pures_fcs l)
@[simp] theorem canon_fs (l : List Feat) : (fs l).canon = true := canon_sl (canons_fcs l)
@[simp] theorem cell_fs (l : List Feat) : (fs l).isCell = true := rfl
@[simp] theorem cells_fs (l : List Feat) : (fs l).cells = [fs l] := rfl
@[simp] theorem pures_fss (l : List (List Feat)) : AV.pures (ml fs l) = true := pures_map pure_fs l
@[simp] theorem canons_fss (l : List (List Feat)) : AV.canons (ml fs l) = true := canons_map canon_fs l
@[simp] theorem pure_rs (l : List (List Feat)) : (rs l).pure = true := pure_sl (pures_fss l)
@[simp] theorem canon_rs (l : List (List Feat)) : (rs l).canon = true := canon_sl (canons_fss l)
@[simp] theorem cell_rs (l : List (List Feat)) : (rs l).isCell = true := rfl
@[simp] theorem cells_rs (l : List (List Feat)) : (rs l).cells = [rs l] := rfl
@[simp] theorem pures_rss (l : List (List (List Feat))) : AV.pures (ml rs l) = true := pures_map pure_rs l
@[simp] theorem canons_rss (l : List (List (List Feat))) : AV.canons (ml rs l) = true := canons_map canon_rs l
@[simp] theorem pure_cs (l : List (List (List Feat))) : (cs l).pure = true := pure_sl (pures_rss l)
@[simp] theorem canon_cs (l : List (List (List Feat))) : (cs l).canon = true := canon_sl (canons_rss l)
@[simp] theorem cell_cs (l : List (List (List Feat))) : (cs l).isCell = true := rfl
@[simp] theorem cells_cs (l : List (List (List Feat))) : (cs l).cells = [cs l] := rfl
@[simp] theorem cell_il (l : List Int) : (il l).isCell = true := rfl
@[simp] theorem cells_il (l : List Int) : (il l).cells = [il l] := rfl
@[simp] theorem pures_cc (c : Case) : AV.pures (cc c) = true := by simp [cc]
@[simp] theorem canons_cc (c : Case) : AV.canons (cc c) = true := by simp [cc]
@[simp] theorem pures_frc (c : Case) : AV.pures (frc c) = true := by simp [frc]
@[simp] theorem canons_frc (c : Case) : AV.canons (frc c) = true := by simp [frc]

@[simp] theorem take_fc (f : Feat) : List.take 6 (fc f) = fc f := rfl
@[simp] theorem take5_fc (f : Feat) : List.take 5 (fc f) = pc f := rfl
@[simp] theorem drop5_fc (f : Feat) : List.drop 5 (fc f) = [os f.o] := rfl
@[simp] theorem take_oc (o : Opt) : List.take 2 (oc o) = oc o := rfl
@[simp] theorem drop1_oc (o : Opt) : List.drop 1 (oc o) = [i o.m] := rfl
@[simp] theorem take_pc (f : Feat) : List.take 5 (pc f) = pc f := rfl
@[simp] theorem fl_nil {α : Type} (e : α → List AV) : fl e [] = [] := rfl
@[simp] theorem frz1_i {H : List AB} {ar : Bool} {n : Nat} (z : Int) : frz H ar (n + 1) (i z) = some (i z) := frz1_canon (by simp)
@[simp] theorem frz1_il {H : List AB} {ar : Bool} {n : Nat} (l : List Int) : frz H ar (n + 1) (il l) = some (il l) := frz1_canon (by simp)
@[simp] theorem frz1_os {H : List AB} {ar : Bool} {n : Nat} (l : List Opt) : frz H ar (n + 1) (os l) = some (os l) := frz1_canon (by simp)
@[simp] theorem frz1_fs {H : List AB} {ar : Bool} {n : Nat} (l : List Feat) : frz H ar (n + 1) (fs l) = some (fs l) := frz1_canon (by simp)
@[simp] theorem frz1_rs {H : List AB} {ar : Bool} {n : Nat} (l : List (List Feat)) : frz H ar (n + 1) (rs l) = some (rs l) := frz1_canon (by simp)
@[simp] theorem frz1_cs {H : List AB} {ar : Bool} {n : Nat} (l : List (List (List Feat))) : frz H ar (n + 1) (cs l) = some (cs l) := frz1_canon (by simp)
@[simp] theorem ids_i (n : Int) : (i n).ids = [] := rfl
@[simp] theorem ids_il (l : List Int) : (il l).ids = [] := ids_pure (by simp)
@[simp] theorem ids_os (l : List Opt) : (os l).ids = [] := ids_pure (by simp)
@[simp] theorem ids_fs (l : List Feat) : (fs l).ids = [] := ids_pure (by simp)
@[simp] theorem ids_rs (l : List (List Feat)) : (rs l).ids = [] := ids_pure (by simp)
@[simp] theorem ids_cs (l : List (List (List Feat))) : (cs l).ids = [] := ids_pure (by simp)
@[simp] theorem idss_fcs (l : List Feat) : AV.idss (fl fc l) = [] := idss_pure (by simp)
@[simp] theorem idss_ocs (l : List Opt) : AV.idss (fl oc l) = [] := idss_pure (by simp)
@[simp] theorem idss_il (l : List Int) : AV.idss (ml i l) = [] := idss_pure (by simp)
@[simp] theorem idss_rss (l : List (List (List Feat))) : AV.idss (ml rs l) = [] := idss_pure (by simp)
@[simp] theorem idss_fss (l : List (List Feat)) : AV.idss (ml fs l) = [] := idss_pure (by simp)

@[simp] theorem take_ml {α : Type} (e : α → AV) (l : List α) : List.take l.length (ml e l) = ml e l := List.take_of_length_le (by simp)
@[simp] theorem take_fcs (l : List Feat) : List.take (l.length * 6) (fl fc l) = fl fc l := List.take_of_length_le (by simp)
@[simp] theorem take_ocs (l : List Opt) : List.take (l.length * 2) (fl oc l) = fl oc l := List.take_of_length_le (by simp)
theorem wrap_ok {n : Int} (h1 : -9223372036854775808 ≤ n) (h2 : n ≤ 9223372036854775807) : IntKind.i64.wrap n = n := by rw [IntKind.wrap_i64]; omega

theorem frz_canon0 {H : List AB} {ar : Bool} {v : AV} (h : v.canon = true) : frz H ar depthF v = some v := frz1_canon h
@[simp] theorem frz_bool {H : List AB} {ar b : Bool} : frz H ar depthF (.bool b) = some (.bool b) := frz_canon0 rfl
@[simp] theorem frz_int {H : List AB} {ar : Bool} {k : IntKind} {n : Int} : frz H ar depthF (.int k n) = some (.int k n) := frz_canon0 rfl
theorem frz_canon {H : List AB} {ar : Bool} {v : AV} (h : v.canon = true) : frz H ar depthF v = some v := frz1_canon h
theorem frz_pure {H : List AB} {v : AV} (h : v.pure = true) : frz H true depthF v = some v := by simp [depthF, frz, h]
@[simp] theorem kilD_nils {H : List AB} : kil H depthF .nils = [] := by simp [depthF]
theorem kilD_gsl {H : List AB} {b l w : Nat} : kil H depthF (.gsl b l w) = b :: (match H[b]? with | some (.row cs) => if AV.pures cs then [] else cs.flatMap (kil H (depthF - 1)) | _ => []) := by simp only [depthF]; exact kil1_gsl
theorem kilD_msl {H : List AB} {b o l c : Nat} : kil H depthF (.msl b o l c) = b :: (match H[b]? with | some (.row cs) => if AV.pures cs then [] else cs.flatMap (kil H (depthF - 1)) | _ => []) := by simp only [depthF]; exact kil1_msl
theorem frzD_gsl {H : List AB} {ar : Bool} {b l w : Nat} : frz H ar depthF (.gsl b l w) = (match H[b]? with | some (.row cs) => if l * w ≤ cs.length then (frzL ar (frz H ar (depthF - 1)) (cs.take (l * w))).map fun cs => .csl cs l none ar else none | _ => none) := by simp only [depthF]; exact frz1_gsl
theorem frzD_msl {H : List AB} {ar : Bool} {b o l c : Nat} : frz H ar depthF (.msl b o l c) = (match H[b]? with | some (.row cs) => if o ≤ cs.length then (frzL ar (frz H ar (depthF - 1)) (cs.drop o)).map fun cs => .csl cs l none ar else none | _ => none) := by simp only [depthF]; exact frz1_msl
@[simp] theorem frzD_nils {H : List AB} : frz H false depthF .nils = some (.csl [] 0 none false) := by simp only [depthF]; exact frz1_nils
theorem frzD_agg {H : List AB} {ar : Bool} {cs : List AV} : frz H ar depthF (.agg cs) = if AV.canons cs || ar && AV.pures cs then some (.agg cs) else (frzL ar (frz H ar (depthF - 1)) cs).map .agg := by simp only [depthF]; exact frz1_agg
theorem frzD_tup {H : List AB} {ar : Bool} {cs : List AV} : frz H ar depthF (.tup cs) = if AV.canons cs || ar && AV.pures cs then some (.tup cs) else (frzL ar (frz H ar (depthF - 1)) cs).map .tup := by simp only [depthF]; exact frz1_tup
@[simp] theorem frzD_tupc {H : List AB} {ar : Bool} {cs : List AV} (h : AV.canons cs = true) : frz H ar depthF (.tup cs) = some (.tup cs) := frz_canon0 (by simpa [AV.canon] using h)
@[simp] theorem frzD_aggc {H : List AB} {ar : Bool} {cs : List AV} (h : AV.canons cs = true) : frz H ar depthF (.agg cs) = some (.agg cs) := frz_canon0 (by simpa [AV.canon] using h)
@[simp] theorem frzD_cslc {H : List AB} {ar : Bool} {cs : List AV} {n : Nat} (h : AV.canons cs = true) : frz H ar depthF (.csl cs n none false) = some (.csl cs n none false) := frz_canon0 (by simpa [AV.canon] using h)
end Go.Abs.C
end

section
/- The first functions. Conditions: none. -/
namespace Go.Abs.C
open Go Go.Abs
set_option maxRecDepth 10000

theorem prim_no {f : Nat} {xs : List AV} (h : f ≠ 216) : T.prim f xs = none := by
  simp only [T]
  cases hb : Nat.beq f 216 with
  | false => rfl
  | true => exact absurd (Nat.eq_of_beq_eq_true hb) h

/-- What stands behind the hints at a loop's head. -/
def body (c : AC) : AC := match c with | .hint _ b => b | c => c
theorem head_keep {ks : List Nat} {b : AC} (st : ASt) : code T (lim T) (.hint (.keep ks) b) st = (doHint (.keep ks) st).bind (code T (lim T) b) := by
  simp only [code_hint]
  cases doHint (.keep ks) st <;> rfl

structure Small (c : Case) : Prop where
  clefs : c.clefs.length ≤ 10
  cells : c.cells.length ≤ 4
  row : ∀ r ∈ c.cells, r.length ≤ 24
  cell : ∀ r ∈ c.cells, ∀ x ∈ r, x.length ≤ 60
  opts : ∀ r ∈ c.cells, ∀ x ∈ r, ∀ f ∈ x, f.o.length ≤ 40

theorem big0 (c : Case) (n : Int) {s k : Nat} {r : List (List Feat)} {x : List Feat} (hr : c.cells[s]? = some r) (hx : r[k]? = some x) (hl : x.length ≤ 60) :
    let st (j : Nat) : ASt := ⟨[(1, .ptr 0 0), (3, i n), (4, i s), (5, i k), (6, i j)], [.row (cc c)], [], 0, 94, none⟩
    (∃ st1, LoopR T f7l0 (doHint (.keep [1, 3, 4, 5, 6])) (st 0) (.ret, st1) ∧ keepS [2] st1 = ⟨[(2, .bool true)], [.row (cc c)], [], 0, 94, none⟩ ∧ ¬ ∀ f ∈ x, f.o.length ≤ 40) ∨
    ∃ st1, LoopR T f7l0 (doHint (.keep [1, 3, 4, 5, 6])) (st 0) (.exit 4, st1) ∧ keepS [1, 3, 4, 5] st1 = ⟨[(1, .ptr 0 0), (3, i n), (4, i s), (5, i k)], [.row (cc c)], [], 0, 94, none⟩ ∧ ∀ f ∈ x, f.o.length ≤ 40 := by
  intro st
  have e1 : List.take 1 (List.drop s (ml rs c.cells)) = [rs r] := at_map hr
  have e2 : List.take 1 (List.drop k (ml fs r)) = [fs x] := at_map hx
  have l1 : s < c.cells.length := (List.getElem?_eq_some_iff.1 hr).1
  have l2 : k < r.length := (List.getElem?_eq_some_iff.1 hx).1
  refine (LoopR.search (b := f7l0) (b' := body f7l0) (hd := doHint (.keep [1, 3, 4, 5, 6])) head_keep [2] [1, 3, 4, 5] st x.length (fun j => ∃ f, x[j]? = some f ∧ ¬ f.o.length ≤ 40) (er := .ret) (ex := .exit 4) (sr := ⟨[(2, .bool true)], [.row (cc c)], [], 0, 94, none⟩)
      (sx := ⟨[(1, .ptr 0 0), (3, i n), (4, i s), (5, i k)], [.row (cc c)], [], 0, 94, none⟩) (fun j hj hn => ?_) (fun j hj hb _ => ?_) (fun _ => ?_)).elim (fun ⟨st1, h1, h2, j, hj, ⟨f, hf, hb⟩, _⟩ => .inl ⟨st1, h1, h2, fun h => hb (h f (List.mem_of_getElem? hf))⟩) (fun ⟨st1, h1, h2, h3⟩ => .inr ⟨st1, h1, h2, fun f hf => ?_⟩)
  rotate_left 3
  · obtain ⟨j, hj⟩ := List.getElem?_of_mem hf
    exact Decidable.not_not.1 fun h => h3 j (List.getElem?_eq_some_iff.1 hj).1 ⟨f, hj, h⟩
  · have e3 : List.take 6 (List.drop (j * 6) (fl fc x)) = fc x[j] := at_fl len_fc (List.getElem?_eq_getElem hj)
    have hle : x[j].o.length ≤ 40 := Decidable.not_not.1 fun h => hn j (Nat.le_refl _) ⟨x[j], List.getElem?_eq_getElem hj, h⟩
    have hw : IntKind.i64.wrap ((j : Int) + 1) = (j : Int) + 1 := wrap_ok (by omega) (by omega)
    have hle' : ¬ (40 : Int) < (x[j].o.length : Int) := by omega
    simp [st, f7l0, body, i, cc, cs, sl, e1, e2, e3, l1, l2, rs, fs, fc, os, hj, hw, hle']
  · obtain ⟨f, hf, hb⟩ := hb
    have e3 : List.take 6 (List.drop (j * 6) (fl fc x)) = fc f := at_fl len_fc hf
    have hle' : (40 : Int) < (f.o.length : Int) := by omega
    simp [st, f7l0, body, i, cc, cs, sl, e1, e2, e3, l1, l2, rs, fs, fc, os, hj, hle']
  · simp [st, f7l0, body, i, cc, cs, sl, e1, e2, l1, l2, rs, fs]

/-- The features of the cells before a column. -/
def upto (r : List (List Feat)) : Nat → Int
  | 0 => 0
  | k + 1 => upto r k + ((r[k]?).map fun x => (x.length : Int)).getD 0

theorem upto_nn (r : List (List Feat)) : ∀ k, 0 ≤ upto r k
  | 0 => by simp [upto]
  | k + 1 => by
    have := upto_nn r k
    simp only [upto]
    cases r[k]? with
    | none => simp; omega
    | some x => simp; omega

def CellOK (x : List Feat) : Prop := x.length ≤ 60 ∧ ∀ f ∈ x, f.o.length ≤ 40

theorem big1 (c : Case) (n : Int) (hn : 0 ≤ n ∧ n ≤ 400) {s : Nat} {r : List (List Feat)} (hr : c.cells[s]? = some r) (hl : r.length ≤ 24) :
    (∃ st1, LoopR T f7l1 (doHint (.keep [1, 3, 4, 5])) ⟨[(1, .ptr 0 0), (3, i n), (4, i s), (5, i 0)], [.row (cc c)], [], 0, 94, none⟩ (.ret, st1) ∧ keepS [2] st1 = ⟨[(2, .bool true)], [.row (cc c)], [], 0, 94, none⟩) ∨
    ∃ st1 m, LoopR T f7l1 (doHint (.keep [1, 3, 4, 5])) ⟨[(1, .ptr 0 0), (3, i n), (4, i s), (5, i 0)], [.row (cc c)], [], 0, 94, none⟩ (.exit 2, st1) ∧ keepS [1, 3, 4] st1 = ⟨[(1, .ptr 0 0), (3, i m), (4, i s)], [.row (cc c)], [], 0, 94, none⟩ ∧ (0 ≤ m ∧ m ≤ 400) ∧ ∀ x ∈ r, CellOK x := by
  have e1 : List.take 1 (List.drop s (ml rs c.cells)) = [rs r] := at_map hr
  have l1 : s < c.cells.length := (List.getElem?_eq_some_iff.1 hr).1
  let bad : Nat → Prop := fun k => ∃ x, r[k]? = some x ∧ (¬ CellOK x ∨ n + upto r (k + 1) > 400)
  have bnd : ∀ j, j ≤ r.length → (∀ k, k < j → ¬ bad k) → n + upto r j ≤ 400 := fun j hj h => by
    cases j with
    | zero => simp [upto]; omega
    | succ j =>
      have := h j (by omega)
      exact Int.not_lt.1 fun hh => this ⟨r[j], List.getElem?_eq_getElem (by omega), .inr hh⟩
  refine (LoopR.search (b := f7l1) (b' := body f7l1) (hd := doHint (.keep [1, 3, 4, 5])) head_keep [2] [1, 3, 4] (fun k => ⟨[(1, .ptr 0 0), (3, i (n + upto r k)), (4, i s), (5, i k)], [.row (cc c)], [], 0, 94, none⟩) r.length bad (er := .ret) (ex := .exit 2) (sr := ⟨[(2, .bool true)], [.row (cc c)], [], 0, 94, none⟩)
      (sx := ⟨[(1, .ptr 0 0), (3, i (n + upto r r.length)), (4, i s)], [.row (cc c)], [], 0, 94, none⟩) (fun k hk hn' => ?_) (fun k hk hb hf => ?_) (fun _ => ?_)).elim (fun ⟨st1, h1, h2, _⟩ => .inl ⟨st1, by simpa [upto] using h1, h2⟩) (fun ⟨st1, h1, h2, h3⟩ => ?_)
  rotate_left 3
  · have hb := bnd r.length (Nat.le_refl _) h3
    have hnn := upto_nn r r.length
    refine .inr ⟨st1, n + upto r r.length, by simpa [upto] using h1, h2, ⟨by omega, hb⟩, fun x hx => ?_⟩
    obtain ⟨j, hj⟩ := List.getElem?_of_mem hx
    exact Classical.byContradiction fun h => h3 j (List.getElem?_eq_some_iff.1 hj).1 ⟨x, hj, .inl h⟩
  · -- a good cell
    have hx : r[k]? = some r[k] := List.getElem?_eq_getElem hk
    have hok : CellOK r[k] := Classical.byContradiction fun h => hn' k (Nat.le_refl _) ⟨r[k], hx, .inl h⟩
    have hs : n + upto r (k + 1) ≤ 400 := bnd (k + 1) (by omega) fun k' hk' => hn' k' (by omega)
    have hnn := upto_nn r k
    have he : n + upto r (k + 1) = n + upto r k + (r[k].length : Int) := by simp [upto, hx]; omega
    have e2 : List.take 1 (List.drop k (ml fs r)) = [fs r[k]] := at_map hx
    have hw : IntKind.i64.wrap ((k : Int) + 1) = (k : Int) + 1 := wrap_ok (by omega) (by omega)
    have hw2 : IntKind.i64.wrap (n + upto r k + (r[k].length : Int)) = n + upto r (k + 1) := by rw [← he]; exact wrap_ok (by omega) (by omega)
    have c1 : ¬ (60 : Int) < (r[k].length : Int) := by have := hok.1; omega
    have c2 : ¬ (400 : Int) < n + upto r (k + 1) := by omega
    rcases big0 c (n + upto r (k + 1)) hr hx hok.1 with ⟨st1, _, _, h⟩ | ⟨st1, h1, h2, _⟩
    · exact absurd hok.2 h
    · simp [LoopR, i, cc, cs, sl] at h1 h2
      simp [f7l1, body, i, cc, cs, sl, e1, e2, l1, rs, fs, hk, hw, hw2, c1, c2, h1, h2]
  · -- a bad cell
    obtain ⟨x, hx, hbad⟩ := hb
    have hnn := upto_nn r k
    have e2 : List.take 1 (List.drop k (ml fs r)) = [fs x] := at_map hx
    by_cases c1 : x.length ≤ 60
    · have hb0 := bnd k (by omega) hf
      have he : n + upto r (k + 1) = n + upto r k + (x.length : Int) := by simp [upto, hx]; omega
      have hw2 : IntKind.i64.wrap (n + upto r k + (x.length : Int)) = n + upto r (k + 1) := by rw [← he]; exact wrap_ok (by omega) (by omega)
      have c1' : ¬ (60 : Int) < (x.length : Int) := by omega
      by_cases c2 : n + upto r (k + 1) > 400
      · have c2' : (400 : Int) < n + upto r (k + 1) := c2
        simp [f7l1, body, i, cc, cs, sl, e1, e2, l1, rs, fs, hk, hw2, c1', c2']
      · have c2' : ¬ (400 : Int) < n + upto r (k + 1) := c2
        have hno : ¬ ∀ f ∈ x, f.o.length ≤ 40 := fun h => (hbad.resolve_right c2) ⟨c1, h⟩
        rcases big0 c (n + upto r (k + 1)) hr hx c1 with ⟨st1, h1, h2, _⟩ | ⟨st1, _, _, h⟩
        · simp [LoopR, i, cc, cs, sl] at h1 h2
          simp [f7l1, body, i, cc, cs, sl, e1, e2, l1, rs, fs, hk, hw2, c1', c2', h1, h2]
        · exact absurd h hno
    · have c1' : (60 : Int) < (x.length : Int) := by omega
      simp [f7l1, body, i, cc, cs, sl, e1, e2, l1, rs, fs, hk, c1']
  · simp [f7l1, body, i, cc, cs, sl, e1, l1, rs]

theorem big2 (c : Case) : ∀ (k s : Nat) (n : Int), s + k = c.cells.length → 0 ≤ n ∧ n ≤ 400 → c.cells.length ≤ 4 →
    (∃ st1, LoopR T f7l2 (doHint (.keep [1, 3, 4])) ⟨[(1, .ptr 0 0), (3, i n), (4, i s)], [.row (cc c)], [], 0, 94, none⟩ (.ret, st1) ∧ keepS [2] st1 = ⟨[(2, .bool true)], [.row (cc c)], [], 0, 94, none⟩) ∨
    ∃ st1, LoopR T f7l2 (doHint (.keep [1, 3, 4])) ⟨[(1, .ptr 0 0), (3, i n), (4, i s)], [.row (cc c)], [], 0, 94, none⟩ (.exit 0, st1) ∧ keepS [] st1 = ⟨[], [.row (cc c)], [], 0, 94, none⟩ ∧ ∀ j r, s ≤ j → c.cells[j]? = some r → r.length ≤ 24 ∧ ∀ x ∈ r, CellOK x
  | 0, s, n, hs, hn, hl => by
    right
    obtain ⟨st1, h1, h2, h3⟩ : ∃ st1, code T (lim T) (body f7l2) ⟨[(1, .ptr 0 0), (3, i n), (4, i s)], [.row (cc c)], [], 0, 94, none⟩ = some (.exit 0, st1) ∧ (AExit.exit 0 ≠ .normal) ∧ keepS [] st1 = ⟨[], [.row (cc c)], [], 0, 94, none⟩ := goOut_inv (by
      have : ¬ s < c.cells.length := by omega
      simp [f7l2, body, i, cc, cs, sl, this])
    exact ⟨st1, .out head_keep h1 h2, h3, fun j r hj hr => by have := (List.getElem?_eq_some_iff.1 hr).1; omega⟩
  | k + 1, s, n, hs, hn, hl => by
    have hlt : s < c.cells.length := by omega
    have hr : c.cells[s]? = some c.cells[s] := List.getElem?_eq_getElem hlt
    have e1 : List.take 1 (List.drop s (ml rs c.cells)) = [rs c.cells[s]] := at_map hr
    have out : ∀ {st1 : ASt}, code T (lim T) (body f7l2) ⟨[(1, .ptr 0 0), (3, i n), (4, i s)], [.row (cc c)], [], 0, 94, none⟩ = some (.ret, st1) → keepS [2] st1 = ⟨[(2, .bool true)], [.row (cc c)], [], 0, 94, none⟩ → (∃ st1, LoopR T f7l2 (doHint (.keep [1, 3, 4])) ⟨[(1, .ptr 0 0), (3, i n), (4, i s)], [.row (cc c)], [], 0, 94, none⟩ (.ret, st1) ∧ keepS [2] st1 = ⟨[(2, .bool true)], [.row (cc c)], [], 0, 94, none⟩) :=
      fun {st1} h1 h2 => ⟨st1, .out head_keep h1 (by simp), h2⟩
    by_cases h24 : c.cells[s].length ≤ 24
    · have c1 : ¬ (24 : Int) < (c.cells[s].length : Int) := by omega
      rcases big1 c n hn hr h24 with ⟨st1, h1, h2⟩ | ⟨st1, m, h1, h2, hm, hall⟩
      · left
        simp [LoopR, i, cc, cs, sl] at h1 h2
        obtain ⟨st2, g1, _, g3⟩ : ∃ st1, code T (lim T) (body f7l2) ⟨[(1, .ptr 0 0), (3, i n), (4, i s)], [.row (cc c)], [], 0, 94, none⟩ = some (.ret, st1) ∧ (AExit.ret ≠ .normal) ∧ keepS [2] st1 = ⟨[(2, .bool true)], [.row (cc c)], [], 0, 94, none⟩ := goOut_inv (by
          simp [f7l2, body, i, cc, cs, sl, e1, rs, hlt, c1, h1, h2])
        exact out g1 g3
      · simp [LoopR, i, cc, cs, sl] at h1 h2
        have hw : IntKind.i64.wrap ((s : Int) + 1) = (s : Int) + 1 := wrap_ok (by omega) (by omega)
        obtain ⟨st2, g1, g2⟩ : ∃ st1, code T (lim T) (body f7l2) ⟨[(1, .ptr 0 0), (3, i n), (4, i s)], [.row (cc c)], [], 0, 94, none⟩ = some (.normal, st1) ∧ doHint (.keep [1, 3, 4]) st1 = some ⟨[(1, .ptr 0 0), (3, i m), (4, i (s + 1 : Nat))], [.row (cc c)], [], 0, 94, none⟩ := goOn_inv (by
          simp [f7l2, body, i, cc, cs, sl, e1, rs, hlt, c1, h1, h2, hw])
        rcases big2 c k (s + 1) m (by omega) hm hl with ⟨st3, k1, k2⟩ | ⟨st3, k1, k2, k3⟩
        · exact .inl ⟨st3, .step head_keep g1 g2 k1, k2⟩
        · refine .inr ⟨st3, .step head_keep g1 g2 k1, k2, fun j r hj hjr => ?_⟩
          by_cases hjs : j = s
          · subst hjs
            rw [hr] at hjr; cases hjr
            exact ⟨h24, hall⟩
          · exact k3 j r (by omega) hjr
    · left
      have c1 : (24 : Int) < (c.cells[s].length : Int) := by omega
      obtain ⟨st2, g1, _, g3⟩ : ∃ st1, code T (lim T) (body f7l2) ⟨[(1, .ptr 0 0), (3, i n), (4, i s)], [.row (cc c)], [], 0, 94, none⟩ = some (.ret, st1) ∧ (AExit.ret ≠ .normal) ∧ keepS [2] st1 = ⟨[(2, .bool true)], [.row (cc c)], [], 0, 94, none⟩ := goOut_inv (by
        simp [f7l2, body, i, cc, cs, sl, e1, rs, hlt, c1])
      exact out g1 g3

theorem fn7 : T.fn 7 = some f7 := by rfl

/-- What the guard lets by is small. -/
theorem big_ok (c : Case) : ∃ b, Ret T 7 [.agg (cc c)] (.bool b) ∧ (b = false → Small c) := by
  by_cases h1 : c.clefs.length ≤ 10
  · have c1 : ¬ (10 : Int) < (c.clefs.length : Int) := by omega
    by_cases h2 : c.cells.length ≤ 4
    · have c2 : ¬ (4 : Int) < (c.cells.length : Int) := by omega
      rcases big2 c c.cells.length 0 0 (by omega) (by omega) h2 with ⟨st1, g1, g2⟩ | ⟨st1, g1, g2, g3⟩
      · refine ⟨true, Ret.of fn7 (by simp; decide) ?_, by simp⟩
        obtain ⟨q1, q2, q3⟩ := keepS_one g2
        simp [LoopR, i, cc, cs, sl, il] at g1
        simp [f7, f7b, i, cc, cs, sl, il, c1, c2, g1, q2, q3]
      · refine ⟨false, Ret.of fn7 (by simp; decide) ?_, fun _ => ⟨h1, h2, fun r hr => ?_, fun r hr x hx => ?_, fun r hr x hx => ?_⟩⟩
        · simp [LoopR, i, cc, cs, sl, il] at g1 g2
          simp [f7, f7b, i, cc, cs, sl, il, c1, c2, g1, g2]
        all_goals
          obtain ⟨j, hj⟩ := List.getElem?_of_mem hr
          obtain ⟨k1, k2⟩ := g3 j r (by omega) hj
        · exact k1
        · exact (k2 x hx).1
        · exact (k2 x hx).2
    · have c2 : (4 : Int) < (c.cells.length : Int) := by omega
      refine ⟨true, Ret.of fn7 (by simp; decide) ?_, by simp⟩
      simp [f7, f7b, i, cc, cs, sl, il, c1, c2]
  · have c1 : (10 : Int) < (c.clefs.length : Int) := by omega
    refine ⟨true, Ret.of fn7 (by simp; decide) ?_, by simp⟩
    simp [f7, f7b, i, cc, cs, sl, il, c1]
end Go.Abs.C
end

section
/- Copies. Conditions: none. -/
namespace Go.Abs.C
open Go Go.Abs
set_option maxRecDepth 10000

theorem head_norm {ks : List Nat} {b : AC} (st : ASt) : code T (lim T) (.hint (.keep ks) (.hint .norm b)) st = ((doHint (.keep ks) st).bind (doHint .norm)).bind (code T (lim T) b) := by
  simp only [code_hint]
  cases doHint (.keep ks) st with
  | none => rfl
  | some s => simp only [Option.bind_some]; cases doHint .norm s <;> rfl
def body2 (c : AC) : AC := match c with | .hint _ (.hint _ b) => b | c => c

theorem fn91 : T.fn 91 = some f91 := by rfl
theorem fn56 : T.fn 56 = some f56 := by rfl
theorem fn32 : T.fn 32 = some f32 := by rfl

/-- A row that has been made reads as it is. -/
theorem frz_row {H : List AB} {b n w : Nat} {c : List AV} (hb : H[b]? = some (.row c)) (hl : c.length = n * w) (hc : AV.canons c = true) : frz H false depthF (.gsl b n w) = some (.csl c n none false) := by
  have : c.take (n * w) = c := List.take_of_length_le (by omega)
  simp [depthF, hb, hl, this, hc]
theorem frz_nils {H : List AB} : frz H false depthF .nils = some (.csl [] 0 none false) := by simp [depthF]

theorem copyOptions (l : List Opt) (h : l.length ≤ 1000) : Ret T 91 [os l] (os l) := by
  refine Ret.of fn91 (by simp; decide) ?_
  by_cases h0 : l.length = 0
  · obtain rfl : l = [] := List.length_eq_zero_iff.1 h0
    rfl
  · have h2 : l.length * 16 ≤ maxLen' := by simp [maxLen']; omega
    have hz : frz [AB.row (fl oc l)] false depthF (.gsl 0 l.length 2) = some (os l) := frz_row rfl (by simp) (by simp)
    have ht : (fl oc l).take (l.length * 2) = fl oc l := List.take_of_length_le (by simp)
    simp [f91, f91b, os, sl, h0, h2, ht]
    exact hz

theorem copyFeature (f : Feat) (h : f.o.length ≤ 1000) : Ret T 56 [.agg (fc f)] (.agg (fc f)) := by
  refine Ret.of fn56 (by simp; decide) ?_
  have hen : ∀ H, enter T (lim T) 0 91 [os f.o] H = some (.ret (os f.o), H) := fun H => enterP (copyOptions f.o h) (prim_no (by decide)) (by simp)
  simp [f56, f56b, fc, i, hen, trace, tchO, AEff.tch, accO, AOp.opds, pureCall, topB]

theorem fl_take {α : Type} {e : α → List AV} {l : List α} {j : Nat} {a : α} (hj : l[j]? = some a) : fl e (l.take j) ++ e a = fl e (l.take (j + 1)) := by
  obtain ⟨hj', rfl⟩ := List.getElem?_eq_some_iff.1 hj
  simp only [fl]
  rw [← List.take_append_getElem hj', List.flatMap_append]
  simp

/-- A row that grows, as the walk has it at a loop's head: where it lies, its cells. -/
def accV (b w n : Nat) : AV := if n = 0 then .nils else .gsl b n w
def accH (n : Nat) (c : List AV) : List AB := if n = 0 then [] else [.row c]

theorem copyFeatures (l : List Feat) (h : l.length ≤ 1000) (ho : ∀ f ∈ l, f.o.length ≤ 1000) : Ret T 32 [fs l] (fs l) := by
  let inv (j : Nat) : ASt := ⟨[(0, fs l), (3, accV 0 6 j), (4, i j)], accH j (fl fc (l.take j)), [], 0, 20, none⟩
  have key : ∃ st1, LoopR T f32l0 (fun st => (doHint (.keep [0, 3, 4]) st).bind (doHint .norm)) (inv 0) (.exit 0, st1) ∧ keepS [3] st1 = ⟨[(3, accV 0 6 l.length)], accH l.length (fl fc l), [], 0, 20, none⟩ := by
    refine LoopR.for' (b' := body2 f32l0) head_norm [3] inv l.length (fun j hj => ?_) ?_
    · have hjl : l[j]? = some l[j] := List.getElem?_eq_getElem hj
      have e3 : List.take 6 (List.drop (j * 6) (fl fc l)) = fc l[j] := at_fl len_fc hjl
      have hen : ∀ H, enter T (lim T) 0 56 [.agg (fc l[j])] H = some (.ret (.agg (fc l[j])), H) := fun H => enterP (copyFeature l[j] (ho _ (List.getElem_mem hj))) (prim_no (by decide)) (by simp)
      have hw : IntKind.i64.wrap ((j : Int) + 1) = (j : Int) + 1 := wrap_ok (by omega) (by omega)
      have hb : (j + 1) * 64 ≤ maxLen' := by simp [maxLen']; omega
      have hcell : ∀ x ∈ fc l[j], x.isCell = true := by simp [fc]
      have hT : List.take (j * 6) (fl fc (l.take j)) = fl fc (l.take j) := List.take_of_length_le (by simp; omega)
      have hlen : (fl fc (l.take j)).length = j * 6 := by simp; omega
      have hF := fl_take (e := fc) hjl
      by_cases hj0 : j = 0
      · subst hj0
        simp at e3 hF hb
        simp [inv, accV, accH, f32l0, body2, fs, sl, i, hj, e3, hen, hb, ← hF]
        decide
      · have hj1 : ¬ j + 1 = 0 := by omega
        simp [inv, accV, accH, f32l0, body2, fs, sl, i, hj, e3, hen, hw, hj0, hT, hlen, hF, hb, eq_true hcell]
    · simp [inv, f32l0, body2, fs, sl, i]
  obtain ⟨st1, h1, h2⟩ := key
  refine Ret.of fn32 (by simp; decide) ?_
  simp [LoopR, inv, accV, accH, fs, sl, i] at h1
  simp [f32, f32b, fs, sl, i, h1, h2]
  by_cases h0 : l.length = 0
  · obtain rfl : l = [] := List.length_eq_zero_iff.1 h0
    simp [accV, accH, frz_nils]
  · simp [accV, accH, h0]
    exact frz_row rfl (by simp) (by simp)
end Go.Abs.C
end

section
/- A case of the program's own. Conditions: none. -/
namespace Go.Abs.C
open Go Go.Abs
set_option maxRecDepth 10000
theorem fn9 : T.fn 9 = some f9 := by rfl

def zero7 : List AV := [.nils, .int .i64 0, .int .i64 0, .int .i64 0, .int .i64 0, .bool false, .nils]
def own4 (c : Case) (s : Nat) : List AV := [il c.clefs, i c.key, i c.beats, i c.unit, i c.bar, .bool c.free, accV 3 1 s]
def hd9 : ASt → Option ASt := fun st => (doHint (.keep [1, 2, 4, 5, 6, 7]) st).bind (doHint .norm)

theorem own0 (c : Case) {s : Nat} {r : List (List Feat)} (hr : c.cells[s]? = some r) (hs : s < 1000) (hl : r.length ≤ 1000) (hx : ∀ x ∈ r, x.length ≤ 1000) (ho : ∀ x ∈ r, ∀ f ∈ x, f.o.length ≤ 1000) :
    ∃ st1, LoopR T f9l0 hd9 ⟨[(1, .ptr 0 0), (2, .ptr 1 0), (4, .ptr 2 0), (5, i s), (6, .nils), (7, i 0)], [.row (cc c), .row zero7, .row (own4 c s)] ++ accH s (ml rs (c.cells.take s)), [], 0, 56, none⟩ (.exit 2, st1) ∧
      keepS [1, 2, 4, 5, 6] st1 = ⟨[(1, .ptr 0 0), (2, .ptr 1 0), (4, .ptr 2 0), (5, i s), (6, accV (if s = 0 then 3 else 4) 1 r.length)], [.row (cc c), .row zero7, .row (own4 c s)] ++ accH s (ml rs (c.cells.take s)) ++ accH r.length (ml fs r), [], 0, 56, none⟩ := by
  have e1 : List.take 1 (List.drop s (ml rs c.cells)) = [rs r] := at_map hr
  have l1 : s < c.cells.length := (List.getElem?_eq_some_iff.1 hr).1
  let inv (k : Nat) : ASt := ⟨[(1, .ptr 0 0), (2, .ptr 1 0), (4, .ptr 2 0), (5, i s), (6, accV (if s = 0 then 3 else 4) 1 k), (7, i k)], [.row (cc c), .row zero7, .row (own4 c s)] ++ accH s (ml rs (c.cells.take s)) ++ accH k (ml fs (r.take k)), [], 0, 56, none⟩
  have key := LoopR.for' (T := T) (b := f9l0) (b' := body2 f9l0) (hd := hd9) head_norm [1, 2, 4, 5, 6] inv r.length (e := .exit 2) (s := ⟨[(1, .ptr 0 0), (2, .ptr 1 0), (4, .ptr 2 0), (5, i s), (6, accV (if s = 0 then 3 else 4) 1 r.length)], [.row (cc c), .row zero7, .row (own4 c s)] ++ accH s (ml rs (c.cells.take s)) ++ accH r.length (ml fs r), [], 0, 56, none⟩) (fun k hk => ?_) ?_
  · obtain ⟨st1, h1, h2⟩ := key
    refine ⟨st1, ?_, h2⟩
    simpa [inv, accV, accH] using h1
  · have hxk : r[k]? = some r[k] := List.getElem?_eq_getElem hk
    have e2 : List.take 1 (List.drop k (ml fs r)) = [fs r[k]] := at_map hxk
    have hen : ∀ H, enter T (lim T) 0 32 [fs r[k]] H = some (.ret (fs r[k]), H) := fun H => enterP (copyFeatures r[k] (hx _ (List.getElem_mem hk)) (ho _ (List.getElem_mem hk))) (prim_no (by decide)) (by simp)
    have hw : IntKind.i64.wrap ((k : Int) + 1) = (k : Int) + 1 := wrap_ok (by omega) (by omega)
    have w1 : IntKind.i64.wrap 1 = 1 := by decide
    have hb : (k + 1) * 24 ≤ maxLen' := by simp [maxLen']; omega
    have hT : List.take k (ml fs (r.take k)) = ml fs (r.take k) := List.take_of_length_le (by simp; omega)
    have hF : ml fs (r.take k) ++ [fs r[k]] = ml fs (r.take (k + 1)) := ml_take hxk
    have hm : min k r.length = k := by omega
    by_cases hs0 : s = 0
    · subst hs0
      by_cases hk0 : k = 0
      · subst hk0
        simp at e1 e2 hF hb
        simp [inv, accV, accH, f9l0, body2, hd9, own4, zero7, cc, cs, rs, sl, i, hk, l1, e1, e2, hen, hb, ← hF, w1]
      · have hk1 : ¬ k + 1 = 0 := by omega
        simp at e1
        simp [inv, accV, accH, f9l0, body2, hd9, own4, zero7, cc, cs, rs, sl, i, hk, l1, e1, e2, hen, hw, hk0, hT, hF, hb, hm]
    · have hTs : List.take s (ml rs (c.cells.take s)) = ml rs (c.cells.take s) := List.take_of_length_le (by simp; omega)
      by_cases hk0 : k = 0
      · subst hk0
        simp at e2 hF hb
        simp [inv, accV, accH, f9l0, body2, hd9, own4, zero7, cc, cs, rs, sl, i, hk, l1, e1, e2, hen, hb, ← hF, w1, hs0]
      · have hk1 : ¬ k + 1 = 0 := by omega
        simp [inv, accV, accH, f9l0, body2, hd9, own4, zero7, cc, cs, rs, sl, i, hk, l1, e1, e2, hen, hw, hk0, hT, hF, hb, hm, hs0]
  · simp [inv, f9l0, body2, own4, cc, cs, rs, sl, i, l1, e1]
end Go.Abs.C
end

section
/- A case of the program's own (2). Conditions: none. -/
namespace Go.Abs.C
open Go Go.Abs
set_option maxRecDepth 10000
def hd9o : ASt → Option ASt := fun st => (doHint (.keep [1, 2, 4, 5]) st).bind (doHint .norm)
theorem small_rows {c : Case} (hc : Small c) {s : Nat} {r : List (List Feat)} (hr : c.cells[s]? = some r) : s < 1000 ∧ r.length ≤ 1000 ∧ (∀ x ∈ r, x.length ≤ 1000) ∧ (∀ x ∈ r, ∀ f ∈ x, f.o.length ≤ 1000) := by
  have hm := List.mem_of_getElem? hr
  have l1 := (List.getElem?_eq_some_iff.1 hr).1
  have h1 := hc.cells
  have h2 := hc.row r hm
  exact ⟨by omega, by omega, fun x hx => by have := hc.cell r hm x hx; omega, fun x hx f hf => by have := hc.opts r hm x hx f hf; omega⟩

/-- The row made, as it is read at the point behind the inner loop. -/
theorem frz_acc {H : List AB} {b n : Nat} {c : List AV} (hl : c.length = n) (hc : AV.canons c = true) (hb : n ≠ 0 → H[b]? = some (.row c)) : frz H false depthF (accV b 1 n) = some (sl c n) := by
  unfold accV
  split
  · rename_i h; subst h
    obtain rfl : c = [] := List.length_eq_zero_iff.1 hl
    exact frz_nils
  · rename_i h
    exact frz_row (hb h) (by omega) hc

theorem own1 (c : Case) (hc : Small c) : ∃ st1, LoopR T f9l1 hd9o ⟨[(1, .ptr 0 0), (2, .ptr 1 0), (4, .ptr 2 0), (5, i 0)], [.row (cc c), .row zero7, .row (own4 c 0)], [], 0, 56, none⟩ (.exit 0, st1) ∧
      keepS [2, 4] st1 = ⟨[(2, .ptr 1 0), (4, .ptr 2 0)], [.row (cc c), .row zero7, .row (own4 c c.cells.length)] ++ accH c.cells.length (ml rs c.cells), [], 0, 56, none⟩ := by
  let inv (s : Nat) : ASt := ⟨[(1, .ptr 0 0), (2, .ptr 1 0), (4, .ptr 2 0), (5, i s)], [.row (cc c), .row zero7, .row (own4 c s)] ++ accH s (ml rs (c.cells.take s)), [], 0, 56, none⟩
  have key := LoopR.for' (T := T) (b := f9l1) (b' := body2 f9l1) (hd := hd9o) head_norm [2, 4] inv c.cells.length (e := .exit 0) (s := ⟨[(2, .ptr 1 0), (4, .ptr 2 0)], [.row (cc c), .row zero7, .row (own4 c c.cells.length)] ++ accH c.cells.length (ml rs c.cells), [], 0, 56, none⟩) (fun s hs => ?_) ?_
  · obtain ⟨st1, h1, h2⟩ := key
    refine ⟨st1, ?_, h2⟩
    simpa [inv, accV, accH, own4] using h1
  · have hr : c.cells[s]? = some c.cells[s] := List.getElem?_eq_getElem hs
    obtain ⟨b1, b2, b3, b4⟩ := small_rows hc hr
    obtain ⟨st1, h1, h2⟩ := own0 c hr b1 b2 b3 b4
    have e1 : List.take 1 (List.drop s (ml rs c.cells)) = [rs c.cells[s]] := at_map hr
    have hw : IntKind.i64.wrap ((s : Int) + 1) = (s : Int) + 1 := wrap_ok (by omega) (by omega)
    have w1 : IntKind.i64.wrap 1 = 1 := by decide
    have hb : (s + 1) * 24 ≤ maxLen' := by simp [maxLen']; omega
    have hT : List.take s (ml rs (c.cells.take s)) = ml rs (c.cells.take s) := List.take_of_length_le (by simp; omega)
    have hF : ml rs (c.cells.take s) ++ [rs c.cells[s]] = ml rs (c.cells.take (s + 1)) := ml_take hr
    have hm : min s c.cells.length = s := by omega
    have hTr : List.take c.cells[s].length (ml fs c.cells[s]) = ml fs c.cells[s] := List.take_of_length_le (by simp)
    by_cases hs0 : s = 0
    · subst hs0
      have hh : hd9 ⟨[(1, .ptr 0 0), (2, .ptr 1 0), (4, .ptr 2 0), (5, i 0), (6, .nils), (7, i 0)], [.row (cc c), .row zero7, .row (own4 c 0)], [], 0, 56, none⟩ = some ⟨[(1, .ptr 0 0), (2, .ptr 1 0), (4, .ptr 2 0), (5, i (0 : Nat)), (6, .nils), (7, i 0)], [.row (cc c), .row zero7, .row (own4 c 0)] ++ accH 0 (ml rs (c.cells.take 0)), [], 0, 56, none⟩ := by
        simp [hd9, cc, own4, zero7, i, accV, accH]
      have hc1 := h1 _ hh
      simp at e1 hF hb
      have hz : frz ([.row (cc c), .row zero7, .row (own4 c 0)] ++ accH c.cells[0].length (ml fs c.cells[0])) false depthF (accV 3 1 c.cells[0].length) = some (rs c.cells[0]) := frz_acc (by simp) (by simp) (fun h => by simp [accH, h])
      by_cases hr0 : c.cells[0].length = 0
      · simp [own4, cc, cs, sl, zero7, i, accV, accH, hr0] at hc1 h2 hz
        simp [inv, accV, accH, f9l1, body2, hd9o, own4, zero7, cc, cs, sl, i, hs, e1, hc1, h2, hb, ← hF, w1, hz]
      · simp [own4, cc, cs, sl, zero7, i, accV, accH, hr0] at hc1 h2 hz
        simp [inv, accV, accH, f9l1, body2, hd9o, own4, zero7, cc, cs, sl, i, hs, e1, hc1, h2, hb, ← hF, w1, hz, kilD_gsl]
    · have hTs : List.take s (ml rs (c.cells.take s)) = ml rs (c.cells.take s) := List.take_of_length_le (by simp; omega)
      have hh : hd9 ⟨[(1, .ptr 0 0), (2, .ptr 1 0), (4, .ptr 2 0), (5, i s), (6, .nils), (7, i 0)], [.row (cc c), .row zero7, .row (own4 c s)] ++ accH s (ml rs (c.cells.take s)), [], 0, 56, none⟩ = some ⟨[(1, .ptr 0 0), (2, .ptr 1 0), (4, .ptr 2 0), (5, i s), (6, .nils), (7, i 0)], [.row (cc c), .row zero7, .row (own4 c s)] ++ accH s (ml rs (c.cells.take s)), [], 0, 56, none⟩ := by
        simp [hd9, cc, own4, zero7, i, accV, accH, hs0]
      have hc1 := h1 _ hh
      have hs1 : ¬ s + 1 = 0 := by omega
      have hz : frz ([.row (cc c), .row zero7, .row (own4 c s)] ++ accH s (ml rs (c.cells.take s)) ++ accH c.cells[s].length (ml fs c.cells[s])) false depthF (accV 4 1 c.cells[s].length) = some (rs c.cells[s]) := frz_acc (by simp) (by simp) (fun h => by simp [accH, h, hs0])
      by_cases hr0 : c.cells[s].length = 0
      · simp [own4, cc, cs, sl, zero7, i, accV, accH, hr0, hs0] at hc1 h2 hz
        simp [inv, accV, accH, f9l1, body2, hd9o, own4, zero7, cc, cs, sl, i, hs, hc1, h2, hb, hF, hw, hz, hs0, hT, hm]
      · simp [own4, cc, cs, sl, zero7, i, accV, accH, hr0, hs0] at hc1 h2 hz
        simp [inv, accV, accH, f9l1, body2, hd9o, own4, zero7, cc, cs, sl, i, hs, hc1, h2, hb, hF, hw, hz, hs0, hT, hm, kilD_gsl]
  · simp [inv, f9l1, body2, own4, cc, cs, sl, i]

theorem own_ok (c : Case) (hc : Small c) : Ret T 9 [.agg (cc c)] (.agg (cc c)) := by
  obtain ⟨st1, h1, h2⟩ := own1 c hc
  refine Ret.of fn9 (by simp; decide) ?_
  have hT : List.take c.clefs.length (ml i c.clefs) = ml i c.clefs := List.take_of_length_le (by simp)
  have hb : c.clefs.length * 8 ≤ maxLen' := by have := hc.clefs; simp [maxLen']; omega
  have hcell : ∀ x ∈ ml i c.clefs, x.isCell = true := by simp [ml]
  have h1' : ∀ st, hd9o st = some _ → code T (lim T) (.loop f9l1) st = some _ := h1
  simp [own4, cc, cs, sl, zero7, i, accV, accH] at h2
  by_cases h0 : c.clefs.length = 0
  · obtain h0' : c.clefs = [] := List.length_eq_zero_iff.1 h0
    simp [f9, f9b, cc, cs, sl, il, i, h0', kilD_msl, frzD_msl]
    rw [h1']
    · by_cases hz : c.cells = [] <;> simp [h2, hz, depthF, il, sl, h0']
    · simp [hd9o, cc, own4, zero7, i, il, cs, sl, accV, h0']
  · simp [f9, f9b, cc, cs, sl, il, i, hT, hb, h0, kilD_gsl, frzD_gsl, eq_true hcell]
    rw [h1']
    · by_cases hz : c.cells = [] <;> simp [h2, hz, depthF, il, sl]
    · simp [hd9o, cc, own4, zero7, i, il, cs, sl, accV]
end Go.Abs.C
end

section
/- Frames. Conditions: none. -/
namespace Go.Abs.C
open Go Go.Abs
set_option maxRecDepth 10000

theorem _root_.Go.Abs.Ret.ground {f n : Nat} {ys : List AV} {w v : AV} {H : List AB} (h : ∀ m, (sems T (m + n)).call f ys [] = some (.ret w, H)) (hz : frz H false depthF w = some v) : Ret T f ys v :=
  ⟨w, H, lim_of (n := n) (fun m => by rw [Nat.add_comm]; exact h m), hz⟩

def okMeter (b u : Int) : Bool := (1 ≤ b && b ≤ 9) && (u == 2 || u == 4 || u == 8)

theorem fn65 : T.fn 65 = some f65 := by rfl
theorem fn69 : T.fn 69 = some f69 := by rfl
theorem nine {b : Int} (h1 : 1 ≤ b) (h2 : b ≤ 9) : b = 1 ∨ b = 2 ∨ b = 3 ∨ b = 4 ∨ b = 5 ∨ b = 6 ∨ b = 7 ∨ b = 8 ∨ b = 9 := by omega

theorem bar65 (b u : Int) : ∃ p q, Ret T 65 [.agg [i b, i u]] (.tup [.agg [i p, i q], i (if okMeter b u then 0 else 32)]) := by
  by_cases h : okMeter b u = true
  · rw [if_pos h]
    simp [okMeter] at h
    obtain ⟨⟨h1, h2⟩, h3⟩ := h
    rcases nine h1 h2 with rfl | rfl | rfl | rfl | rfl | rfl | rfl | rfl | rfl <;> rcases h3 with (rfl | rfl) | rfl
    · exact ⟨_, _, Ret.ground g65_1_2 rfl⟩
    · exact ⟨_, _, Ret.ground g65_1_4 rfl⟩
    · exact ⟨_, _, Ret.ground g65_1_8 rfl⟩
    · exact ⟨_, _, Ret.ground g65_2_2 rfl⟩
    · exact ⟨_, _, Ret.ground g65_2_4 rfl⟩
    · exact ⟨_, _, Ret.ground g65_2_8 rfl⟩
    · exact ⟨_, _, Ret.ground g65_3_2 rfl⟩
    · exact ⟨_, _, Ret.ground g65_3_4 rfl⟩
    · exact ⟨_, _, Ret.ground g65_3_8 rfl⟩
    · exact ⟨_, _, Ret.ground g65_4_2 rfl⟩
    · exact ⟨_, _, Ret.ground g65_4_4 rfl⟩
    · exact ⟨_, _, Ret.ground g65_4_8 rfl⟩
    · exact ⟨_, _, Ret.ground g65_5_2 rfl⟩
    · exact ⟨_, _, Ret.ground g65_5_4 rfl⟩
    · exact ⟨_, _, Ret.ground g65_5_8 rfl⟩
    · exact ⟨_, _, Ret.ground g65_6_2 rfl⟩
    · exact ⟨_, _, Ret.ground g65_6_4 rfl⟩
    · exact ⟨_, _, Ret.ground g65_6_8 rfl⟩
    · exact ⟨_, _, Ret.ground g65_7_2 rfl⟩
    · exact ⟨_, _, Ret.ground g65_7_4 rfl⟩
    · exact ⟨_, _, Ret.ground g65_7_8 rfl⟩
    · exact ⟨_, _, Ret.ground g65_8_2 rfl⟩
    · exact ⟨_, _, Ret.ground g65_8_4 rfl⟩
    · exact ⟨_, _, Ret.ground g65_8_8 rfl⟩
    · exact ⟨_, _, Ret.ground g65_9_2 rfl⟩
    · exact ⟨_, _, Ret.ground g65_9_4 rfl⟩
    · exact ⟨_, _, Ret.ground g65_9_8 rfl⟩
  · rw [if_neg h]
    refine ⟨0, 0, Ret.of fn65 (by simp; decide) ?_⟩
    simp [okMeter] at h
    by_cases h1 : b < 1
    · simp [f65, f65b, i, h1]
    · by_cases h2 : 9 < b
      · simp [f65, f65b, i, h1, h2]
      · have h3 := h (by omega) (by omega)
        have e1 : (u != 2) = true := by simp [h3]
        have e2 : (u != 4) = true := by simp [h3]
        have e3 : (u != 8) = true := by simp [h3]
        simp [f65, f65b, i, h1, h2, e1, e2, e3]
theorem bar69 (b u : Int) : ∃ p q, Ret T 69 [.agg [i b, i u]] (.tup [.agg [i p, i q], i (if okMeter b u then 0 else 32)]) := by
  by_cases h : okMeter b u = true
  · rw [if_pos h]
    simp [okMeter] at h
    obtain ⟨⟨h1, h2⟩, h3⟩ := h
    rcases nine h1 h2 with rfl | rfl | rfl | rfl | rfl | rfl | rfl | rfl | rfl <;> rcases h3 with (rfl | rfl) | rfl
    · exact ⟨_, _, Ret.ground g69_1_2 rfl⟩
    · exact ⟨_, _, Ret.ground g69_1_4 rfl⟩
    · exact ⟨_, _, Ret.ground g69_1_8 rfl⟩
    · exact ⟨_, _, Ret.ground g69_2_2 rfl⟩
    · exact ⟨_, _, Ret.ground g69_2_4 rfl⟩
    · exact ⟨_, _, Ret.ground g69_2_8 rfl⟩
    · exact ⟨_, _, Ret.ground g69_3_2 rfl⟩
    · exact ⟨_, _, Ret.ground g69_3_4 rfl⟩
    · exact ⟨_, _, Ret.ground g69_3_8 rfl⟩
    · exact ⟨_, _, Ret.ground g69_4_2 rfl⟩
    · exact ⟨_, _, Ret.ground g69_4_4 rfl⟩
    · exact ⟨_, _, Ret.ground g69_4_8 rfl⟩
    · exact ⟨_, _, Ret.ground g69_5_2 rfl⟩
    · exact ⟨_, _, Ret.ground g69_5_4 rfl⟩
    · exact ⟨_, _, Ret.ground g69_5_8 rfl⟩
    · exact ⟨_, _, Ret.ground g69_6_2 rfl⟩
    · exact ⟨_, _, Ret.ground g69_6_4 rfl⟩
    · exact ⟨_, _, Ret.ground g69_6_8 rfl⟩
    · exact ⟨_, _, Ret.ground g69_7_2 rfl⟩
    · exact ⟨_, _, Ret.ground g69_7_4 rfl⟩
    · exact ⟨_, _, Ret.ground g69_7_8 rfl⟩
    · exact ⟨_, _, Ret.ground g69_8_2 rfl⟩
    · exact ⟨_, _, Ret.ground g69_8_4 rfl⟩
    · exact ⟨_, _, Ret.ground g69_8_8 rfl⟩
    · exact ⟨_, _, Ret.ground g69_9_2 rfl⟩
    · exact ⟨_, _, Ret.ground g69_9_4 rfl⟩
    · exact ⟨_, _, Ret.ground g69_9_8 rfl⟩
  · rw [if_neg h]
    refine ⟨0, 0, Ret.of fn69 (by simp; decide) ?_⟩
    simp [okMeter] at h
    by_cases h1 : b < 1
    · simp [f69, f69b, i, h1]
    · by_cases h2 : 9 < b
      · simp [f69, f69b, i, h1, h2]
      · have h3 := h (by omega) (by omega)
        have e1 : (u != 2) = true := by simp [h3]
        have e2 : (u != 4) = true := by simp [h3]
        have e3 : (u != 8) = true := by simp [h3]
        simp [f69, f69b, i, h1, h2, e1, e2, e3]
end Go.Abs.C
end

section
/- Frames (2). Conditions: none. -/
namespace Go.Abs.C
open Go Go.Abs
set_option maxRecDepth 10000

/-- A loop that leaves at the first round that is bad (the state behind it by the round's number), or goes through all. -/
theorem _root_.Go.Abs.LoopR.searchJ {T : Tab} {b b' : AC} {hd : ASt → Option ASt} (hb : ∀ st, code T (lim T) b st = (hd st).bind (code T (lim T) b')) (kr kx : List Nat) (inv : Nat → ASt) (n : Nat) (bad : Nat → Prop) {er ex : AExit} {sr : Nat → ASt} {sx : ASt} (hgo : ∀ j, j < n → (∀ k, k ≤ j → ¬ bad k) → goOn hd (code T (lim T) b' (inv j)) = some (inv (j + 1)))
    (hbad : ∀ j, j < n → bad j → (∀ k, k < j → ¬ bad k) → goOut kr (code T (lim T) b' (inv j)) = some (er, sr j)) (hx : (∀ j, j < n → ¬ bad j) → goOut kx (code T (lim T) b' (inv n)) = some (ex, sx)) :
    (∃ st1 j, LoopR T b hd (inv 0) (er, st1) ∧ keepS kr st1 = sr j ∧ j < n ∧ bad j ∧ ∀ k, k < j → ¬ bad k) ∨ ∃ st1, LoopR T b hd (inv 0) (ex, st1) ∧ keepS kx st1 = sx ∧ ∀ j, j < n → ¬ bad j := by
  by_cases h : ∃ j, j < n ∧ bad j
  · left
    have : ∀ m, (∃ j, j < m ∧ j < n ∧ bad j) → ∃ j, j < n ∧ bad j ∧ ∀ k, k < j → ¬ bad k := by
      intro m
      induction m with
      | zero => rintro ⟨j, hj, _⟩; omega
      | succ m ih =>
        rintro ⟨j, hj, hn, hbj⟩
        by_cases hm : ∃ j, j < m ∧ j < n ∧ bad j
        · exact ih hm
        · exact ⟨j, hn, hbj, fun k hk hbk => hm ⟨k, by omega, by omega, hbk⟩⟩
    obtain ⟨j0, hj0, hb0⟩ := h
    obtain ⟨j, hj, hbj, hfirst⟩ := this (j0 + 1) ⟨j0, by omega, hj0, hb0⟩
    obtain ⟨st1, h1, h2, h3⟩ := goOut_inv (hbad j hj hbj hfirst)
    exact ⟨st1, j, .for hb inv j (fun k hk => goOn_inv (hgo k (by omega) fun k' hk' => hfirst k' (by omega))) (.out hb h1 h2), h3, hj, hbj, hfirst⟩
  · right
    have hall : ∀ j, j < n → ¬ bad j := fun j hj hbj => h ⟨j, hj, hbj⟩
    obtain ⟨st1, h1, h2⟩ := LoopR.for' hb kx inv n (fun j hj => hgo j hj fun k hk => hall k (by omega)) (hx hall)
    exact ⟨st1, h1, h2, hall⟩

@[simp] theorem range2 : List.range 2 = [0, 1] := rfl
@[simp] theorem range3 : List.range 3 = [0, 1, 2] := rfl
@[simp] theorem range4 : List.range 4 = [0, 1, 2, 3] := rfl

theorem fn96 : T.fn 96 = some f96 := by rfl
theorem fn63 : T.fn 63 = some f63 := by rfl
theorem fn64 : T.fn 64 = some f64 := by rfl
theorem fn33 : T.fn 33 = some f33 := by rfl
theorem fn44 : T.fn 44 = some f44 := by rfl

def badClef (k : Int) : Bool := k < 1 || 3 < k
theorem bad64 (k : Int) : Ret T 64 [i k] (.bool (badClef k)) := by
  refine Ret.of fn64 (by simp; decide) ?_
  by_cases h1 : k < 1
  · simp [f64, f64b, i, h1, badClef]
  · by_cases h2 : 3 < k <;> simp [f64, f64b, i, h1, h2, badClef]

theorem idx96 (l : List Int) (hl : l.length ≤ 1000) : ∃ r : Int, Ret T 96 [il l, .fn (.func 64) [] []] (i r) ∧ (0 ≤ r ↔ l.any badClef = true) := by
  let inv (j : Nat) : ASt := ⟨[(0, il l), (1, .fn (.func 64) [] []), (7, i l.length), (8, i j)], [], [], 0, 19, none⟩
  have hen : ∀ k H, enter T (lim T) 0 64 [i k] H = some (.ret (.bool (badClef k)), H) := fun k H => enterP (bad64 k) (prim_no (by decide)) (by simp)
  have key := LoopR.searchJ (T := T) (b := f96l0) (b' := body f96l0) (hd := doHint (.keep [0, 1, 7, 8])) head_keep [4] [] inv l.length (fun j => ∃ k, l[j]? = some k ∧ badClef k = true) (er := .ret) (ex := .exit 0) (sr := fun j => ⟨[(4, i j)], [], [], 0, 19, none⟩) (sx := ⟨[], [], [], 0, 19, none⟩)
    (fun j hj hn => ?_) (fun j hj hb _ => ?_) (fun _ => ?_)
  · rcases key with ⟨st1, j, h1, h2, hj, ⟨k, hk, hb⟩, _⟩ | ⟨st1, h1, h2, hno⟩
    · refine ⟨j, Ret.of fn96 (by simp; decide) ?_, ?_⟩
      · simp [LoopR, inv, il, sl, i] at h1 h2
        obtain ⟨g1, g2, g3⟩ := keepS_one h2
        simp [f96, f96b, il, sl, i, h1, g1, g2, g3]
      · have : l.any badClef = true := List.any_eq_true.2 ⟨k, List.mem_of_getElem? hk, hb⟩
        simp [this]
    · refine ⟨-1, Ret.of fn96 (by simp; decide) ?_, ?_⟩
      · simp [LoopR, inv, il, sl, i] at h1 h2
        simp [f96, f96b, il, sl, i, h1, h2]
      · have : l.any badClef = false := by
          rw [Bool.eq_false_iff]
          intro h
          obtain ⟨k, hk, hb⟩ := List.any_eq_true.1 h
          obtain ⟨j, hj, e⟩ := List.getElem_of_mem hk
          exact hno j hj ⟨k, by rw [List.getElem?_eq_getElem hj, e], hb⟩
        simp [this]
  · have hk : l[j]? = some l[j] := List.getElem?_eq_getElem hj
    have hb : badClef l[j] = false := by
      rw [Bool.eq_false_iff]; exact fun h => hn j (Nat.le_refl _) ⟨_, hk, h⟩
    have e1 : List.take 1 (List.drop j (ml i l)) = [i l[j]] := at_map hk
    have hw : IntKind.i64.wrap ((j : Int) + 1) = (j : Int) + 1 := wrap_ok (by omega) (by omega)
    have he := hen l[j]
    simp [i] at he e1
    simp [inv, f96l0, body, il, sl, i, hj, e1, he, hb, hw]
  · obtain ⟨k, hk, hb⟩ := hb
    have e1 : List.take 1 (List.drop j (ml i l)) = [i k] := at_map hk
    have he := hen k
    simp [i] at he e1
    simp [inv, f96l0, body, il, sl, i, hj, e1, he, hb]
  · simp [inv, f96l0, body, il, sl, i]

theorem any63 (l : List Int) (hl : l.length ≤ 1000) : Ret T 63 [il l, .fn (.func 64) [] []] (.bool (l.any badClef)) := by
  obtain ⟨r, h1, h2⟩ := idx96 l hl
  have hen : ∀ H, enter T (lim T) 0 96 [il l, .fn (.func 64) [] []] H = some (.ret (i r), H) := fun H => enterP h1 (prim_no (by decide)) (by simp)
  refine Ret.of fn63 (by simp; decide) ?_
  by_cases hr : 0 ≤ r
  · simp [f63, f63b, i, hen, hr, h2.1 hr]
  · have : l.any badClef = false := by rw [Bool.eq_false_iff]; exact fun h => hr (h2.2 h)
    simp [f63, f63b, i, hen, hr, this]

/-- What is wrong with a frame. -/
def frameErr (c : Case) : Int := if (c.clefs.length : Int) < 1 ∨ 3 < (c.clefs.length : Int) then 40 else if c.clefs.any badClef then 30 else if c.key < -4 ∨ 4 < c.key then 31 else if okMeter c.beats c.unit = false then 32 else if c.bar < 1 ∨ 5 < c.bar then 1 else 0

theorem check33 (c : Case) (hl : c.clefs.length ≤ 1000) : Ret T 33 [.agg (frc c)] (i (frameErr c)) := by
  obtain ⟨p, q, hbar⟩ := bar65 c.beats c.unit
  have hen : ∀ H, enter T (lim T) 0 65 [.agg [i c.beats, i c.unit]] H = _ := fun H => enterP hbar (prim_no (by decide)) (by simp)
  have hen2 : ∀ H, enter T (lim T) 0 63 [il c.clefs, .fn (.func 64) [] []] H = _ := fun H => enterP (any63 c.clefs hl) (prim_no (by decide)) (by simp)
  refine Ret.of fn33 (by simp; decide) ?_
  simp only [i, il, sl] at hen hen2
  by_cases h1 : (c.clefs.length : Int) < 1
  · simp [f33, f33b, frc, i, il, sl, frameErr, h1]
  by_cases h2 : 3 < (c.clefs.length : Int)
  · simp [f33, f33b, frc, i, il, sl, frameErr, h1, h2]
  by_cases h3 : c.clefs.any badClef = true
  · simp [f33, f33b, frc, i, il, sl, frameErr, h1, h2, hen2, h3]
  by_cases h4 : c.key < -4
  · simp [f33, f33b, frc, i, il, sl, frameErr, h1, h2, hen2, h3, h4]
  by_cases h5 : 4 < c.key
  · simp [f33, f33b, frc, i, il, sl, frameErr, h1, h2, hen2, h3, h4, h5]
  by_cases h6 : okMeter c.beats c.unit = true
  · by_cases h7 : c.bar < 1
    · simp [f33, f33b, frc, i, il, sl, frameErr, h1, h2, hen, hen2, h3, h4, h5, h6, h7]
    by_cases h8 : 5 < c.bar
    · simp [f33, f33b, frc, i, il, sl, frameErr, h1, h2, hen, hen2, h3, h4, h5, h6, h7, h8]
    simp [f33, f33b, frc, i, il, sl, frameErr, h1, h2, hen, hen2, h3, h4, h5, h6, h7, h8]
  · simp [f33, f33b, frc, i, il, sl, frameErr, h1, h2, hen, hen2, h3, h4, h5, h6]
end Go.Abs.C
end

section
/- Frames (3): the document's. Conditions: none. -/
namespace Go.Abs.C
open Go Go.Abs
set_option maxRecDepth 10000

theorem any_no {α : Type} {l : List α} {p : α → Bool} (h : ∀ j, j < l.length → ¬ ∃ k, l[j]? = some k ∧ p k = true) : l.any p = false := by
  rw [Bool.eq_false_iff]
  intro hx
  obtain ⟨k, hk, hb⟩ := List.any_eq_true.1 hx
  obtain ⟨j, hj, e⟩ := List.getElem_of_mem hk
  exact h j hj ⟨k, by rw [List.getElem?_eq_getElem hj, e], hb⟩
theorem any_yes {α : Type} {l : List α} {p : α → Bool} {j : Nat} {k : α} (hk : l[j]? = some k) (hb : p k = true) : l.any p = true := List.any_eq_true.2 ⟨k, List.mem_of_getElem? hk, hb⟩
theorem not_bad {α : Type} {l : List α} {p : α → Bool} {j : Nat} (hj : j < l.length) (h : ¬ ∃ k, l[j]? = some k ∧ p k = true) : p l[j] = false := by
  rw [Bool.eq_false_iff]; exact fun hp => h ⟨_, List.getElem?_eq_getElem hj, hp⟩

theorem loop44 (c : Case) (hl : c.clefs.length ≤ 1000) : let inv (j : Nat) : ASt := ⟨[(1, .ptr 0 0), (3, i j)], [.row (frc c)], [], 0, 61, none⟩
    (∃ st1, LoopR T f44l0 (doHint (.keep [1, 3])) (inv 0) (.ret, st1) ∧ keepS [2] st1 = ⟨[(2, i 30)], [.row (frc c)], [], 0, 61, none⟩ ∧ c.clefs.any badClef = true) ∨
    ∃ st1, LoopR T f44l0 (doHint (.keep [1, 3])) (inv 0) (.exit 0, st1) ∧ keepS [1] st1 = ⟨[(1, .ptr 0 0)], [.row (frc c)], [], 0, 61, none⟩ ∧ c.clefs.any badClef = false := by
  intro inv
  have key := LoopR.search (T := T) (b := f44l0) (b' := body f44l0) (hd := doHint (.keep [1, 3])) head_keep [2] [1] inv c.clefs.length (fun j => ∃ k, c.clefs[j]? = some k ∧ badClef k = true) (er := .ret) (ex := .exit 0) (sr := ⟨[(2, i 30)], [.row (frc c)], [], 0, 61, none⟩) (sx := ⟨[(1, .ptr 0 0)], [.row (frc c)], [], 0, 61, none⟩)
    (fun j hj hn => ?_) (fun j hj hb _ => ?_) (fun _ => ?_)
  · rcases key with ⟨st1, h1, h2, j, hj, ⟨k, hk, hb⟩, _⟩ | ⟨st1, h1, h2, hno⟩
    · exact .inl ⟨st1, h1, h2, any_yes hk hb⟩
    · exact .inr ⟨st1, h1, h2, any_no hno⟩
  · have hk : c.clefs[j]? = some c.clefs[j] := List.getElem?_eq_getElem hj
    have hb := not_bad hj (hn j (Nat.le_refl _))
    have e1 : List.take 1 (List.drop j (ml i c.clefs)) = [i c.clefs[j]] := at_map hk
    have hw : IntKind.i64.wrap ((j : Int) + 1) = (j : Int) + 1 := wrap_ok (by omega) (by omega)
    simp [badClef] at hb
    have g1 : ¬ c.clefs[j] < 1 := by omega
    have g2 : ¬ 3 < c.clefs[j] := by omega
    simp [i] at e1
    simp [inv, f44l0, body, frc, il, sl, i, hj, e1, hw, g1, g2]
  · obtain ⟨k, hk, hb⟩ := hb
    have e1 : List.take 1 (List.drop j (ml i c.clefs)) = [i k] := at_map hk
    simp [i] at e1
    by_cases g1 : k < 1
    · simp [inv, f44l0, body, frc, il, sl, i, hj, e1, g1]
    · have g2 : 3 < k := by simp [badClef] at hb; omega
      simp [inv, f44l0, body, frc, il, sl, i, hj, e1, g1, g2]
  · simp [inv, f44l0, body, frc, il, sl, i]

theorem check44 (c : Case) (hl : c.clefs.length ≤ 1000) : Ret T 44 [.agg (frc c)] (i (frameErr c)) := by
  obtain ⟨p, q, hbar⟩ := bar69 c.beats c.unit
  have hen : ∀ H, enter T (lim T) 0 69 [.agg [i c.beats, i c.unit]] H = _ := fun H => enterP hbar (prim_no (by decide)) (by simp)
  refine Ret.of fn44 (by simp; decide) ?_
  simp only [i] at hen
  by_cases h1 : (c.clefs.length : Int) < 1
  · simp [f44, f44b, frc, i, il, sl, frameErr, h1]
  by_cases h2 : 3 < (c.clefs.length : Int)
  · simp [f44, f44b, frc, i, il, sl, frameErr, h1, h2]
  rcases loop44 c hl with ⟨st1, hl, hk, h3⟩ | ⟨st1, hl, hk, h3⟩
  · obtain ⟨g1, g2, g3⟩ := keepS_one hk
    simp [LoopR, frc, i, il, sl] at hl g1 g3
    simp [f44, f44b, frc, i, il, sl, frameErr, h1, h2, h3, hl, g1, g2, g3]
  simp [LoopR, frc, i, il, sl] at hl hk
  by_cases h4 : c.key < -4
  · simp [f44, f44b, frc, i, il, sl, frameErr, h1, h2, hl, hk, h3, h4]
  by_cases h5 : 4 < c.key
  · simp [f44, f44b, frc, i, il, sl, frameErr, h1, h2, hl, hk, h3, h4, h5]
  by_cases h6 : okMeter c.beats c.unit = true
  · by_cases h7 : c.bar < 1
    · simp [f44, f44b, frc, i, il, sl, frameErr, h1, h2, hen, hl, hk, h3, h4, h5, h6, h7]
    by_cases h8 : 5 < c.bar
    · simp [f44, f44b, frc, i, il, sl, frameErr, h1, h2, hen, hl, hk, h3, h4, h5, h6, h7, h8]
    simp [f44, f44b, frc, i, il, sl, frameErr, h1, h2, hen, hl, hk, h3, h4, h5, h6, h7, h8]
  · simp [f44, f44b, frc, i, il, sl, frameErr, h1, h2, hen, hl, hk, h3, h4, h5, h6]
end Go.Abs.C
end

section
/- Searches in rows and options. Conditions: none. -/
namespace Go.Abs.C
open Go Go.Abs
set_option maxRecDepth 10000

theorem fn34 : T.fn 34 = some f34 := by rfl
theorem fn35 : T.fn 35 = some f35 := by rfl
theorem fn37 : T.fn 37 = some f37 := by rfl
theorem fn38 : T.fn 38 = some f38 := by rfl
theorem fn66 : T.fn 66 = some f66 := by rfl
theorem fn68 : T.fn 68 = some f68 := by rfl

def badOpt (o : Opt) : Bool := o.m < 0 || 10000 < o.m
theorem bad38 (o : Opt) : Ret T 38 [.agg (oc o)] (.bool (badOpt o)) := by
  refine Ret.of fn38 (by simp; decide) ?_
  by_cases h1 : o.m < 0
  · simp [f38, f38b, oc, i, h1, badOpt]
  · by_cases h2 : 10000 < o.m <;> simp [f38, f38b, oc, i, h1, h2, badOpt]

theorem idx68 (l : List Opt) (hl : l.length ≤ 1000) : ∃ r : Int, Ret T 68 [os l, .fn (.func 38) [] []] (i r) ∧ (0 ≤ r ↔ l.any badOpt = true) := by
  let inv (j : Nat) : ASt := ⟨[(0, os l), (1, .fn (.func 38) [] []), (7, i l.length), (8, i j)], [], [], 0, 19, none⟩
  have hen : ∀ k H, enter T (lim T) 0 38 [.agg (oc k)] H = some (.ret (.bool (badOpt k)), H) := fun k H => enterP (bad38 k) (prim_no (by decide)) (by simp)
  have key := LoopR.searchJ (T := T) (b := f68l0) (b' := body f68l0) (hd := doHint (.keep [0, 1, 7, 8])) head_keep [4] [] inv l.length (fun j => ∃ k, l[j]? = some k ∧ badOpt k = true) (er := .ret) (ex := .exit 0) (sr := fun j => ⟨[(4, i j)], [], [], 0, 19, none⟩) (sx := ⟨[], [], [], 0, 19, none⟩)
    (fun j hj hn => ?_) (fun j hj hb _ => ?_) (fun _ => ?_)
  · rcases key with ⟨st1, j, h1, h2, hj, ⟨k, hk, hb⟩, _⟩ | ⟨st1, h1, h2, hno⟩
    · refine ⟨j, Ret.of fn68 (by simp; decide) ?_, ?_⟩
      · simp [LoopR, inv, os, sl, i] at h1 h2
        obtain ⟨g1, g2, g3⟩ := keepS_one h2
        simp [f68, f68b, os, sl, i, h1, g1, g2, g3]
      · simp [any_yes hk hb]
    · refine ⟨-1, Ret.of fn68 (by simp; decide) ?_, ?_⟩
      · simp [LoopR, inv, os, sl, i] at h1 h2
        simp [f68, f68b, os, sl, i, h1, h2]
      · simp [any_no hno]
  · have hk : l[j]? = some l[j] := List.getElem?_eq_getElem hj
    have hb := not_bad hj (hn j (Nat.le_refl _))
    have e1 : List.take 2 (List.drop (j * 2) (fl oc l)) = oc l[j] := at_fl len_oc hk
    have hw : IntKind.i64.wrap ((j : Int) + 1) = (j : Int) + 1 := wrap_ok (by omega) (by omega)
    have he := hen l[j]
    simp [inv, f68l0, body, os, sl, i, hj, e1, he, hb, hw]
  · obtain ⟨k, hk, hb⟩ := hb
    have e1 : List.take 2 (List.drop (j * 2) (fl oc l)) = oc k := at_fl len_oc hk
    have he := hen k
    simp [inv, f68l0, body, os, sl, i, hj, e1, he, hb]
  · simp [inv, f68l0, body, os, sl, i]

theorem any37 (l : List Opt) (hl : l.length ≤ 1000) : Ret T 37 [os l, .fn (.func 38) [] []] (.bool (l.any badOpt)) := by
  obtain ⟨r, h1, h2⟩ := idx68 l hl
  have hen : ∀ H, enter T (lim T) 0 68 [os l, .fn (.func 38) [] []] H = some (.ret (i r), H) := fun H => enterP h1 (prim_no (by decide)) (by simp)
  refine Ret.of fn37 (by simp; decide) ?_
  by_cases hr : 0 ≤ r
  · simp [f37, f37b, i, hen, hr, h2.1 hr]
  · have : l.any badOpt = false := by rw [Bool.eq_false_iff]; exact fun h => hr (h2.2 h)
    simp [f37, f37b, i, hen, hr, this]

def oddRow (c : Case) (r : List (List Feat)) : Bool := match c.cells with | [] => false | r0 :: _ => r.length != r0.length
theorem bad35 (c : Case) (r : List (List Feat)) (hc : c.cells ≠ []) : Ret T 35 [rs r, .cptr (cc c)] (.bool (oddRow c r)) := by
  refine Ret.of fn35 (by simp; decide) ?_
  cases hx : c.cells with
  | nil => exact absurd hx hc
  | cons r0 l =>
    have e1 : List.take 1 (ml rs (r0 :: l)) = [rs r0] := by simp [ml]
    by_cases h : r.length = r0.length
    · simp [f35, f35b, cc, cs, rs, sl, hx, e1, h, oddRow]
    · have g1 : (r.length != r0.length) = true := by simp [h]
      have g2 : ((r.length : Int) != r0.length) = true := by simp; omega
      simp [f35, f35b, cc, cs, rs, sl, hx, e1, g1, g2, oddRow]

theorem idx66 (c : Case) (hl : c.cells.length ≤ 1000) : ∃ r : Int, Ret T 66 [cs c.cells, .fn (.func 35) [] [.cptr (cc c)]] (i r) ∧ (0 ≤ r ↔ c.cells.any (oddRow c) = true) := by
  let inv (j : Nat) : ASt := ⟨[(0, cs c.cells), (1, .fn (.func 35) [] [.cptr (cc c)]), (7, i c.cells.length), (8, i j)], [], [], 0, 19, none⟩
  have hen : c.cells ≠ [] → ∀ k H, enter T (lim T) 0 35 [rs k, .cptr (cc c)] H = some (.ret (.bool (oddRow c k)), H) := fun hc k H => enterP (bad35 c k hc) (prim_no (by decide)) (by simp)
  have key := LoopR.searchJ (T := T) (b := f66l0) (b' := body f66l0) (hd := doHint (.keep [0, 1, 7, 8])) head_keep [4] [] inv c.cells.length (fun j => ∃ k, c.cells[j]? = some k ∧ oddRow c k = true) (er := .ret) (ex := .exit 0) (sr := fun j => ⟨[(4, i j)], [], [], 0, 19, none⟩) (sx := ⟨[], [], [], 0, 19, none⟩)
    (fun j hj hn => ?_) (fun j hj hb _ => ?_) (fun _ => ?_)
  · rcases key with ⟨st1, j, h1, h2, hj, ⟨k, hk, hb⟩, _⟩ | ⟨st1, h1, h2, hno⟩
    · refine ⟨j, Ret.of fn66 (by simp; decide) ?_, ?_⟩
      · simp [LoopR, inv, cs, sl, i] at h1 h2
        obtain ⟨g1, g2, g3⟩ := keepS_one h2
        simp [f66, f66b, cs, sl, i, h1, g1, g2, g3]
      · simp [any_yes hk hb]
    · refine ⟨-1, Ret.of fn66 (by simp; decide) ?_, ?_⟩
      · simp [LoopR, inv, cs, sl, i] at h1 h2
        simp [f66, f66b, cs, sl, i, h1, h2]
      · simp [any_no hno]
  · have hk : c.cells[j]? = some c.cells[j] := List.getElem?_eq_getElem hj
    have hb := not_bad hj (hn j (Nat.le_refl _))
    have e1 : List.take 1 (List.drop j (ml rs c.cells)) = [rs c.cells[j]] := at_map hk
    have hw : IntKind.i64.wrap ((j : Int) + 1) = (j : Int) + 1 := wrap_ok (by omega) (by omega)
    have he := hen (by intro h; simp [h] at hj) c.cells[j]
    simp [inv, f66l0, body, cs, sl, i, hj, e1, he, hb, hw]
  · obtain ⟨k, hk, hb⟩ := hb
    have e1 : List.take 1 (List.drop j (ml rs c.cells)) = [rs k] := at_map hk
    have he := hen (by intro h; simp [h] at hj) k
    simp [inv, f66l0, body, cs, sl, i, hj, e1, he, hb]
  · simp [inv, f66l0, body, cs, sl, i]

theorem any34 (c : Case) (hl : c.cells.length ≤ 1000) : Ret T 34 [cs c.cells, .fn (.func 35) [] [.cptr (cc c)]] (.bool (c.cells.any (oddRow c))) := by
  obtain ⟨r, h1, h2⟩ := idx66 c hl
  have hen : ∀ H, enter T (lim T) 0 66 [cs c.cells, .fn (.func 35) [] [.cptr (cc c)]] H = some (.ret (i r), H) := fun H => enterP h1 (prim_no (by decide)) (by simp)
  refine Ret.of fn34 (by simp; decide) ?_
  by_cases hr : 0 ≤ r
  · simp [f34, f34b, i, hen, hr, h2.1 hr]
  · have : c.cells.any (oddRow c) = false := by rw [Bool.eq_false_iff]; exact fun h => hr (h2.2 h)
    simp [f34, f34b, i, hen, hr, this]
end Go.Abs.C
end

section
/- All features: the document's. Conditions: none. -/
namespace Go.Abs.C
open Go Go.Abs
set_option maxRecDepth 10000

def put (s k : Nat) (f : Feat) : Feat := { f with b := s, c := k }
def cellF (s k : Nat) (x : List Feat) : List Feat := x.map (put s k)
def rowF (s : Nat) (r : List (List Feat)) (n : Nat) : List Feat := (r.zipIdx.take n).flatMap fun p => cellF s p.2 p.1
def allF (c : Case) (n : Nat) : List Feat := (c.cells.zipIdx.take n).flatMap fun p => rowF p.2 p.1 p.1.length
def feats (c : Case) : List Feat := allF c c.cells.length

theorem rowF_zero (s : Nat) (r : List (List Feat)) : rowF s r 0 = [] := rfl
theorem allF_zero (c : Case) : allF c 0 = [] := rfl
theorem rowF_succ {s k : Nat} {r : List (List Feat)} {x : List Feat} (h : r[k]? = some x) : rowF s r (k + 1) = rowF s r k ++ cellF s k x := by
  obtain ⟨hk, rfl⟩ := List.getElem?_eq_some_iff.1 h
  have hk' : k < r.zipIdx.length := by simpa using hk
  simp only [rowF]
  rw [← List.take_append_getElem hk', List.flatMap_append]
  simp
theorem allF_succ {s : Nat} {c : Case} {r : List (List Feat)} (h : c.cells[s]? = some r) : allF c (s + 1) = allF c s ++ rowF s r r.length := by
  obtain ⟨hk, rfl⟩ := List.getElem?_eq_some_iff.1 h
  have hk' : s < c.cells.zipIdx.length := by simpa using hk
  simp only [allF]
  rw [← List.take_append_getElem hk', List.flatMap_append]
  simp
theorem fl_append {α : Type} (e : α → List AV) (a b : List α) : fl e (a ++ b) = fl e a ++ fl e b := by simp [fl]
theorem fl_one {α : Type} (e : α → List AV) (a : α) : fl e [a] = e a := by simp [fl]

theorem fn39 : T.fn 39 = some f39 := by rfl
def hd39 : ASt → Option ASt := fun st => (doHint (.keep [1, 3, 4, 5, 6, 7]) st).bind (doHint .norm)

theorem ft0 (c : Case) (acc : List Feat) (s k : Nat) (x : List Feat) (hx : x.length ≤ 1000) (ha : acc.length ≤ 100000) :
    ∃ st1, LoopR T f39l0 hd39 ⟨[(1, .ptr 0 0), (3, accV 1 6 acc.length), (4, i s), (5, i k), (6, fs x), (7, i 0)], [.row (cc c)] ++ accH acc.length (fl fc acc), [], 0, 55, none⟩ (.exit 4, st1) ∧
      keepS [1, 3, 4, 5] st1 = ⟨[(1, .ptr 0 0), (3, accV 1 6 (acc ++ cellF s k x).length), (4, i s), (5, i k)], [.row (cc c)] ++ accH (acc ++ cellF s k x).length (fl fc (acc ++ cellF s k x)), [], 0, 55, none⟩ := by
  let inv (j : Nat) : ASt := ⟨[(1, .ptr 0 0), (3, accV 1 6 (acc ++ cellF s k (x.take j)).length), (4, i s), (5, i k), (6, fs x), (7, i j)], [.row (cc c)] ++ accH (acc ++ cellF s k (x.take j)).length (fl fc (acc ++ cellF s k (x.take j))), [], 0, 55, none⟩
  have key := LoopR.for' (T := T) (b := f39l0) (b' := body2 f39l0) (hd := hd39) head_norm [1, 3, 4, 5] inv x.length (e := .exit 4) (s := ⟨[(1, .ptr 0 0), (3, accV 1 6 (acc ++ cellF s k x).length), (4, i s), (5, i k)], [.row (cc c)] ++ accH (acc ++ cellF s k x).length (fl fc (acc ++ cellF s k x)), [], 0, 55, none⟩) (fun j hj => ?_) ?_
  · obtain ⟨st1, h1, h2⟩ := key
    refine ⟨st1, ?_, h2⟩
    simpa [inv, cellF] using h1
  · have hxj : x[j]? = some x[j] := List.getElem?_eq_getElem hj
    have e1 : List.take 6 (List.drop (j * 6) (fl fc x)) = fc x[j] := at_fl len_fc hxj
    have hw : IntKind.i64.wrap ((j : Int) + 1) = (j : Int) + 1 := wrap_ok (by omega) (by omega)
    have hF : acc ++ cellF s k (x.take (j + 1)) = (acc ++ cellF s k (x.take j)) ++ [put s k x[j]] := by
      simp only [cellF, List.append_assoc]
      rw [← List.take_append_getElem hj, List.map_append]
      rfl
    have hn : (acc ++ cellF s k (x.take j)).length = acc.length + j := by simp [cellF]; omega
    simp only [inv]
    rw [hF]
    generalize acc ++ cellF s k (x.take j) = A at hn
    have hb : (A.length + 1) * 64 ≤ maxLen' := by simp [maxLen']; omega
    by_cases hA : A.length = 0
    · obtain rfl : A = [] := List.length_eq_zero_iff.1 hA
      simp at hb
      simp [accV, accH, f39l0, body2, hd39, fs, sl, i, hj, e1, hb, hw, fl_append, fl_one, cc, fc, put, pures_append]
    · simp [accV, accH, f39l0, body2, hd39, fs, sl, i, hj, e1, hb, hw, fl_append, fl_one, cc, fc, put, hA, pures_append]
  · simp [inv, f39l0, body2, fs, sl, i]

def hd39a : ASt → Option ASt := fun st => (doHint (.keep [1, 3, 4, 5]) st).bind (doHint .norm)
def hd39b : ASt → Option ASt := fun st => (doHint (.keep [1, 3, 4]) st).bind (doHint .norm)

theorem len_rowF {s : Nat} {r : List (List Feat)} (h : ∀ x ∈ r, x.length ≤ 60) (k : Nat) : (rowF s r k).length ≤ k * 60 := by
  induction k with
  | zero => simp [rowF_zero]
  | succ k ih =>
    cases hk : r[k]? with
    | none =>
      have : r.zipIdx.take (k + 1) = r.zipIdx.take k := by
        have := List.getElem?_eq_none_iff.1 hk
        rw [List.take_of_length_le (by simp; omega), List.take_of_length_le (by simp; omega)]
      simp only [rowF] at ih ⊢
      rw [this]; omega
    | some x =>
      have := h x (List.mem_of_getElem? hk)
      rw [rowF_succ hk, List.length_append]
      simp only [cellF, List.length_map]
      omega

theorem ft1 (c : Case) (acc : List Feat) {s : Nat} {r : List (List Feat)} (hr : c.cells[s]? = some r) (hl : r.length ≤ 100) (hx : ∀ x ∈ r, x.length ≤ 60) (ha : acc.length ≤ 50000) :
    ∃ st1, LoopR T f39l1 hd39a ⟨[(1, .ptr 0 0), (3, accV 1 6 acc.length), (4, i s), (5, i 0)], [.row (cc c)] ++ accH acc.length (fl fc acc), [], 0, 55, none⟩ (.exit 2, st1) ∧
      keepS [1, 3, 4] st1 = ⟨[(1, .ptr 0 0), (3, accV 1 6 (acc ++ rowF s r r.length).length), (4, i s)], [.row (cc c)] ++ accH (acc ++ rowF s r r.length).length (fl fc (acc ++ rowF s r r.length)), [], 0, 55, none⟩ := by
  have e0 : List.take 1 (List.drop s (ml rs c.cells)) = [rs r] := at_map hr
  have l0 : s < c.cells.length := (List.getElem?_eq_some_iff.1 hr).1
  let inv (k : Nat) : ASt := ⟨[(1, .ptr 0 0), (3, accV 1 6 (acc ++ rowF s r k).length), (4, i s), (5, i k)], [.row (cc c)] ++ accH (acc ++ rowF s r k).length (fl fc (acc ++ rowF s r k)), [], 0, 55, none⟩
  have key := LoopR.for' (T := T) (b := f39l1) (b' := body2 f39l1) (hd := hd39a) head_norm [1, 3, 4] inv r.length (e := .exit 2) (s := ⟨[(1, .ptr 0 0), (3, accV 1 6 (acc ++ rowF s r r.length).length), (4, i s)], [.row (cc c)] ++ accH (acc ++ rowF s r r.length).length (fl fc (acc ++ rowF s r r.length)), [], 0, 55, none⟩) (fun k hk => ?_) ?_
  · obtain ⟨st1, h1, h2⟩ := key
    refine ⟨st1, ?_, h2⟩
    simpa [inv, rowF_zero] using h1
  · have hrk : r[k]? = some r[k] := List.getElem?_eq_getElem hk
    have e1 : List.take 1 (List.drop k (ml fs r)) = [fs r[k]] := at_map hrk
    have hw : IntKind.i64.wrap ((k : Int) + 1) = (k : Int) + 1 := wrap_ok (by omega) (by omega)
    have hn : (acc ++ rowF s r k).length ≤ 100000 := by have := len_rowF (s := s) hx k; rw [List.length_append]; omega
    obtain ⟨st1, h1, h2⟩ := ft0 c (acc ++ rowF s r k) s k r[k] (by have := hx _ (List.getElem_mem hk); omega) hn
    have h1' : ∀ st, hd39 st = some _ → code T (lim T) (.loop f39l0) st = some _ := h1
    simp only [inv]
    rw [rowF_succ hrk, ← List.append_assoc]
    generalize acc ++ rowF s r k = A at *
    generalize A ++ cellF s k r[k] = B at *
    have hB : hd39a ⟨[(1, .ptr 0 0), (3, accV 1 6 B.length), (4, i s), (5, i (k + 1 : Nat))], [.row (cc c)] ++ accH B.length (fl fc B), [], 0, 55, none⟩ = some ⟨[(1, .ptr 0 0), (3, accV 1 6 B.length), (4, i s), (5, i (k + 1 : Nat))], [.row (cc c)] ++ accH B.length (fl fc B), [], 0, 55, none⟩ := by
      by_cases h : B = [] <;> simp [hd39a, accV, accH, cc, i, h]
    simp [f39l1, body2, cc, cs, rs, sl, i, hk, l0, e0, e1]
    rw [h1']
    · simp [cc, cs, sl, i] at hB h2
      simp [h2, hw]
      exact hB
    · by_cases hA : A = [] <;> simp [hd39, accV, accH, cc, cs, sl, i, hA]
  · simp [inv, f39l1, body2, cc, cs, rs, fs, sl, i, e0, l0]
end Go.Abs.C
end

section
/- All features: the document's (2). Conditions: none. -/
namespace Go.Abs.C
open Go Go.Abs
set_option maxRecDepth 10000

theorem len_allF {c : Case} (hc : Small c) (s : Nat) : (allF c s).length ≤ s * 1500 := by
  induction s with
  | zero => simp [allF_zero]
  | succ s ih =>
    cases hk : c.cells[s]? with
    | none =>
      have : c.cells.zipIdx.take (s + 1) = c.cells.zipIdx.take s := by
        have := List.getElem?_eq_none_iff.1 hk
        rw [List.take_of_length_le (by simp; omega), List.take_of_length_le (by simp; omega)]
      simp only [allF] at ih ⊢
      rw [this]; omega
    | some r =>
      have h1 := hc.row r (List.mem_of_getElem? hk)
      have h2 := len_rowF (s := s) (hc.cell r (List.mem_of_getElem? hk)) r.length
      rw [allF_succ hk, List.length_append]
      omega

theorem ft2 (c : Case) (hc : Small c) :
    ∃ st1, LoopR T f39l2 hd39b ⟨[(1, .ptr 0 0), (3, .nils), (4, i 0)], [.row (cc c)], [], 0, 55, none⟩ (.exit 0, st1) ∧
      keepS [3] st1 = ⟨[(3, accV 1 6 (feats c).length)], [.row (cc c)] ++ accH (feats c).length (fl fc (feats c)), [], 0, 55, none⟩ := by
  let inv (s : Nat) : ASt := ⟨[(1, .ptr 0 0), (3, accV 1 6 (allF c s).length), (4, i s)], [.row (cc c)] ++ accH (allF c s).length (fl fc (allF c s)), [], 0, 55, none⟩
  have key := LoopR.for' (T := T) (b := f39l2) (b' := body2 f39l2) (hd := hd39b) head_norm [3] inv c.cells.length (e := .exit 0) (s := ⟨[(3, accV 1 6 (feats c).length)], [.row (cc c)] ++ accH (feats c).length (fl fc (feats c)), [], 0, 55, none⟩) (fun s hs => ?_) ?_
  · obtain ⟨st1, h1, h2⟩ := key
    refine ⟨st1, ?_, h2⟩
    simpa [inv, allF_zero, accV, accH] using h1
  · have hr : c.cells[s]? = some c.cells[s] := List.getElem?_eq_getElem hs
    have hm := List.getElem_mem hs
    have hw : IntKind.i64.wrap ((s : Int) + 1) = (s : Int) + 1 := wrap_ok (by have := hc.cells; omega) (by have := hc.cells; omega)
    have h4 := hc.cells
    have hn := len_allF hc s
    obtain ⟨st1, h1, h2⟩ := ft1 c (allF c s) hr (by have := hc.row _ hm; omega) (hc.cell _ hm) (by omega)
    have h1' : ∀ st, hd39a st = some _ → code T (lim T) (.loop f39l1) st = some _ := h1
    simp only [inv]
    rw [allF_succ hr]
    generalize allF c s = A at *
    generalize A ++ rowF s c.cells[s] c.cells[s].length = B at *
    have hB : hd39b ⟨[(1, .ptr 0 0), (3, accV 1 6 B.length), (4, i (s + 1 : Nat))], [.row (cc c)] ++ accH B.length (fl fc B), [], 0, 55, none⟩ = some ⟨[(1, .ptr 0 0), (3, accV 1 6 B.length), (4, i (s + 1 : Nat))], [.row (cc c)] ++ accH B.length (fl fc B), [], 0, 55, none⟩ := by
      by_cases h : B = [] <;> simp [hd39b, accV, accH, cc, i, h]
    simp [f39l2, body2, cc, cs, sl, i, hs]
    rw [h1']
    · simp [cc, cs, sl, i] at hB h2
      simp [h2, hw]
      exact hB
    · by_cases hA : A = [] <;> simp [hd39a, accV, accH, cc, cs, sl, i, hA]
  · simp [inv, feats, f39l2, body2, cc, cs, sl, i]

theorem features39 (c : Case) (hc : Small c) : Ret T 39 [.agg (cc c)] (fs (feats c)) := by
  obtain ⟨st1, h1, h2⟩ := ft2 c hc
  have h1' : ∀ st, hd39b st = some _ → code T (lim T) (.loop f39l2) st = some _ := h1
  refine Ret.of fn39 (by simp; decide) ?_
  simp [f39, f39b]
  rw [h1']
  · simp [h2]
    generalize feats c = A
    by_cases h : A = []
    · simp [accV, accH, h]; rfl
    · simp [accV, accH, h]
      exact frz_row (by simp) (by simp) (by simp)
  · simp [hd39b, i, cc]
end Go.Abs.C
end

section
/- The document's check. Conditions: none. -/
namespace Go.Abs.C
open Go Go.Abs
set_option maxRecDepth 10000
theorem fn15 : T.fn 15 = some f15 := by rfl

def noOpt (f : Feat) : Bool := f.o.length == 0
def badFeat (f : Feat) : Bool := f.o.any badOpt
def badWidth (c : Case) : Bool := match c.cells with | [] => false | r :: _ => r.length < 1 || 20 < r.length
/-- What is wrong with a case. -/
def caseErr (c : Case) : Int :=
  if frameErr c ≠ 0 then frameErr c else if c.cells.length ≠ c.clefs.length then 40 else if c.cells.any (oddRow c) then 40 else if badWidth c then 51
  else if (feats c).any noOpt then 6 else if (feats c).any badFeat then 8 else 0

theorem oddRow_eq {c : Case} {r0 : List (List Feat)} (h : c.cells[0]? = some r0) (r : List (List Feat)) : oddRow c r = (r.length != r0.length) := by
  simp only [oddRow]
  cases hx : c.cells with
  | nil => simp [hx] at h
  | cons a l => simp [hx] at h; rw [h]
theorem at_fl1 {α : Type} {e : α → List AV} {w : Nat} (h : ∀ a, (e a).length = w) {l : List α} {j t : Nat} {a : α} (hj : l[j]? = some a) (ht : t < w) : (fl e l)[j * w + t]? = (e a)[t]? := by
  have := congrArg (fun x => x[t]?) (at_fl h hj)
  simp only [List.getElem?_take, List.getElem?_drop, ht, if_true] at this
  exact this

theorem loop15a (c : Case) (hl : c.cells.length ≤ 1000) : let inv (j : Nat) : ASt := ⟨[(1, .ptr 0 0), (4, i j)], [.row (cc c)], [], 0, 109, none⟩
    (∃ st1, LoopR T f15l0 (doHint (.keep [1, 4])) (inv 0) (.ret, st1) ∧ keepS [2] st1 = ⟨[(2, i 40)], [.row (cc c)], [], 0, 109, none⟩ ∧ c.cells.any (oddRow c) = true) ∨
    ∃ st1, LoopR T f15l0 (doHint (.keep [1, 4])) (inv 0) (.exit 0, st1) ∧ keepS [1] st1 = ⟨[(1, .ptr 0 0)], [.row (cc c)], [], 0, 109, none⟩ ∧ c.cells.any (oddRow c) = false := by
  intro inv
  have key := LoopR.search (T := T) (b := f15l0) (b' := body f15l0) (hd := doHint (.keep [1, 4])) head_keep [2] [1] inv c.cells.length (fun j => ∃ k, c.cells[j]? = some k ∧ oddRow c k = true) (er := .ret) (ex := .exit 0) (sr := ⟨[(2, i 40)], [.row (cc c)], [], 0, 109, none⟩) (sx := ⟨[(1, .ptr 0 0)], [.row (cc c)], [], 0, 109, none⟩)
    (fun j hj hn => ?_) (fun j hj hb _ => ?_) (fun _ => ?_)
  · rcases key with ⟨st1, h1, h2, j, hj, ⟨k, hk, hb⟩, _⟩ | ⟨st1, h1, h2, hno⟩
    · exact .inl ⟨st1, h1, h2, any_yes hk hb⟩
    · exact .inr ⟨st1, h1, h2, any_no hno⟩
  · have hk : c.cells[j]? = some c.cells[j] := List.getElem?_eq_getElem hj
    have hb := not_bad hj (hn j (Nat.le_refl _))
    have e1 : List.take 1 (List.drop j (ml rs c.cells)) = [rs c.cells[j]] := at_map hk
    have hw : IntKind.i64.wrap ((j : Int) + 1) = (j : Int) + 1 := wrap_ok (by omega) (by omega)
    have hp : 0 < c.cells.length := by omega
    obtain ⟨r0, h0⟩ : ∃ r0, c.cells[0]? = some r0 := ⟨_, List.getElem?_eq_getElem hp⟩
    have e0 : List.take 1 (ml rs c.cells) = [rs r0] := at_map (e := rs) (j := 0) h0
    rw [oddRow_eq h0] at hb
    have hb2 : c.cells[j].length = r0.length := by simpa using hb
    simp [inv, f15l0, body, cc, cs, rs, sl, i, hj, hp, e0, e1, hw, hb2]
  · obtain ⟨k, hk, hb⟩ := hb
    have e1 : List.take 1 (List.drop j (ml rs c.cells)) = [rs k] := at_map hk
    have hp : 0 < c.cells.length := by omega
    obtain ⟨r0, h0⟩ : ∃ r0, c.cells[0]? = some r0 := ⟨_, List.getElem?_eq_getElem hp⟩
    have e0 : List.take 1 (ml rs c.cells) = [rs r0] := at_map (e := rs) (j := 0) h0
    rw [oddRow_eq h0] at hb
    have hb2 : ((k.length : Int) != (r0.length : Int)) = true := by simp at hb; simp; omega
    simp [inv, f15l0, body, cc, cs, rs, sl, i, hj, hp, e0, e1, hb2]
  · simp [inv, f15l0, body, cc, cs, rs, sl, i]

theorem loop15b (c : Case) (l : List Feat) (hl : l.length ≤ 100000) : let inv (j : Nat) : ASt := ⟨[(5, fs l), (6, i j)], [.row (cc c)], [], 0, 109, none⟩
    (∃ st1, LoopR T f15l1 (doHint (.keep [5, 6])) (inv 0) (.ret, st1) ∧ keepS [2] st1 = ⟨[(2, i 6)], [.row (cc c)], [], 0, 109, none⟩ ∧ l.any noOpt = true) ∨
    ∃ st1, LoopR T f15l1 (doHint (.keep [5, 6])) (inv 0) (.exit 2, st1) ∧ keepS [5] st1 = ⟨[(5, fs l)], [.row (cc c)], [], 0, 109, none⟩ ∧ l.any noOpt = false := by
  intro inv
  have key := LoopR.search (T := T) (b := f15l1) (b' := body f15l1) (hd := doHint (.keep [5, 6])) head_keep [2] [5] inv l.length (fun j => ∃ k, l[j]? = some k ∧ noOpt k = true) (er := .ret) (ex := .exit 2) (sr := ⟨[(2, i 6)], [.row (cc c)], [], 0, 109, none⟩) (sx := ⟨[(5, fs l)], [.row (cc c)], [], 0, 109, none⟩)
    (fun j hj hn => ?_) (fun j hj hb _ => ?_) (fun _ => ?_)
  · rcases key with ⟨st1, h1, h2, j, hj, ⟨k, hk, hb⟩, _⟩ | ⟨st1, h1, h2, hno⟩
    · exact .inl ⟨st1, h1, h2, any_yes hk hb⟩
    · exact .inr ⟨st1, h1, h2, any_no hno⟩
  · have hk : l[j]? = some l[j] := List.getElem?_eq_getElem hj
    have hb := not_bad hj (hn j (Nat.le_refl _))
    have e1 : (fl fc l)[j * 6 + 5]? = some (os l[j].o) := at_fl1 len_fc hk (by omega)
    have hw : IntKind.i64.wrap ((j : Int) + 1) = (j : Int) + 1 := wrap_ok (by omega) (by omega)
    simp [noOpt] at hb
    simp [inv, f15l1, body, fs, os, sl, i, hj, e1, hw, hb]
  · obtain ⟨k, hk, hb⟩ := hb
    have e1 : (fl fc l)[j * 6 + 5]? = some (os k.o) := at_fl1 len_fc hk (by omega)
    simp [noOpt] at hb
    simp [inv, f15l1, body, fs, os, sl, i, hj, e1, hb]
  · simp [inv, f15l1, body, cc, fs, rs, sl, i]
end Go.Abs.C
end

section
/- The document's check (2). Conditions: none. -/
namespace Go.Abs.C
open Go Go.Abs
set_option maxRecDepth 10000

theorem loop15c (c : Case) {l : List Feat} {n : Nat} {f : Feat} (hf : l[n]? = some f) (ho : f.o.length ≤ 1000) : let inv (j : Nat) : ASt := ⟨[(5, fs l), (7, i n), (8, i j)], [.row (cc c)], [], 0, 109, none⟩
    (∃ st1, LoopR T f15l2 (doHint (.keep [5, 7, 8])) (inv 0) (.ret, st1) ∧ keepS [2] st1 = ⟨[(2, i 8)], [.row (cc c)], [], 0, 109, none⟩ ∧ badFeat f = true) ∨
    ∃ st1, LoopR T f15l2 (doHint (.keep [5, 7, 8])) (inv 0) (.exit 6, st1) ∧ keepS [5, 7] st1 = ⟨[(5, fs l), (7, i n)], [.row (cc c)], [], 0, 109, none⟩ ∧ badFeat f = false := by
  intro inv
  have ln : n < l.length := (List.getElem?_eq_some_iff.1 hf).1
  have e1 : (fl fc l)[n * 6 + 5]? = some (os f.o) := at_fl1 len_fc hf (by omega)
  have key := LoopR.search (T := T) (b := f15l2) (b' := body f15l2) (hd := doHint (.keep [5, 7, 8])) head_keep [2] [5, 7] inv f.o.length (fun j => ∃ k, f.o[j]? = some k ∧ badOpt k = true) (er := .ret) (ex := .exit 6) (sr := ⟨[(2, i 8)], [.row (cc c)], [], 0, 109, none⟩) (sx := ⟨[(5, fs l), (7, i n)], [.row (cc c)], [], 0, 109, none⟩)
    (fun j hj hn => ?_) (fun j hj hb _ => ?_) (fun _ => ?_)
  · rcases key with ⟨st1, h1, h2, j, hj, ⟨k, hk, hb⟩, _⟩ | ⟨st1, h1, h2, hno⟩
    · exact .inl ⟨st1, h1, h2, any_yes hk hb⟩
    · exact .inr ⟨st1, h1, h2, any_no hno⟩
  · have hk : f.o[j]? = some f.o[j] := List.getElem?_eq_getElem hj
    have hb := not_bad hj (hn j (Nat.le_refl _))
    have e2 : (fl oc f.o)[j * 2 + 1]? = some (i f.o[j].m) := at_fl1 len_oc hk (by omega)
    have hw : IntKind.i64.wrap ((j : Int) + 1) = (j : Int) + 1 := wrap_ok (by omega) (by omega)
    simp [badOpt] at hb
    have g1 : ¬ f.o[j].m < 0 := by omega
    have g2 : ¬ 10000 < f.o[j].m := by omega
    simp [inv, f15l2, body, fs, os, sl, i, hj, ln, e1, e2, hw, g1, g2]
  · obtain ⟨k, hk, hb⟩ := hb
    have e2 : (fl oc f.o)[j * 2 + 1]? = some (i k.m) := at_fl1 len_oc hk (by omega)
    by_cases g1 : k.m < 0
    · simp [inv, f15l2, body, fs, os, sl, i, hj, ln, e1, e2, g1]
    · have g2 : 10000 < k.m := by simp [badOpt] at hb; omega
      simp [inv, f15l2, body, fs, os, sl, i, hj, ln, e1, e2, g1, g2]
  · simp [inv, f15l2, body, fs, os, sl, i, e1, ln]

theorem loop15d (c : Case) (l : List Feat) (hl : l.length ≤ 100000) (ho : ∀ f ∈ l, f.o.length ≤ 1000) : let inv (j : Nat) : ASt := ⟨[(5, fs l), (7, i j)], [.row (cc c)], [], 0, 109, none⟩
    (∃ st1, LoopR T f15l3 (doHint (.keep [5, 7])) (inv 0) (.ret, st1) ∧ keepS [2] st1 = ⟨[(2, i 8)], [.row (cc c)], [], 0, 109, none⟩ ∧ l.any badFeat = true) ∨
    ∃ st1, LoopR T f15l3 (doHint (.keep [5, 7])) (inv 0) (.exit 4, st1) ∧ keepS [] st1 = ⟨[], [.row (cc c)], [], 0, 109, none⟩ ∧ l.any badFeat = false := by
  intro inv
  have key := LoopR.search (T := T) (b := f15l3) (b' := body f15l3) (hd := doHint (.keep [5, 7])) head_keep [2] [] inv l.length (fun j => ∃ k, l[j]? = some k ∧ badFeat k = true) (er := .ret) (ex := .exit 4) (sr := ⟨[(2, i 8)], [.row (cc c)], [], 0, 109, none⟩) (sx := ⟨[], [.row (cc c)], [], 0, 109, none⟩)
    (fun j hj hn => ?_) (fun j hj hb _ => ?_) (fun _ => ?_)
  · rcases key with ⟨st1, h1, h2, j, hj, ⟨k, hk, hb⟩, _⟩ | ⟨st1, h1, h2, hno⟩
    · exact .inl ⟨st1, h1, h2, any_yes hk hb⟩
    · exact .inr ⟨st1, h1, h2, any_no hno⟩
  · have hk : l[j]? = some l[j] := List.getElem?_eq_getElem hj
    have hb := not_bad hj (hn j (Nat.le_refl _))
    have hw : IntKind.i64.wrap ((j : Int) + 1) = (j : Int) + 1 := wrap_ok (by omega) (by omega)
    rcases loop15c c hk (ho _ (List.getElem_mem hj)) with ⟨st1, h1, h2, h3⟩ | ⟨st1, h1, h2, h3⟩
    · rw [hb] at h3; cases h3
    · simp [LoopR, fs, sl, i] at h1 h2
      simp [inv, f15l3, body, fs, sl, i, hj, hw, h1, h2]
  · obtain ⟨k, hk, hb⟩ := hb
    rcases loop15c c hk (ho _ (List.mem_of_getElem? hk)) with ⟨st1, h1, h2, h3⟩ | ⟨st1, h1, h2, h3⟩
    · simp [LoopR, fs, sl, i] at h1
      simp [inv, f15l3, body, fs, sl, i, hj, h1]
      exact h2
    · rw [hb] at h3; cases h3
  · simp [inv, f15l3, body, fs, os, sl, i]
end Go.Abs.C
end

section
/- The document's check (3). Conditions: none. -/
namespace Go.Abs.C
open Go Go.Abs
set_option maxRecDepth 10000

theorem mem_feats {c : Case} {f : Feat} (h : f ∈ feats c) : ∃ r ∈ c.cells, ∃ x ∈ r, ∃ g ∈ x, f.o = g.o := by
  have hz : ∀ {α : Type} {l : List α} {a : α} {s n : Nat}, (a, s) ∈ l.zipIdx.take n → a ∈ l := fun {α l a s n} hm => by
    have := List.mem_of_mem_take hm
    exact (List.mem_zipIdx this).2.2 ▸ List.getElem_mem _
  simp only [feats, allF, List.mem_flatMap] at h
  obtain ⟨⟨r, s⟩, hr, h⟩ := h
  simp only [rowF, List.mem_flatMap] at h
  obtain ⟨⟨x, k⟩, hx, h⟩ := h
  simp only [cellF, List.mem_map] at h
  obtain ⟨g, hg, rfl⟩ := h
  exact ⟨r, hz hr, x, hz hx, g, hg, rfl⟩
theorem len_feats {c : Case} (hc : Small c) : (feats c).length ≤ 6000 := by
  have := len_allF hc c.cells.length
  have := hc.cells
  simp only [feats]; omega

theorem check15 (c : Case) (hc : Small c) : Ret T 15 [.agg (cc c)] (i (caseErr c)) := by
  have hl1 := hc.clefs
  have hl2 := hc.cells
  have hl3 := len_feats hc
  have en44 : ∀ H, enter T (lim T) 0 44 [.agg (frc c)] H = _ := fun H => enterP (check44 c (by omega)) (prim_no (by decide)) (by simp)
  have en39 : ∀ H, enter T (lim T) 0 39 [.agg (cc c)] H = _ := fun H => enterP (features39 c hc) (prim_no (by decide)) (by simp)
  refine Ret.of fn15 (by simp; decide) ?_
  simp only [i, frc, cc] at en44 en39
  by_cases h0 : frameErr c = 0
  case neg =>
    have g0 : (frameErr c != 0) = true := by simp [h0]
    simp [f15, f15b, cc, i, caseErr, en44, h0, g0]
  by_cases h1 : c.cells.length = c.clefs.length
  case neg =>
    have g1 : ¬ ((c.cells.length : Int) = (c.clefs.length : Int)) := by omega
    simp [h0] at en44
    simp [f15, f15b, cc, cs, il, sl, i, caseErr, h0, h1, g1] at en44 ⊢
    simp [en44, g1]
  have hp : 0 < c.cells.length := by
    have : ¬ (c.clefs.length : Int) < 1 := by
      intro h
      simp [frameErr, h] at h0
    omega
  obtain ⟨r0, hr0⟩ : ∃ r0, c.cells[0]? = some r0 := ⟨_, List.getElem?_eq_getElem hp⟩
  have e0 : List.take 1 (ml rs c.cells) = [rs r0] := at_map (e := rs) (j := 0) hr0
  have hbw : badWidth c = (decide (r0.length < 1) || decide (20 < r0.length)) := by
    simp only [badWidth]
    cases hx : c.cells with
    | nil => simp [hx] at hr0
    | cons a l => simp [hx] at hr0; rw [hr0]
  have c0 : (c.cells.length : Int) = (c.clefs.length : Int) := by omega
  have c1 := eq_true c0
  have c2 : ((c.cells.length : Int) != (c.clefs.length : Int)) = false := by simp [c0]
  have c3 := eq_true h1
  simp only [h0] at en44
  rcases loop15a c (by omega) with ⟨st1, a1, a2, a3⟩ | ⟨st1, a1, a2, a3⟩
  · obtain ⟨g1, g2, g3⟩ := keepS_one a2
    simp [LoopR, cc, cs, il, sl, i] at a1 g1 en44
    simp [f15, f15b, cc, cs, il, sl, i, caseErr, h0, c1, c2, c3, en44, a1, a3, g1, g2, g3]
  simp [LoopR, cc, cs, il, sl, i] at a1 a2 en44
  by_cases w1 : (r0.length : Int) < 1
  · have w0 : badWidth c = true := by rw [hbw]; simp; left; cases r0 with | nil => rfl | cons a l => simp at w1; omega
    simp [f15, f15b, cc, cs, rs, il, sl, i, caseErr, h0, c1, c2, c3, en44, a1, a2, a3, e0, hp, w1, w0]
  by_cases w2 : 20 < (r0.length : Int)
  · have w0 : badWidth c = true := by rw [hbw]; simp; omega
    simp [f15, f15b, cc, cs, rs, il, sl, i, caseErr, h0, c1, c2, c3, en44, a1, a2, a3, e0, hp, w1, w2, w0]
  have w0 : badWidth c = false := by
    rw [hbw]; simp; constructor
    · intro h; subst h; simp at w1
    · omega
  simp [cs, il, sl] at en39
  rcases loop15b c (feats c) (by omega) with ⟨st2, b1, b2, b3⟩ | ⟨st2, b1, b2, b3⟩
  · obtain ⟨g1, g2, g3⟩ := keepS_one b2
    simp [LoopR, cc, cs, il, sl, i] at b1 g1
    simp [f15, f15b, cc, cs, rs, il, sl, i, caseErr, h0, c1, c2, c3, en44, a1, a2, a3, e0, hp, w1, w2, w0, en39, b1, b3, g1, g2, g3]
  simp [LoopR, cc, cs, il, sl, i] at b1 b2
  rcases loop15d c (feats c) (by omega) (fun f hf => by
      obtain ⟨r, hr, x, hx, g, hg, e⟩ := mem_feats hf
      rw [e]; have := hc.opts r hr x hx g hg; omega) with ⟨st3, d1, d2, d3⟩ | ⟨st3, d1, d2, d3⟩
  · obtain ⟨g1, g2, g3⟩ := keepS_one d2
    simp [LoopR, cc, cs, il, sl, i] at d1 g1
    simp [f15, f15b, cc, cs, rs, il, sl, i, caseErr, h0, c1, c2, c3, en44, a1, a2, a3, e0, hp, w1, w2, w0, en39, b1, b2, b3, d1, d3, g1, g2, g3]
  · simp [LoopR, cc, cs, il, sl, i] at d1 d2
    simp [f15, f15b, cc, cs, rs, il, sl, i, caseErr, h0, c1, c2, c3, en44, a1, a2, a3, e0, hp, w1, w2, w0, en39, b1, b2, b3, d1, d2, d3]
end Go.Abs.C
end

section
/- The document's count. Conditions: none. -/
namespace Go.Abs.C
open Go Go.Abs
set_option maxRecDepth 10000
theorem keepS_two {t u : Nat} {v w : AV} {st1 : ASt} {H : List AB} {d : List ADf} {b n : Nat} {r : Option Nat} (h : keepS [t, u] st1 = ⟨[(t, v), (u, w)], H, d, b, n, r⟩) (htu : t ≠ u) : st1.H = H ∧ st1.dfs = d ∧ st1.env.get t = some v ∧ st1.env.get u = some w := by
  simp only [keepS, Env.keep, ASt.mk.injEq] at h
  obtain ⟨h1, h2, h3, _⟩ := h
  refine ⟨h2, h3, ?_⟩
  cases e1 : st1.env.get t <;> cases e2 : st1.env.get u <;> simp [e1, e2] at h1
  exact ⟨by rw [h1.1], by rw [h1.2]⟩
theorem fn12 : T.fn 12 = some f12 := by rfl

def prod (l : List Feat) (j : Nat) : Nat := (l.take j).foldl (fun n f => n * f.o.length) 1
theorem prod_succ {l : List Feat} {j : Nat} {f : Feat} (h : l[j]? = some f) : prod l (j + 1) = prod l j * f.o.length := by
  obtain ⟨hk, rfl⟩ := List.getElem?_eq_some_iff.1 h
  simp only [prod]
  rw [← List.take_append_getElem hk, List.foldl_append]
  rfl
def over (l : List Feat) : Bool := (List.range l.length).any fun j => decide (4096 < prod l (j + 1))
def countN (c : Case) : Int := if caseErr c ≠ 0 then 0 else if over (feats c) then 0 else prod (feats c) (feats c).length
def countE (c : Case) : Int := if caseErr c ≠ 0 then caseErr c else if over (feats c) then 70 else 0

theorem prod_le {l : List Feat} {j : Nat} (h : ∀ k, k < j → ¬ 4096 < prod l (k + 1)) : prod l j ≤ 4096 := by
  cases j with
  | zero => simp [prod]
  | succ j => have := h j (Nat.lt_succ_self j); omega

theorem mul_ok {a b : Nat} (h1 : a ≤ 4096) (h2 : b ≤ 1000) : IntKind.i64.wrap ((a : Int) * (b : Int)) = ((a * b : Nat) : Int) ∧ a * b ≤ 4096000 := by
  have h : a * b ≤ 4096 * 1000 := Nat.mul_le_mul h1 h2
  refine ⟨?_, h⟩
  rw [← Int.natCast_mul]
  exact wrap_ok (by omega) (by omega)

theorem loop12 (c : Case) (l : List Feat) (hl : l.length ≤ 100000) (ho : ∀ f ∈ l, f.o.length ≤ 1000) :
    (∃ st1, LoopR T f12l0 (doHint (.keep [5, 6, 7])) ⟨[(5, i 1), (6, fs l), (7, i 0)], [.row (cc c)], [], 0, 32, none⟩ (.ret, st1) ∧ keepS [2, 3] st1 = ⟨[(2, i 0), (3, i 70)], [.row (cc c)], [], 0, 32, none⟩ ∧ over l = true) ∨
    ∃ st1, LoopR T f12l0 (doHint (.keep [5, 6, 7])) ⟨[(5, i 1), (6, fs l), (7, i 0)], [.row (cc c)], [], 0, 32, none⟩ (.exit 0, st1) ∧ keepS [5] st1 = ⟨[(5, i (prod l l.length))], [.row (cc c)], [], 0, 32, none⟩ ∧ over l = false := by
  let inv (j : Nat) : ASt := ⟨[(5, i (prod l j)), (6, fs l), (7, i j)], [.row (cc c)], [], 0, 32, none⟩
  have key := LoopR.search (T := T) (b := f12l0) (b' := body f12l0) (hd := doHint (.keep [5, 6, 7])) head_keep [2, 3] [5] inv l.length (fun j => 4096 < prod l (j + 1)) (er := .ret) (ex := .exit 0) (sr := ⟨[(2, i 0), (3, i 70)], [.row (cc c)], [], 0, 32, none⟩) (sx := ⟨[(5, i (prod l l.length))], [.row (cc c)], [], 0, 32, none⟩)
    (fun j hj hn => ?_) (fun j hj hb hn => ?_) (fun _ => ?_)
  · rcases key with ⟨st1, h1, h2, j, hj, hb, _⟩ | ⟨st1, h1, h2, hno⟩
    · exact .inl ⟨st1, h1, h2, List.any_eq_true.2 ⟨j, List.mem_range.2 hj, by simpa using hb⟩⟩
    · refine .inr ⟨st1, h1, h2, ?_⟩
      rw [Bool.eq_false_iff]
      intro h
      obtain ⟨j, hj, hb⟩ := List.any_eq_true.1 h
      exact hno j (List.mem_range.1 hj) (by simpa using hb)
  · have hk : l[j]? = some l[j] := List.getElem?_eq_getElem hj
    have e1 : (fl fc l)[j * 6 + 5]? = some (os l[j].o) := at_fl1 len_fc hk (by omega)
    have hw : IntKind.i64.wrap ((j : Int) + 1) = (j : Int) + 1 := wrap_ok (by omega) (by omega)
    have hp := prod_le (l := l) (j := j) (fun k hk => hn k (by omega))
    have hs := prod_succ hk
    have hq := hn j (Nat.le_refl _)
    have hm := (mul_ok hp (ho _ (List.getElem_mem hj))).1
    rw [← hs] at hm
    have hq2 : ¬ (4096 : Int) < (prod l (j + 1) : Int) := by omega
    simp [inv, f12l0, body, fs, os, sl, i, hj, e1, hw, hm, hq2]
  · have hk : l[j]? = some l[j] := List.getElem?_eq_getElem hj
    have e1 : (fl fc l)[j * 6 + 5]? = some (os l[j].o) := at_fl1 len_fc hk (by omega)
    have hp := prod_le (l := l) (j := j) (fun k hk => hn k (by omega))
    have hs := prod_succ hk
    have hm := (mul_ok hp (ho _ (List.getElem_mem hj))).1
    rw [← hs] at hm
    have hq2 : (4096 : Int) < (prod l (j + 1) : Int) := by omega
    simp [inv, f12l0, body, fs, os, sl, i, hj, e1, hm, hq2]
  · simp [inv, f12l0, body, fs, os, sl, i]

theorem count12 (c : Case) (hc : Small c) : Ret T 12 [.agg (cc c)] (.tup [i (countN c), i (countE c)]) := by
  have hl3 := len_feats hc
  have en15 : ∀ H, enter T (lim T) 0 15 [.agg (cc c)] H = _ := fun H => enterP (check15 c hc) (prim_no (by decide)) (by simp)
  have en39 : ∀ H, enter T (lim T) 0 39 [.agg (cc c)] H = _ := fun H => enterP (features39 c hc) (prim_no (by decide)) (by simp)
  refine Ret.of fn12 (by simp; decide) ?_
  simp only [i, cc] at en15 en39
  by_cases h0 : caseErr c = 0
  case neg =>
    have g0 : (caseErr c != 0) = true := by simp [h0]
    simp [f12, f12b, cc, i, countN, countE, en15, h0, g0]
  simp only [h0] at en15
  rcases loop12 c (feats c) (by omega) (fun f hf => by
      obtain ⟨r, hr, x, hx, g, hg, e⟩ := mem_feats hf
      rw [e]; have := hc.opts r hr x hx g hg; omega) with ⟨st1, a1, a2, a3⟩ | ⟨st1, a1, a2, a3⟩
  · simp [LoopR, cc, i] at a1 a2
    obtain ⟨g1, g2, g3, g4⟩ := keepS_two a2 (by decide)
    simp [f12, f12b, cc, i, countN, countE, en15, en39, h0, a1, a3, g1, g2, g3, g4]
  · simp [LoopR, cc, i] at a1 a2
    simp [f12, f12b, cc, i, countN, countE, en15, en39, h0, a1, a2, a3]
end Go.Abs.C
end

section
/- Blocks of a frame's own that are no longer used go. Conditions: none. -/
namespace Go.Abs

mutual
theorem ren_own {f : Nat → Option Nat} : ∀ {v : AV}, (∀ b ∈ v.ids, f b = some b) → v.ren f = some v
  | .ptr b _, h | .msl b _ _ _, h | .gsl b _ _, h | .mp b, h | .yld b, h => by have := h b (by simp [AV.ids]); simp [AV.ren, this]
  | .cptr cs, h | .csl cs _ _ _, h | .agg cs, h | .tup cs, h => by
    have := rens_own (l := cs) (by simpa [AV.ids] using h)
    simp [AV.ren, this]
  | .fn _ a b, h => by
    have h1 := rens_own (l := a) (fun x hx => h x (by simp [AV.ids, hx]))
    have h2 := rens_own (l := b) (fun x hx => h x (by simp [AV.ids, hx]))
    simp [AV.ren, h1, h2]
  | .iface _ v, h => by
    have := ren_own (v := v) (by simpa [AV.ids] using h)
    simp [AV.ren, this]
  | .bool _, _ | .int _ _, _ | .str _, _ | .nilp, _ | .nils, _ | .nilm, _ | .nilf, _ | .nili, _ => by simp [AV.ren]
theorem rens_own {f : Nat → Option Nat} : ∀ {l : List AV}, (∀ b ∈ AV.idss l, f b = some b) → AV.rens f l = some l
  | [], _ => rfl
  | v :: l, h => by
    have h1 := ren_own (v := v) (fun x hx => h x (by simp [AV.idss, hx]))
    have h2 := rens_own (l := l) (fun x hx => h x (by simp [AV.idss, hx]))
    simp [AV.rens, h1, h2]
end

theorem optAll_own {f : AV → Option AV} {l : List AV} (h : ∀ v ∈ l, f v = some v) : optAll f l = some l := by
  induction l with
  | nil => rfl
  | cons v l ih => simp [optAll, h v (by simp), ih (fun w hw => h w (by simp [hw]))]
theorem idss_mem {l : List AV} {v : AV} (hv : v ∈ l) {b : Nat} (hb : b ∈ v.ids) : b ∈ AV.idss l := by
  induction l with
  | nil => simp at hv
  | cons w l ih =>
    simp only [AV.idss, List.mem_append]
    rcases List.mem_cons.1 hv with rfl | h
    · exact .inl hb
    · exact .inr (ih h)
theorem rensP_own {f : Nat → Option Nat} {l : List AV} (h : ∀ b ∈ idsP l, f b = some b) : rensP f l = some l := by
  unfold rensP
  split
  · rfl
  · rename_i hp
    simp only [idsP, if_neg hp] at h
    refine optAll_own fun v hv => ?_
    unfold AV.renP
    split
    · rfl
    · exact ren_own fun b hb => h b (idss_mem hv hb)
theorem zip_keys {α β : Type} (l : List (α × β)) : (l.map (·.1)).zip (l.map (·.2)) = l := by
  induction l with
  | nil => rfl
  | cons a l ih => simp [ih]
theorem renB_own {f : Nat → Option Nat} {B : AB} (h : ∀ b ∈ B.ids, f b = some b) : renB f B = some B := by
  cases B with
  | row cs => simp only [AB.ids] at h; simp only [renB, rensP_own h, Option.map_some]
  | map es =>
    simp only [AB.ids, List.mem_append] at h
    have h1 := rensP_own (f := f) (l := es.map (·.1)) fun b hb => h b (.inl hb)
    have h2 := rensP_own (f := f) (l := es.map (·.2)) fun b hb => h b (.inr hb)
    simp only [renB, h1, h2, Option.bind_some, Option.map_some, zip_keys]
  | loop r => simp only [AB.ids] at h; simp only [renB, rensP_own h, Option.map_some, zip_keys]
  | dead => rfl
  | dfr => rfl

theorem visit_none {H : List AB} {base : Nat} : ∀ (n : Nat) (l : List Nat), (∀ b ∈ l, b < base) → visit H base n l [] = []
  | 0, _, _ => by simp [visit]
  | n + 1, [], _ => by simp [visit]
  | n + 1, b :: l, h => by
    have hb := h b (by simp)
    simp only [visit, hb, decide_true, Bool.true_or, if_true]
    exact visit_none n l fun x hx => h x (by simp [hx])

theorem norm_own {env : Env} {M J : List AB} {nt : Nat} {ro : Option Nat} {n : Nat} (hn : M.length = n) (he : ∀ b ∈ idsP (env.map (·.2)), b < n) (hM : ∀ B ∈ M, ∀ b ∈ B.ids, b < n) :
    norm ⟨env, M ++ J, [], n, nt, ro⟩ = some ⟨env, M, [], n, nt, ro⟩ := by
  subst hn
  unfold norm
  simp only
  split
  · rename_i h
    have : J = [] := by
      cases J with
      | nil => rfl
      | cons a l => simp at h; omega
    subst this; simp
  · have ht : (M ++ J).take M.length = M := by simp
    rw [ht, visit_none _ _ (fun b hb => by
      simp only [List.flatMap_nil, List.append_nil, List.mem_append, List.mem_flatMap] at hb
      rcases hb with hb | ⟨B, hB, hb⟩
      · exact he b hb
      · exact hM B hB b hb)]
    have hf : ∀ b, b < M.length → (if b < M.length then some b else (List.findIdx? (fun x => x == b) ([] : List Nat)).map (· + M.length)) = some b := fun b hb => by rw [if_pos hb]
    rw [rensP_own (fun b hb => hf b (he b hb))]
    have : optAll (renB fun b => if b < M.length then some b else (List.findIdx? (fun x => x == b) ([] : List Nat)).map (· + M.length)) M = some M := by
      have : ∀ l : List AB, (∀ B ∈ l, ∀ b ∈ B.ids, b < M.length) → optAll (renB fun b => if b < M.length then some b else (List.findIdx? (fun x => x == b) ([] : List Nat)).map (· + M.length)) l = some l := by
        intro l hl
        induction l with
        | nil => rfl
        | cons B l ih => simp only [optAll, renB_own (fun b hb => hf b (hl B (by simp) b hb)), ih (fun C hC => hl C (by simp [hC])), Option.bind_some, Option.map_some]
      exact this M hM
    simp only [Option.bind_some, List.map_nil, List.append_nil, this, optAll, Option.map_some, zip_keys]
end Go.Abs
end

section
/- All features, one after the other: the program's. Conditions: none. -/
namespace Go.Abs.C
open Go Go.Abs
set_option maxRecDepth 10000

theorem _root_.Go.Abs.LoopR.searchQ {T : Tab} {b b' : AC} {hd : ASt → Option ASt} (hb : ∀ st, code T (lim T) b st = (hd st).bind (code T (lim T) b')) (kx : List Nat) (inv : Nat → ASt) (n : Nat) (bad : Nat → Prop) (Q : ASt → Prop) {er ex : AExit} {sx : ASt} (her : er ≠ .normal) (hgo : ∀ j, j < n → (∀ k, k ≤ j → ¬ bad k) → goOn hd (code T (lim T) b' (inv j)) = some (inv (j + 1)))
    (hbad : ∀ j, j < n → bad j → (∀ k, k < j → ¬ bad k) → ∃ st1, code T (lim T) b' (inv j) = some (er, st1) ∧ Q st1) (hx : (∀ j, j < n → ¬ bad j) → goOut kx (code T (lim T) b' (inv n)) = some (ex, sx)) :
    (∃ st1, LoopR T b hd (inv 0) (er, st1) ∧ Q st1 ∧ ∃ j, j < n ∧ bad j ∧ ∀ k, k < j → ¬ bad k) ∨ ∃ st1, LoopR T b hd (inv 0) (ex, st1) ∧ keepS kx st1 = sx ∧ ∀ j, j < n → ¬ bad j := by
  by_cases h : ∃ j, j < n ∧ bad j
  · left
    have : ∀ m, (∃ j, j < m ∧ j < n ∧ bad j) → ∃ j, j < n ∧ bad j ∧ ∀ k, k < j → ¬ bad k := by
      intro m
      induction m with
      | zero => rintro ⟨j, hj, _⟩; omega
      | succ m ih =>
        rintro ⟨j, hj, hn, hbj⟩
        by_cases hm : ∃ j, j < m ∧ j < n ∧ bad j
        · exact ih hm
        · exact ⟨j, hn, hbj, fun k hk hbk => hm ⟨k, by omega, by omega, hbk⟩⟩
    obtain ⟨j0, hj0, hb0⟩ := h
    obtain ⟨j, hj, hbj, hfirst⟩ := this (j0 + 1) ⟨j0, by omega, hj0, hb0⟩
    obtain ⟨st1, h1, h2⟩ := hbad j hj hbj hfirst
    exact ⟨st1, .for hb inv j (fun k hk => goOn_inv (hgo k (by omega) fun k' hk' => hfirst k' (by omega))) (.out hb h1 her), h2, j, hj, hbj, hfirst⟩
  · right
    have hall : ∀ j, j < n → ¬ bad j := fun j hj hbj => h ⟨j, hj, hbj⟩
    obtain ⟨st1, h1, h2⟩ := LoopR.for' hb kx inv n (fun j hj => hgo j hj fun k hk => hall k (by omega)) (hx hall)
    exact ⟨st1, h1, h2, hall⟩

def orgRow (r : List (List Feat)) (k : Nat) : List Feat := (r.take k).flatten
def orgAll (c : Case) (s : Nat) : List Feat := (c.cells.take s).flatMap List.flatten
def origs (c : Case) : List Feat := c.cells.flatMap List.flatten

theorem org_at {c : Case} {s k j : Nat} {r : List (List Feat)} {x : List Feat} {f : Feat} (hr : c.cells[s]? = some r) (hx : r[k]? = some x) (hf : x[j]? = some f) : (origs c)[(orgAll c s).length + (orgRow r k).length + j]? = some f := by
  have e1 : origs c = orgAll c s ++ (r.flatten ++ (c.cells.drop (s + 1)).flatMap List.flatten) := by
    obtain ⟨hs, rfl⟩ := List.getElem?_eq_some_iff.1 hr
    have : c.cells = c.cells.take s ++ (c.cells[s] :: c.cells.drop (s + 1)) := by rw [← List.drop_eq_getElem_cons hs, List.take_append_drop]
    conv => lhs; rw [origs, this]
    simp only [orgAll, List.flatMap_append, List.flatMap_cons]
  have e2 : r.flatten = orgRow r k ++ (x ++ (r.drop (k + 1)).flatten) := by
    obtain ⟨hs, rfl⟩ := List.getElem?_eq_some_iff.1 hx
    have : r = r.take k ++ (r[k] :: r.drop (k + 1)) := by rw [← List.drop_eq_getElem_cons hs, List.take_append_drop]
    conv => lhs; rw [this]
    simp only [orgRow, List.flatten_append, List.flatten_cons]
  rw [e1, e2, Nat.add_assoc, List.getElem?_append_right (by omega)]
  have : (orgAll c s).length + ((orgRow r k).length + j) - (orgAll c s).length = (orgRow r k).length + j := by omega
  rw [this, List.append_assoc, List.getElem?_append_right (by omega)]
  have : (orgRow r k).length + j - (orgRow r k).length = j := by omega
  have hj := (List.getElem?_eq_some_iff.1 hf).1
  rw [this, List.append_assoc, List.getElem?_append_left hj, hf]

/-- What a body that is handed all features does, where it goes on before number g. -/
structure Yl (c : Case) (b n g : Nat) (M : Nat → List AB) (Z : List AB) : Prop where
  len : ∀ j, (M j).length = n
  bn : b < n
  ids : ∀ j, ∀ B ∈ M j, ∀ x ∈ B.ids, x < n
  go : ∀ j f J P, (origs c)[j]? = some f → j < g → round (lim T) b [.agg P, .agg (fc f)] (M j ++ J) = some (.ret (.bool true), M (j + 1) ++ (J ++ [.row (fc f)]))
  out : ∀ f J P, (origs c)[g]? = some f → round (lim T) b [.agg P, .agg (fc f)] (M g ++ J) = some (.ret (.bool false), Z ++ (J ++ [.row (fc f)]))

theorem fn67 : T.fn 67 = some f67 := by rfl
def hd67a : ASt → Option ASt := fun st => (doHint (.keep [0, 3, 5, 11, 12, 13, 18, 19, 20, 25, 26, 27]) st).bind (doHint .norm)

theorem get_at {M l : List AB} {n : Nat} {a : AB} (h : M.length = n) : (M ++ a :: l)[n]? = some a := by subst h; simp
theorem get_at1 {M l : List AB} {n : Nat} {a a' : AB} (h : M.length = n) : (M ++ a :: a' :: l)[n + 1]? = some a' := by subst h; simp [List.getElem?_append_right]
theorem set_at {M l : List AB} {n : Nat} {a v : AB} (h : M.length = n) : (M ++ a :: l).set n v = M ++ v :: l := by subst h; simp [List.set_append_right]
theorem set_at1 {M l : List AB} {n : Nat} {a a' v : AB} (h : M.length = n) : (M ++ a :: a' :: l).set (n + 1) v = M ++ a :: v :: l := by subst h; simp [List.set_append_right]

theorem y0 {c : Case} {b n g : Nat} {M : Nat → List AB} {Z : List AB} (Y : Yl c b n g M Z) {s k off : Nat} {r : List (List Feat)} {x : List Feat} (hx : x.length ≤ 1000) (ho : ∀ j f, x[j]? = some f → (origs c)[off + j]? = some f) (hoff : off ≤ g) :
    let inv (j : Nat) : ASt := ⟨[(0, .yld b), (3, i s), (5, i k), (11, cs c.cells), (12, i c.cells.length), (13, i s), (18, rs r), (19, i r.length), (20, i k), (25, fs x), (26, i x.length), (27, i j)], M (off + j), [], n, 45, none⟩
    (∃ st1, LoopR T f67l0 hd67a (inv 0) (.ret, st1) ∧ (st1.dfs = [] ∧ ∃ J, st1.H = Z ++ J) ∧ g < off + x.length) ∨
    ∃ st1, LoopR T f67l0 hd67a (inv 0) (.exit 4, st1) ∧ keepS [0, 3, 11, 12, 13, 18, 19, 20] st1 = ⟨[(0, .yld b), (3, i s), (11, cs c.cells), (12, i c.cells.length), (13, i s), (18, rs r), (19, i r.length), (20, i k)], M (off + x.length), [], n, 45, none⟩ ∧ off + x.length ≤ g := by
  intro inv
  have key := LoopR.searchQ (T := T) (b := f67l0) (b' := body2 f67l0) (hd := hd67a) head_norm [0, 3, 11, 12, 13, 18, 19, 20] inv x.length (fun j => off + j = g) (fun st1 => st1.dfs = [] ∧ ∃ J, st1.H = Z ++ J) (er := .ret) (ex := .exit 4) (sx := ⟨[(0, .yld b), (3, i s), (11, cs c.cells), (12, i c.cells.length), (13, i s), (18, rs r), (19, i r.length), (20, i k)], M (off + x.length), [], n, 45, none⟩) (by simp)
    (fun j hj hn => ?_) (fun j hj hb hn => ?_) (fun _ => ?_)
  · rcases key with ⟨st1, h1, h2, j, hj, hb, _⟩ | ⟨st1, h1, h2, hno⟩
    · exact .inl ⟨st1, h1, h2, by omega⟩
    · refine .inr ⟨st1, h1, h2, ?_⟩
      by_cases h : off + x.length ≤ g
      · exact h
      · exact absurd (show off + (g - off) = g by omega) (hno (g - off) (by omega))
  · have hk : x[j]? = some x[j] := List.getElem?_eq_getElem hj
    have e1 : List.take 6 (List.drop (j * 6) (fl fc x)) = fc x[j] := at_fl len_fc hk
    have hw : IntKind.i64.wrap ((j : Int) + 1) = (j : Int) + 1 := wrap_ok (by omega) (by omega)
    have hlt : off + j < g := by
      rcases Nat.lt_or_ge (off + j) g with h | h
      · exact h
      · exact absurd (show off + (g - off) = g by omega) (hn (g - off) (by omega))
    have hgo := fun J P => Y.go (off + j) x[j] J P (ho j _ hk) hlt
    have hl := Y.len (off + j)
    have hno : ∀ J z, norm ⟨[(0, .yld b), (3, i s), (5, i k), (11, cs c.cells), (12, i c.cells.length), (13, i s), (18, rs r), (19, i r.length), (20, i k), (25, fs x), (26, i x.length), (27, .int .i64 z)], M (off + j + 1) ++ J, [], n, 45, none⟩ = some ⟨[(0, .yld b), (3, i s), (5, i k), (11, cs c.cells), (12, i c.cells.length), (13, i s), (18, rs r), (19, i r.length), (20, i k), (25, fs x), (26, i x.length), (27, .int .i64 z)], M (off + j + 1), [], n, 45, none⟩ := fun J z =>
      norm_own (Y.len _) (by simp [idsP, Y.bn]) (Y.ids _)
    simp [-norm, fc, i, fs, sl, Nat.add_assoc] at e1 hgo hno
    simp [-norm, inv, f67l0, body2, hd67a, fs, sl, i, hj, e1, hw, hl, get_at hl, get_at1 hl, set_at hl, set_at1 hl, hgo, hno, Nat.add_assoc]
  · have hk : x[j]? = some x[j] := List.getElem?_eq_getElem hj
    have e1 : List.take 6 (List.drop (j * 6) (fl fc x)) = fc x[j] := at_fl len_fc hk
    have hout := fun J P => Y.out x[j] J P (hb ▸ ho j _ hk)
    rw [← hb] at hout
    have hl := Y.len (off + j)
    have : goOut [] (code T (lim T) (body2 f67l0) (inv j)) = some (.ret, ⟨[], Z ++ [.row (fc x[j]), .row (pc (put s k x[j])), .row (fc x[j])], [], n, 45, none⟩) := by
      simp [-norm, fc, i, fs, sl, Nat.add_assoc] at e1 hout
      simp [-norm, inv, f67l0, body2, hd67a, fs, sl, i, hj, e1, hl, get_at hl, get_at1 hl, set_at hl, set_at1 hl, hout, Nat.add_assoc, fc, pc, put]
    obtain ⟨st1, g1, _, g2⟩ := goOut_inv this
    refine ⟨st1, g1, ?_, [.row (fc x[j]), .row (pc (put s k x[j])), .row (fc x[j])], ?_⟩
    · exact congrArg (fun s : ASt => s.dfs) g2
    · exact congrArg (fun s : ASt => s.H) g2
  · simp [inv, f67l0, body2, fs, sl, i]

def hd67b : ASt → Option ASt := fun st => (doHint (.keep [0, 3, 11, 12, 13, 18, 19, 20]) st).bind (doHint .norm)
def hd67c : ASt → Option ASt := fun st => (doHint (.keep [0, 11, 12, 13]) st).bind (doHint .norm)

theorem orgRow_succ {r : List (List Feat)} {k : Nat} {x : List Feat} (h : r[k]? = some x) : (orgRow r (k + 1)).length = (orgRow r k).length + x.length := by
  obtain ⟨hk, rfl⟩ := List.getElem?_eq_some_iff.1 h
  simp only [orgRow]
  rw [← List.take_append_getElem hk, List.flatten_append, List.length_append]
  simp
theorem orgAll_succ {c : Case} {s : Nat} {r : List (List Feat)} (h : c.cells[s]? = some r) : (orgAll c (s + 1)).length = (orgAll c s).length + (orgRow r r.length).length := by
  obtain ⟨hk, rfl⟩ := List.getElem?_eq_some_iff.1 h
  simp only [orgAll, orgRow]
  rw [← List.take_append_getElem hk, List.flatMap_append, List.length_append]
  simp
theorem orgRow_mono {r : List (List Feat)} {k l : Nat} (h : k ≤ l) : (orgRow r k).length ≤ (orgRow r l).length := by
  induction l with
  | zero => obtain rfl : k = 0 := by omega
            exact Nat.le_refl _
  | succ l ih =>
    rcases Nat.lt_or_ge k (l + 1) with h1 | h1
    · refine Nat.le_trans (ih (by omega)) ?_
      cases hk : r[l]? with
      | none =>
        have := List.getElem?_eq_none_iff.1 hk
        simp only [orgRow]
        rw [List.take_of_length_le (by omega), List.take_of_length_le (by omega)]
        exact Nat.le_refl _
      | some x => rw [orgRow_succ hk]; omega
    · obtain rfl : k = l + 1 := by omega
      exact Nat.le_refl _

theorem y1 {c : Case} {b n g : Nat} {M : Nat → List AB} {Z : List AB} (Y : Yl c b n g M Z) {s : Nat} {r : List (List Feat)} (hr : c.cells[s]? = some r) (hl : r.length ≤ 1000) (hx : ∀ x ∈ r, x.length ≤ 1000) (hoff : (orgAll c s).length ≤ g) :
    let inv (k : Nat) : ASt := ⟨[(0, .yld b), (3, i s), (11, cs c.cells), (12, i c.cells.length), (13, i s), (18, rs r), (19, i r.length), (20, i k)], M ((orgAll c s).length + (orgRow r k).length), [], n, 45, none⟩
    (∃ st1, LoopR T f67l1 hd67b (inv 0) (.ret, st1) ∧ (st1.dfs = [] ∧ ∃ J, st1.H = Z ++ J) ∧ g < (orgAll c s).length + (orgRow r r.length).length) ∨
    ∃ st1, LoopR T f67l1 hd67b (inv 0) (.exit 2, st1) ∧ keepS [0, 11, 12, 13] st1 = ⟨[(0, .yld b), (11, cs c.cells), (12, i c.cells.length), (13, i s)], M ((orgAll c s).length + (orgRow r r.length).length), [], n, 45, none⟩ ∧ (orgAll c s).length + (orgRow r r.length).length ≤ g := by
  intro inv
  have key := LoopR.searchQ (T := T) (b := f67l1) (b' := body2 f67l1) (hd := hd67b) head_norm [0, 11, 12, 13] inv r.length (fun k => (orgAll c s).length + (orgRow r k).length ≤ g ∧ g < (orgAll c s).length + (orgRow r (k + 1)).length) (fun st1 => st1.dfs = [] ∧ ∃ J, st1.H = Z ++ J) (er := .ret) (ex := .exit 2) (sx := ⟨[(0, .yld b), (11, cs c.cells), (12, i c.cells.length), (13, i s)], M ((orgAll c s).length + (orgRow r r.length).length), [], n, 45, none⟩) (by simp)
    (fun k hk hn => ?_) (fun k hk hb hn => ?_) (fun _ => ?_)
  · have hz : (orgRow r 0).length = 0 := by simp [orgRow]
    rcases key with ⟨st1, h1, h2, k, hk, hb, _⟩ | ⟨st1, h1, h2, hno⟩
    · refine .inl ⟨st1, h1, h2, ?_⟩
      have := orgRow_mono (r := r) (k := k + 1) (l := r.length) (by omega)
      omega
    · refine .inr ⟨st1, h1, h2, ?_⟩
      have : ∀ k, k ≤ r.length → (orgAll c s).length + (orgRow r k).length ≤ g := by
        intro k
        induction k with
        | zero => intro _; omega
        | succ k ih =>
          intro hk
          have h3 := ih (by omega)
          have h4 := hno k (by omega)
          omega
      exact this _ (Nat.le_refl _)
  · have hrk : r[k]? = some r[k] := List.getElem?_eq_getElem hk
    have e1 : List.take 1 (List.drop k (ml fs r)) = [fs r[k]] := at_map hrk
    have hw : IntKind.i64.wrap ((k : Int) + 1) = (k : Int) + 1 := wrap_ok (by omega) (by omega)
    have hs := orgRow_succ hrk
    have hz : (orgRow r 0).length = 0 := by simp [orgRow]
    have hle : (orgAll c s).length + (orgRow r k).length ≤ g := by
      have : ∀ m, m ≤ k → (orgAll c s).length + (orgRow r m).length ≤ g := by
        intro m
        induction m with
        | zero => intro _; omega
        | succ m ih =>
          intro hm
          have h3 := ih (by omega)
          have h4 := hn m (by omega)
          omega
      exact this k (Nat.le_refl _)
    have hle2 := hn k (Nat.le_refl _)
    rcases y0 Y (s := s) (k := k) (off := (orgAll c s).length + (orgRow r k).length) (r := r) (x := r[k]) (hx _ (List.getElem_mem hk)) (fun j f hf => org_at hr hrk hf) hle with ⟨st1, h1, h2, h3⟩ | ⟨st1, h1, h2, h3⟩
    · omega
    · have h1' : ∀ st, hd67a st = some _ → code T (lim T) (.loop f67l0) st = some _ := h1
      have hA : (orgAll c s).length + (orgRow r (k + 1)).length = (orgAll c s).length + (orgRow r k).length + r[k].length := by omega
      simp only [inv, hA]
      generalize (orgAll c s).length + (orgRow r k).length + r[k].length = A at *
      generalize (orgAll c s).length + (orgRow r k).length = B at *
      have hno : ∀ z, norm ⟨[(0, .yld b), (3, i s), (11, cs c.cells), (12, i c.cells.length), (13, i s), (18, rs r), (19, i r.length), (20, .int .i64 z)], M A, [], n, 45, none⟩ = some ⟨[(0, .yld b), (3, i s), (11, cs c.cells), (12, i c.cells.length), (13, i s), (18, rs r), (19, i r.length), (20, .int .i64 z)], M A, [], n, 45, none⟩ := fun z => by
        have := norm_own (J := []) (nt := 45) (ro := none) (env := [(0, .yld b), (3, i s), (11, cs c.cells), (12, i c.cells.length), (13, i s), (18, rs r), (19, i r.length), (20, .int .i64 z)]) (Y.len A) (by simp [idsP, Y.bn]) (Y.ids A)
        rwa [List.append_nil] at this
      have hno2 := norm_own (J := []) (nt := 45) (ro := none) (env := [(0, .yld b), (3, i s), (5, i k), (11, cs c.cells), (12, i c.cells.length), (13, i s), (18, rs r), (19, i r.length), (20, i k), (25, fs r[k]), (26, i r[k].length), (27, i 0)]) (Y.len B) (by simp [idsP, Y.bn]) (Y.ids B)
      rw [List.append_nil] at hno2
      simp [-norm, i, rs, sl] at h2 hno
      simp [-norm, inv, f67l1, body2, hd67b, rs, fs, sl, i, hk, e1, hw]
      rw [h1']
      · simp [-norm, h2, hw, hno]
      · simp [-norm, hd67a, i, rs, sl, fs] at hno2 ⊢
        exact hno2
  · have hrk : r[k]? = some r[k] := List.getElem?_eq_getElem hk
    have e1 : List.take 1 (List.drop k (ml fs r)) = [fs r[k]] := at_map hrk
    have hs := orgRow_succ hrk
    rcases y0 Y (s := s) (k := k) (off := (orgAll c s).length + (orgRow r k).length) (r := r) (x := r[k]) (hx _ (List.getElem_mem hk)) (fun j f hf => org_at hr hrk hf) hb.1 with ⟨st1, h1, h2, h3⟩ | ⟨st1, h1, h2, h3⟩
    · have h1' : ∀ st, hd67a st = some _ → code T (lim T) (.loop f67l0) st = some _ := h1
      refine ⟨st1, ?_, h2⟩
      simp only [inv]
      generalize (orgAll c s).length + (orgRow r k).length = B at *
      have hno2 := norm_own (J := []) (nt := 45) (ro := none) (env := [(0, .yld b), (3, i s), (5, i k), (11, cs c.cells), (12, i c.cells.length), (13, i s), (18, rs r), (19, i r.length), (20, i k), (25, fs r[k]), (26, i r[k].length), (27, i 0)]) (Y.len B) (by simp [idsP, Y.bn]) (Y.ids B)
      rw [List.append_nil] at hno2
      simp [-norm, f67l1, body2, rs, fs, sl, i, hk, e1]
      rw [h1']
      simp [-norm, hd67a, i, rs, sl, fs] at hno2 ⊢
      exact hno2
    · omega
  · simp [inv, f67l1, body2, rs, sl, i]
end Go.Abs.C
end

section
/- All features, one after the other: the program's (2). Conditions: none. -/
namespace Go.Abs.C
open Go Go.Abs
set_option maxRecDepth 10000

theorem orgAll_mono {c : Case} {k l : Nat} (h : k ≤ l) : (orgAll c k).length ≤ (orgAll c l).length := by
  induction l with
  | zero => obtain rfl : k = 0 := by omega
            exact Nat.le_refl _
  | succ l ih =>
    rcases Nat.lt_or_ge k (l + 1) with h1 | h1
    · refine Nat.le_trans (ih (by omega)) ?_
      cases hk : c.cells[l]? with
      | none =>
        have := List.getElem?_eq_none_iff.1 hk
        simp only [orgAll]
        rw [List.take_of_length_le (by omega), List.take_of_length_le (by omega)]
        exact Nat.le_refl _
      | some x => rw [orgAll_succ hk]; omega
    · obtain rfl : k = l + 1 := by omega
      exact Nat.le_refl _
theorem orgAll_end (c : Case) : orgAll c c.cells.length = origs c := by simp [orgAll, origs]

theorem y2 {c : Case} {b n g : Nat} {M : Nat → List AB} {Z : List AB} (Y : Yl c b n g M Z) (hc : Small c) :
    let inv (s : Nat) : ASt := ⟨[(0, .yld b), (11, cs c.cells), (12, i c.cells.length), (13, i s)], M (orgAll c s).length, [], n, 45, none⟩
    (∃ st1, LoopR T f67l2 hd67c (inv 0) (.ret, st1) ∧ (st1.dfs = [] ∧ ∃ J, st1.H = Z ++ J) ∧ g < (origs c).length) ∨
    ∃ st1, LoopR T f67l2 hd67c (inv 0) (.exit 0, st1) ∧ keepS [] st1 = ⟨[], M (origs c).length, [], n, 45, none⟩ ∧ (origs c).length ≤ g := by
  intro inv
  have hz : (orgAll c 0).length = 0 := by simp [orgAll]
  rw [← orgAll_end]
  have key := LoopR.searchQ (T := T) (b := f67l2) (b' := body2 f67l2) (hd := hd67c) head_norm [] inv c.cells.length (fun s => (orgAll c s).length ≤ g ∧ g < (orgAll c (s + 1)).length) (fun st1 => st1.dfs = [] ∧ ∃ J, st1.H = Z ++ J) (er := .ret) (ex := .exit 0) (sx := ⟨[], M (orgAll c c.cells.length).length, [], n, 45, none⟩) (by simp)
    (fun k hk hn => ?_) (fun k hk hb hn => ?_) (fun _ => ?_)
  · rcases key with ⟨st1, h1, h2, k, hk, hb, _⟩ | ⟨st1, h1, h2, hno⟩
    · refine .inl ⟨st1, h1, h2, ?_⟩
      have := orgAll_mono (c := c) (k := k + 1) (l := c.cells.length) (by omega)
      omega
    · refine .inr ⟨st1, h1, h2, ?_⟩
      have : ∀ k, k ≤ c.cells.length → (orgAll c k).length ≤ g := by
        intro k
        induction k with
        | zero => intro _; omega
        | succ k ih =>
          intro hk
          have h3 := ih (by omega)
          have h4 := hno k (by omega)
          omega
      exact this _ (Nat.le_refl _)
  · have hrk : c.cells[k]? = some c.cells[k] := List.getElem?_eq_getElem hk
    have hm := List.getElem_mem hk
    have e1 : List.take 1 (List.drop k (ml rs c.cells)) = [rs c.cells[k]] := at_map hrk
    have h4 := hc.cells
    have hw : IntKind.i64.wrap ((k : Int) + 1) = (k : Int) + 1 := wrap_ok (by omega) (by omega)
    have hs := orgAll_succ hrk
    have hle : (orgAll c k).length ≤ g := by
      have : ∀ m, m ≤ k → (orgAll c m).length ≤ g := by
        intro m
        induction m with
        | zero => intro _; omega
        | succ m ih =>
          intro hm
          have h3 := ih (by omega)
          have h4 := hn m (by omega)
          omega
      exact this k (Nat.le_refl _)
    have hle2 := hn k (Nat.le_refl _)
    have hz2 : (orgRow c.cells[k] 0).length = 0 := by simp [orgRow]
    rcases y1 Y hrk (by have := hc.row _ hm; omega) (fun x hx => by have := hc.cell _ hm x hx; omega) hle with ⟨st1, h1, h2, h3⟩ | ⟨st1, h1, h2, h3⟩
    · omega
    · simp only [hz2, Nat.add_zero] at h1
      have h1' : ∀ st, hd67b st = some _ → code T (lim T) (.loop f67l1) st = some _ := h1
      simp only [inv, hs]
      generalize (orgAll c k).length + (orgRow c.cells[k] c.cells[k].length).length = A at *
      generalize (orgAll c k).length = B at *
      have hno : ∀ z, norm ⟨[(0, .yld b), (11, cs c.cells), (12, i c.cells.length), (13, .int .i64 z)], M A, [], n, 45, none⟩ = some ⟨[(0, .yld b), (11, cs c.cells), (12, i c.cells.length), (13, .int .i64 z)], M A, [], n, 45, none⟩ := fun z => by
        have := norm_own (J := []) (nt := 45) (ro := none) (env := [(0, .yld b), (11, cs c.cells), (12, i c.cells.length), (13, .int .i64 z)]) (Y.len A) (by simp [idsP, Y.bn]) (Y.ids A)
        rwa [List.append_nil] at this
      have hno2 := norm_own (J := []) (nt := 45) (ro := none) (env := [(0, .yld b), (3, i k), (11, cs c.cells), (12, i c.cells.length), (13, i k), (18, rs c.cells[k]), (19, i c.cells[k].length), (20, i 0)]) (Y.len B) (by simp [idsP, Y.bn]) (Y.ids B)
      rw [List.append_nil] at hno2
      simp [-norm, i, cs, sl] at h2 hno
      simp [-norm, f67l2, body2, hd67c, cs, rs, sl, i, hk, e1, hw]
      rw [h1']
      · simp [-norm, h2, hw, hno]
      · simp [-norm, hd67b, i, cs, rs, sl] at hno2 ⊢
        exact hno2
  · have hrk : c.cells[k]? = some c.cells[k] := List.getElem?_eq_getElem hk
    have hm := List.getElem_mem hk
    have e1 : List.take 1 (List.drop k (ml rs c.cells)) = [rs c.cells[k]] := at_map hrk
    have hs := orgAll_succ hrk
    have hz2 : (orgRow c.cells[k] 0).length = 0 := by simp [orgRow]
    rcases y1 Y hrk (by have := hc.row _ hm; omega) (fun x hx => by have := hc.cell _ hm x hx; omega) hb.1 with ⟨st1, h1, h2, h3⟩ | ⟨st1, h1, h2, h3⟩
    · simp only [hz2, Nat.add_zero] at h1
      have h1' : ∀ st, hd67b st = some _ → code T (lim T) (.loop f67l1) st = some _ := h1
      refine ⟨st1, ?_, h2⟩
      simp only [inv]
      generalize (orgAll c k).length = B at *
      have hno2 := norm_own (J := []) (nt := 45) (ro := none) (env := [(0, .yld b), (3, i k), (11, cs c.cells), (12, i c.cells.length), (13, i k), (18, rs c.cells[k]), (19, i c.cells[k].length), (20, i 0)]) (Y.len B) (by simp [idsP, Y.bn]) (Y.ids B)
      rw [List.append_nil] at hno2
      simp [-norm, f67l2, body2, cs, rs, sl, i, hk, e1]
      rw [h1']
      simp [-norm, hd67b, i, cs, rs, sl] at hno2 ⊢
      exact hno2
    · omega
  · simp [inv, f67l2, body2, cs, sl, i]

/-- The features handed to a body: all, or up to the one at which it leaves. -/
theorem call67 {c : Case} {b n g : Nat} {M : Nat → List AB} {Z : List AB} (Y : Yl c b n g M Z) (hc : Small c) :
    (g < (origs c).length ∧ ∃ J, (lim T).call 67 [.yld b, .cptr (cc c)] (M 0) = some (.ret (.tup []), Z ++ J)) ∨ (origs c).length ≤ g ∧ (lim T).call 67 [.yld b, .cptr (cc c)] (M 0) = some (.ret (.tup []), M (origs c).length) := by
  have hz : (orgAll c 0).length = 0 := by simp [orgAll]
  have hno2 := norm_own (J := []) (nt := 45) (ro := none) (env := [(0, .yld b), (11, cs c.cells), (12, i c.cells.length), (13, i 0)]) (Y.len 0) (by simp [idsP, Y.bn]) (Y.ids 0)
  rw [List.append_nil] at hno2
  have hl := Y.len 0
  rcases y2 Y hc with ⟨st1, h1, h2, h3⟩ | ⟨st1, h1, h2, h3⟩
  · simp only [hz] at h1
    have h1' : ∀ st, hd67c st = some _ → code T (lim T) (.loop f67l2) st = some _ := h1
    obtain ⟨h4, J, h5⟩ := h2
    refine .inl ⟨h3, J, ?_⟩
    refine lim_call_of ?_
    simp [call, fn67, f67, f67b, hl, cc, cs, sl]
    rw [h1']
    · simp [h4, h5, leave, results]
    · simp [-norm, hd67c, i, cs, sl] at hno2 ⊢
      exact hno2
  · simp only [hz] at h1
    have h1' : ∀ st, hd67c st = some _ → code T (lim T) (.loop f67l2) st = some _ := h1
    have h4 : st1.H = M (origs c).length := congrArg (fun s : ASt => s.H) h2
    have h5 : st1.dfs = [] := congrArg (fun s : ASt => s.dfs) h2
    refine .inr ⟨h3, ?_⟩
    refine lim_call_of ?_
    simp [call, fn67, f67, f67b, hl, cc, cs, sl]
    rw [h1']
    · simp [h4, h5, leave, results]
    · simp [-norm, hd67c, i, cs, sl] at hno2 ⊢
      exact hno2

theorem _root_.Go.Abs.round_of {T : Tab} {b : Nat} {xs : List AV} {H : List AB} {x : AEnd × List AB} (h : round ⟨code T (lim T), (lim T).call⟩ b xs H = some x) : round (lim T) b xs H = some x := by
  unfold round at h ⊢
  split at h
  · rename_i r hr
    split at h
    · rename_i hc
      split at h
      · rename_i st hst
        have g1 := lim_code_of hst
        split at h
        · rename_i r1 hr1
          split at h
          · rename_i hready
            split at h
            · rename_i e st2 hst2
              have g2 := lim_code_of hst2
              simp only [hr, if_pos hc, g1, hr1, if_pos hready, g2]
              exact h
            · cases h
          · cases h
        · cases h
      · cases h
    · cases h
  · cases h

/-- What a frame that has ended hands back. -/
noncomputable def _root_.Go.Abs.fin2 (T : Tab) (F : AFun) : Option (AExit × ASt) → Option AV
  | some (.normal, st) | some (.ret, st) => match leave T (lim T) F st.dfs none st with
    | some (.ret w, H) => frz H false depthF w
    | _ => none
  | _ => none

theorem _root_.Go.Abs.Ret.of2 {T : Tab} {f : Nat} {F : AFun} {xs : List AV} {v : AV} (hf : T.fn f = some F) (hn : xs.length ≤ F.nt)
    (hc : fin2 T F (code T (lim T) F.body ⟨(List.range xs.length).zip xs, [], [], 0, F.nt, none⟩) = some v) : Ret T f xs v := by
  have go : ∀ (e : AExit) (st : ASt), (e = .normal ∨ e = .ret) → code T (lim T) F.body ⟨(List.range xs.length).zip xs, [], [], 0, F.nt, none⟩ = some (e, st) → (match leave T (lim T) F st.dfs none st with | some (.ret w, H) => frz H false depthF w | _ => none) = some v → Ret T f xs v := fun e st he h1 h2 => by
    split at h2
    · rename_i w H hl
      refine ⟨w, H, lim_call_of ?_, h2⟩
      simp only [call, hf, if_pos hn, List.length_nil, h1]
      rcases he with rfl | rfl <;> exact hl
    · cases h2
  unfold fin2 at hc
  split at hc
  · rename_i st h; exact go _ st (.inl rfl) h hc
  · rename_i st h; exact go _ st (.inr rfl) h hc
  · cases hc
end Go.Abs.C
end

section
/- The program's check. Conditions: none. -/
namespace Go.Abs.C
open Go Go.Abs
set_option maxRecDepth 10000

theorem code_rng {S : Sems} {st : ASt} {f : Opd} {ps : List Nat} {a b : AC} : code T S (.rng f ps a b) st = ((val T st.env f).bind fun f =>
    if rngOk st ps then
      match f with
      | .fn (.func k) [] caps =>
        match S.call k (.yld (rngH st).length :: caps) (rngH st ++ [AB.loop ⟨.ready, none, st.env, st.nt, ps, a, b⟩]) with
        | some (.ret _, H3) => match H3[(rngH st).length]? with
          | some (.loop r) => if r.state = .busy then none else
            match r.pend with
            | none => some (.normal, { st with H := H3.set (rngH st).length .dead, dfs := rngD st })
            | some .ret => some (.ret, { st with H := H3.set (rngH st).length .dead, dfs := rngD st })
            | some (.exit id) => some (.exit id, { st with H := H3.set (rngH st).length .dead, dfs := rngD st })
          | _ => none
        | some (.pan v, H3) => some (.panic v, { st with H := H3, dfs := rngD st })
        | none => none
      | _ => none
    else none) := rfl

@[simp] theorem _root_.Go.Abs.frz1_fn {H : List AB} {n : Nat} {ar : Bool} {f : Fn} {a b : List AV} : frz H ar (n + 1) (.fn f a b) = if (AV.fn f a b).canon || ar && (AV.fn f a b).pure then some (.fn f a b) else (frzL ar (frz H ar n) a).bind fun a => (frzL ar (frz H ar n) b).map fun b => .fn f a b := by
  by_cases h : ((AV.fn f a b).canon || ar && (AV.fn f a b).pure) = true
  · simp only [frz, h, if_true]
  · simp only [frz, h, if_false, Bool.false_eq_true]
theorem fn10 : T.fn 10 = some f10 := by rfl
theorem fn36 : T.fn 36 = some f36 := by rfl
theorem feats36 (c : Case) : Ret T 36 [.agg (cc c)] (.fn (.func 67) [] [.cptr (cc c)]) := by
  refine Ret.of fn36 (by simp; decide) ?_
  simp [f36, f36b]
  simp [depthF, cc]

def a10 : AC := (.ops [Y.o 6 (.alloc [(.int .i64 0), (.int .i64 0), (.int .i64 0), (.int .i64 0), (.int .i64 0), .nils]), Y.s (.store 6 (Y.t 6) (Y.t 44))] none)
def ld10 (c : Case) (st : LoopState) (pend : Option AJ) : AB := .loop ⟨st, pend, [(2, .ptr 1 0), (4, .ptr 2 0), (42, .fn (.func 67) [] [.cptr (cc c)])], 53, [43, 44], a10, f10l0⟩
def eN (c : Case) (j : Nat) : Int := if ((origs c).take j).any badFeat then 8 else 0
def M10 (c : Case) (j : Nat) : List AB := [.row (cc c), .row [i 0], .row [i (eN c j)], .dfr, ld10 c .ready none]
def Z10 (c : Case) (g : Nat) : List AB := [.row (cc c), .row [i 6], .row [i (eN c g)], .dfr, ld10 c .done (some .ret)]

theorem eN_succ {c : Case} {j : Nat} {f : Feat} (h : (origs c)[j]? = some f) : eN c (j + 1) = if badFeat f then 8 else eN c j := by
  obtain ⟨hj, rfl⟩ := List.getElem?_eq_some_iff.1 h
  simp only [eN]
  rw [← List.take_append_getElem hj, List.any_append]
  cases h1 : ((origs c).take j).any badFeat <;> cases h2 : badFeat (origs c)[j] <;> simp [h2]

theorem get_end {H l : List AB} {a : AB} : (H ++ a :: l)[H.length]? = some a := get_at rfl
theorem set_end {H l : List AB} {a v : AB} : (H ++ a :: l).set H.length v = H ++ v :: l := set_at rfl
theorem run_a10 {env : Env} {H : List AB} {f : Feat} {b n : Nat} {r : Option Nat} (h1 : env.get 44 = some (.agg (fc f))) (h2 : 6 < n) : code T (lim T) a10 ⟨env, H, [], b, n, r⟩ = some (.normal, ⟨(6, .ptr H.length 0) :: env, H ++ [.row (fc f)], [], b, n, r⟩) := by
  simp [a10, h1, h2, get_end, set_end]
  simp [fc]

theorem out10 {c : Case} {e : Int} {f : Feat} {J : List AB} {P : List AV} {L : AB} {base : Nat} (hn : noOpt f = true) :
    goOut [] (code T (lim T) f10l0 ⟨[(6, .ptr (J.length + 1 + 1 + 1 + 1 + 1) 0), (43, AV.agg P), (44, AV.agg (fc f)), (2, AV.ptr 1 0), (4, AV.ptr 2 0), (42, AV.fn (Fn.func 67) [] [AV.cptr (cc c)])], .row (cc c) :: .row [i 0] :: .row [i e] :: .dfr :: L :: (J ++ [.row (fc f)]), [], base, 53, some 4⟩) =
      some (.ret, ⟨[], .row (cc c) :: .row [i 6] :: .row [i e] :: .dfr :: L :: (J ++ [.row (fc f)]), [], base, 53, some 4⟩) := by
  simp [noOpt] at hn
  simp [f10l0, os, sl, i, hn, fc]
theorem go10 {c : Case} {e : Int} {f : Feat} {J : List AB} {P : List AV} {L : AB} {base : Nat} (hn : noOpt f = false) (ho : f.o.length ≤ 1000) :
    goOn (doHint (.keep [])) (code T (lim T) f10l0 ⟨[(6, .ptr (J.length + 1 + 1 + 1 + 1 + 1) 0), (43, AV.agg P), (44, AV.agg (fc f)), (2, AV.ptr 1 0), (4, AV.ptr 2 0), (42, AV.fn (Fn.func 67) [] [AV.cptr (cc c)])], .row (cc c) :: .row [i 0] :: .row [i e] :: .dfr :: L :: (J ++ [.row (fc f)]), [], base, 53, some 4⟩) =
      some ⟨[], .row (cc c) :: .row [i 0] :: .row [i (if badFeat f then 8 else e)] :: .dfr :: L :: (J ++ [.row (fc f)]), [], base, 53, some 4⟩ := by
  have en37 : ∀ H, enter T (lim T) 0 37 [os f.o, .fn (.func 38) [] []] H = _ := fun H => enterP (any37 f.o ho) (prim_no (by decide)) (by simp)
  simp [noOpt] at hn
  simp [os, sl] at en37
  by_cases hb : f.o.any badOpt = true
  · simp [f10l0, os, sl, i, hn, fc, en37, hb, badFeat]
  · simp [f10l0, os, sl, i, hn, fc, en37, hb, badFeat]

theorem yl10 (c : Case) (g : Nat) (ho : ∀ f ∈ origs c, f.o.length ≤ 1000) (hg1 : ∀ j f, j < g → (origs c)[j]? = some f → noOpt f = false) (hg2 : ∀ f, (origs c)[g]? = some f → noOpt f = true) : Yl c 4 5 g (M10 c) (Z10 c g) where
  len _ := rfl
  bn := by omega
  ids j B hB x hx := by
    simp only [M10, ld10, List.mem_cons, List.mem_nil_iff, or_false] at hB
    rcases hB with rfl | rfl | rfl | rfl | rfl <;> simp [idsP, idss_pure (pures_cc c)] at hx <;> omega
  go j f J P hf hj := by
    refine round_of ?_
    have hr := run_a10 (f := f) (b := J.length + 1 + 1 + 1 + 1 + 1) (n := 53) (r := some 4) (H := AB.row (cc c) :: AB.row [i 0] :: AB.row [i (eN c j)] :: AB.dfr :: AB.loop ⟨LoopState.ready, none, [(2, AV.ptr 1 0), (4, AV.ptr 2 0), (42, AV.fn (Fn.func 67) [] [AV.cptr (cc c)])], 53, [43, 44], a10, f10l0⟩ :: J) (env := [(43, AV.agg P), (44, AV.agg (fc f)), (2, AV.ptr 1 0), (4, AV.ptr 2 0), (42, AV.fn (Fn.func 67) [] [AV.cptr (cc c)])]) (by simp) (by omega)
    obtain ⟨st1, h1, h2⟩ := goOn_inv (go10 (c := c) (e := eN c j) (J := J) (P := P) (L := AB.loop ⟨LoopState.busy, none, [(2, AV.ptr 1 0), (4, AV.ptr 2 0), (42, AV.fn (Fn.func 67) [] [AV.cptr (cc c)])], 53, [43, 44], a10, f10l0⟩) (base := J.length + 1 + 1 + 1 + 1 + 1) (hg1 j f hj hf) (ho f (List.mem_of_getElem? hf)))
    have h3 := congrArg (fun s : ASt => s.H) (Option.some.inj h2)
    simp only [keepS] at h3
    rw [← eN_succ hf] at h3
    simp [round, M10, ld10, hr, h1]
    simp [h3]
  out f J P hf := by
    refine round_of ?_
    have hr := run_a10 (f := f) (b := J.length + 1 + 1 + 1 + 1 + 1) (n := 53) (r := some 4) (H := AB.row (cc c) :: AB.row [i 0] :: AB.row [i (eN c g)] :: AB.dfr :: AB.loop ⟨LoopState.ready, none, [(2, AV.ptr 1 0), (4, AV.ptr 2 0), (42, AV.fn (Fn.func 67) [] [AV.cptr (cc c)])], 53, [43, 44], a10, f10l0⟩ :: J) (env := [(43, AV.agg P), (44, AV.agg (fc f)), (2, AV.ptr 1 0), (4, AV.ptr 2 0), (42, AV.fn (Fn.func 67) [] [AV.cptr (cc c)])]) (by simp) (by omega)
    obtain ⟨st1, h1, _, h2⟩ := goOut_inv (out10 (c := c) (e := eN c g) (J := J) (P := P) (L := AB.loop ⟨LoopState.busy, none, [(2, AV.ptr 1 0), (4, AV.ptr 2 0), (42, AV.fn (Fn.func 67) [] [AV.cptr (cc c)])], 53, [43, 44], a10, f10l0⟩) (base := J.length + 1 + 1 + 1 + 1 + 1) (hg2 f hf))
    have h3 := congrArg (fun s : ASt => s.H) h2
    simp only [keepS] at h3
    simp [round, M10, Z10, ld10, hr, h1]
    simp [h3]
end Go.Abs.C
end

section
/- The program's check (2). Conditions: none. -/
namespace Go.Abs.C
open Go Go.Abs
set_option maxRecDepth 10000

theorem flat_zip {α β : Type} (h : α → List β) (l : List α) (k : Nat) : (l.zipIdx k).flatMap (fun p => h p.1) = l.flatMap h := by
  induction l generalizing k with
  | nil => rfl
  | cons a l ih => simp only [List.zipIdx_cons, List.flatMap_cons, ih]
theorem feats_o (c : Case) : (feats c).map (·.o) = (origs c).map (·.o) := by
  have h1 : ∀ s r, (rowF s r r.length).map (·.o) = r.flatten.map (·.o) := fun s r => by
    have : r.zipIdx.take r.length = r.zipIdx := List.take_of_length_le (by simp)
    simp only [rowF, this, List.map_flatMap]
    have : ∀ p : List Feat × Nat, (cellF s p.2 p.1).map (·.o) = (fun x : List Feat => x.map (·.o)) p.1 := fun p => by
      simp [cellF, put]
    simp only [this]
    rw [flat_zip (fun x : List Feat => x.map (·.o))]
    simp [List.flatMap_def]
  have : c.cells.zipIdx.take c.cells.length = c.cells.zipIdx := List.take_of_length_le (by simp)
  simp only [feats, allF, this, List.map_flatMap, h1]
  rw [flat_zip (fun r : List (List Feat) => r.flatten.map (·.o))]
  simp [origs, List.map_flatMap]
theorem any_o (c : Case) (p : List Opt → Bool) : (feats c).any (fun f => p f.o) = (origs c).any fun f => p f.o := by
  have := congrArg (fun l => List.any l p) (feats_o c)
  simp only [List.any_map] at this
  exact this
theorem len_origs (c : Case) : (feats c).length = (origs c).length := by
  have := congrArg List.length (feats_o c)
  simpa using this
theorem mem_origs {c : Case} {f : Feat} (h : f ∈ origs c) : ∃ r ∈ c.cells, ∃ x ∈ r, f ∈ x := by
  simp only [origs, List.mem_flatMap, List.mem_flatten] at h
  obtain ⟨r, hr, x, hx, hf⟩ := h
  exact ⟨r, hr, x, hx, hf⟩

/-- Where the first feature that holds stands, or their number. -/
theorem first_at (l : List Feat) (p : Feat → Bool) : ∃ g, (∀ j f, j < g → l[j]? = some f → p f = false) ∧ (∀ f, l[g]? = some f → p f = true) ∧ (g < l.length ↔ l.any p = true) := by
  refine ⟨l.findIdx p, fun j f hj hf => ?_, fun f hf => ?_, ?_⟩
  · obtain ⟨h1, rfl⟩ := List.getElem?_eq_some_iff.1 hf
    have := List.not_of_lt_findIdx hj
    simpa using this
  · obtain ⟨h1, rfl⟩ := List.getElem?_eq_some_iff.1 hf
    exact List.findIdx_getElem
  · rw [List.findIdx_lt_length]; simp

theorem check10 (c : Case) (hc : Small c) : Ret T 10 [.agg (cc c)] (i (caseErr c)) := by
  have hl1 := hc.clefs
  have hl2 := hc.cells
  have en33 : ∀ H, enter T (lim T) 0 33 [.agg (frc c)] H = _ := fun H => enterP (check33 c (by omega)) (prim_no (by decide)) (by simp)
  have en36 : ∀ H, enter T (lim T) 0 36 [.agg (cc c)] H = _ := fun H => enterP (feats36 c) (prim_no (by decide)) (by simp)
  refine Ret.of2 fn10 (by simp; decide) ?_
  simp only [i, frc, cc] at en33 en36
  by_cases h0 : frameErr c = 0
  case neg =>
    have g0 : (frameErr c != 0) = true := by simp [h0]
    simp [fin2, leave, f10, f10b, cc, i, caseErr, en33, h0, g0]
  by_cases h1 : c.cells.length = c.clefs.length
  case neg =>
    have g1 : ¬ ((c.cells.length : Int) = (c.clefs.length : Int)) := by omega
    have g2 : ((c.cells.length : Int) != (c.clefs.length : Int)) = true := by simp; omega
    simp [h0] at en33
    simp [fin2, leave, f10, f10b, cc, cs, il, sl, i, caseErr, h0, h1, g1, g2] at en33 ⊢
    simp [fin2, leave, en33, g1, g2]
  have hp : 0 < c.cells.length := by
    have : ¬ (c.clefs.length : Int) < 1 := by
      intro h
      simp [frameErr, h] at h0
    omega
  obtain ⟨r0, hr0⟩ : ∃ r0, c.cells[0]? = some r0 := ⟨_, List.getElem?_eq_getElem hp⟩
  have e0 : List.take 1 (ml rs c.cells) = [rs r0] := at_map (e := rs) (j := 0) hr0
  have hbw : badWidth c = (decide (r0.length < 1) || decide (20 < r0.length)) := by
    simp only [badWidth]
    cases hx : c.cells with
    | nil => simp [hx] at hr0
    | cons a l => simp [hx] at hr0; rw [hr0]
  have c0 : (c.cells.length : Int) = (c.clefs.length : Int) := by omega
  have c1 := eq_true c0
  have c2 : ((c.cells.length : Int) != (c.clefs.length : Int)) = false := by simp [c0]
  have c3 := eq_true h1
  simp only [h0] at en33
  have en34 : enter T (lim T) 0 34 [cs c.cells, .fn (.func 35) [] [.ptr 0 0]] [.row (cc c), .row [i 0]] = some (.ret (.bool (c.cells.any (oddRow c))), [.row (cc c), .row [i 0]]) :=
    enter0 (prim_no (by decide)) (ys := [cs c.cells, .fn (.func 35) [] [.cptr (cc c)]]) (by simp [depthF]) (any34 c (by omega)) (by simp)
  simp [cc, cs, il, sl, i] at en33 en34
  by_cases r1 : c.cells.any (oddRow c) = true
  · simp [fin2, leave, f10, f10b, cc, cs, il, sl, i, caseErr, h0, c1, c2, c3, en33, en34, r1]
  simp only [r1] at en34
  by_cases w1 : (r0.length : Int) < 1
  · have w0 : badWidth c = true := by rw [hbw]; simp; left; cases r0 with | nil => rfl | cons a l => simp at w1; omega
    simp [fin2, leave, f10, f10b, cc, cs, rs, il, sl, i, caseErr, h0, c1, c2, c3, en33, en34, r1, e0, hp, w1, w0]
  by_cases w2 : 20 < (r0.length : Int)
  · have w0 : badWidth c = true := by rw [hbw]; simp; omega
    simp [fin2, leave, f10, f10b, cc, cs, rs, il, sl, i, caseErr, h0, c1, c2, c3, en33, en34, r1, e0, hp, w1, w2, w0]
  have w0 : badWidth c = false := by
    rw [hbw]; simp; constructor
    · intro h; subst h; simp at w1
    · omega
  have ho : ∀ f ∈ origs c, f.o.length ≤ 1000 := fun f hf => by
    obtain ⟨r, hr, x, hx, hf⟩ := mem_origs hf
    have := hc.opts r hr x hx f hf; omega
  obtain ⟨g, hg1, hg2, hg3⟩ := first_at (origs c) noOpt
  have hn : (feats c).any noOpt = (origs c).any noOpt := any_o c (fun o => o.length == 0)
  have hb : (feats c).any badFeat = (origs c).any badFeat := any_o c (fun o => o.any badOpt)
  have hN : eN c (origs c).length = if (origs c).any badFeat then 8 else 0 := by simp [eN]
  simp [cs, il, sl] at en36
  rcases call67 (yl10 c g ho hg1 hg2) hc with ⟨h3, J, h4⟩ | ⟨h3, h4⟩
  · have h5 := hg3.1 h3
    have e5 : eN c 0 = 0 := by simp [eN]
    simp [M10, Z10, ld10, a10, cc, cs, il, sl, i, e5] at h4
    simp [fin2, leave, f10, f10b, cc, cs, rs, il, sl, i, caseErr, h0, c1, c2, c3, en33, en34, en36, r1, e0, hp, w1, w2, w0, hn, hb, h5, code_rng, rngOk, rngH, rngD, h4]
  · have h5 : (origs c).any noOpt = false := by
      rw [Bool.eq_false_iff]; intro h; have := hg3.2 h; omega
    have e5 : eN c 0 = 0 := by simp [eN]
    simp [M10, Z10, ld10, a10, cc, cs, il, sl, i, e5, hN] at h4
    simp [fin2, leave, f10, f10b, cc, cs, rs, il, sl, i, caseErr, h0, c1, c2, c3, en33, en34, en36, r1, e0, hp, w1, w2, w0, hn, hb, h5, code_rng, rngOk, rngH, rngD, h4]
end Go.Abs.C
end

section
/- The program's count. Conditions: none. -/
namespace Go.Abs.C
open Go Go.Abs
set_option maxRecDepth 10000
theorem fn11 : T.fn 11 = some f11 := by rfl

theorem first_nat (N : Nat) (p : Nat → Prop) : ∃ g, (∀ j, j < g → ¬ p j) ∧ (g < N → p g) ∧ g ≤ N := by
  induction N with
  | zero => exact ⟨0, fun j hj => by omega, fun h => by omega, Nat.le_refl _⟩
  | succ N ih =>
    obtain ⟨g, h1, h2, h3⟩ := ih
    by_cases hg : g < N
    · exact ⟨g, h1, fun _ => h2 hg, by omega⟩
    · obtain rfl : g = N := by omega
      by_cases hp : p g
      · exact ⟨g, h1, fun _ => hp, by omega⟩
      · refine ⟨g + 1, fun j hj => ?_, fun h => by omega, Nat.le_refl _⟩
        rcases Nat.lt_or_ge j g with h | h
        · exact h1 j h
        · obtain rfl : j = g := by omega
          exact hp

theorem prod_map {l l' : List Feat} (h : l.map (·.o) = l'.map (·.o)) (j : Nat) : prod l j = prod l' j := by
  have : ∀ (l : List Feat) (n : Nat), l.foldl (fun n f => n * f.o.length) n = (l.map (·.o)).foldl (fun n o => n * o.length) n := by
    intro l
    induction l with
    | nil => intro n; rfl
    | cons a l ih => intro n; simp only [List.foldl_cons, List.map_cons, ih]
  simp only [prod, this, List.map_take, h]
theorem prod_o (c : Case) (j : Nat) : prod (feats c) j = prod (origs c) j := prod_map (feats_o c) j
theorem over_o (c : Case) : over (feats c) = over (origs c) := by simp only [over, prod_o, len_origs]

def a11 : AC := (.ops [Y.o 7 (.alloc [(.int .i64 0), (.int .i64 0), (.int .i64 0), (.int .i64 0), (.int .i64 0), .nils]), Y.s (.store 6 (Y.t 7) (Y.t 16))] none)
def ld11 (c : Case) (st : LoopState) (pend : Option AJ) : AB := .loop ⟨st, pend, [(2, .ptr 1 0), (3, .ptr 2 0), (5, .ptr 3 0), (14, .fn (.func 67) [] [.cptr (cc c)])], 25, [15, 16], a11, f11l0⟩
def M11 (c : Case) (j : Nat) : List AB := [.row (cc c), .row [i 0], .row [i 0], .row [i (prod (origs c) j)], .dfr, ld11 c .ready none]
def Z11 (c : Case) (g : Nat) : List AB := [.row (cc c), .row [i 0], .row [i 70], .row [i (prod (origs c) (g + 1))], .dfr, ld11 c .done (some .ret)]

theorem run_a11 {env : Env} {H : List AB} {f : Feat} {b n : Nat} {r : Option Nat} (h1 : env.get 16 = some (.agg (fc f))) (h2 : 7 < n) : code T (lim T) a11 ⟨env, H, [], b, n, r⟩ = some (.normal, ⟨(7, .ptr H.length 0) :: env, H ++ [.row (fc f)], [], b, n, r⟩) := by
  simp [a11, h1, h2, get_end, set_end]
  simp [fc]

theorem out11 {c : Case} {a a' : Nat} {f : Feat} {J : List AB} {P : List AV} {L : AB} {base : Nat} (hm : IntKind.i64.wrap ((a : Int) * (f.o.length : Int)) = (a' : Int)) (hn : 4096 < a') :
    goOut [] (code T (lim T) f11l0 ⟨[(7, .ptr (J.length + 1 + 1 + 1 + 1 + 1 + 1) 0), (15, AV.agg P), (16, AV.agg (fc f)), (2, AV.ptr 1 0), (3, AV.ptr 2 0), (5, AV.ptr 3 0), (14, AV.fn (Fn.func 67) [] [AV.cptr (cc c)])], .row (cc c) :: .row [i 0] :: .row [i 0] :: .row [i a] :: .dfr :: L :: (J ++ [.row (fc f)]), [], base, 25, some 5⟩) =
      some (.ret, ⟨[], .row (cc c) :: .row [i 0] :: .row [i 70] :: .row [i a'] :: .dfr :: L :: (J ++ [.row (fc f)]), [], base, 25, some 5⟩) := by
  have hn2 : (4096 : Int) < (a' : Int) := by omega
  simp [f11l0, os, sl, i, hm, hn2, fc]
theorem go11 {c : Case} {a a' : Nat} {f : Feat} {J : List AB} {P : List AV} {L : AB} {base : Nat} (hm : IntKind.i64.wrap ((a : Int) * (f.o.length : Int)) = (a' : Int)) (hn : ¬ 4096 < a') :
    goOn (doHint (.keep [])) (code T (lim T) f11l0 ⟨[(7, .ptr (J.length + 1 + 1 + 1 + 1 + 1 + 1) 0), (15, AV.agg P), (16, AV.agg (fc f)), (2, AV.ptr 1 0), (3, AV.ptr 2 0), (5, AV.ptr 3 0), (14, AV.fn (Fn.func 67) [] [AV.cptr (cc c)])], .row (cc c) :: .row [i 0] :: .row [i 0] :: .row [i a] :: .dfr :: L :: (J ++ [.row (fc f)]), [], base, 25, some 5⟩) =
      some ⟨[], .row (cc c) :: .row [i 0] :: .row [i 0] :: .row [i a'] :: .dfr :: L :: (J ++ [.row (fc f)]), [], base, 25, some 5⟩ := by
  have hn2 : ¬ (4096 : Int) < (a' : Int) := by omega
  simp [f11l0, os, sl, i, hm, hn2, fc]

theorem yl11 (c : Case) (g : Nat) (ho : ∀ f ∈ origs c, f.o.length ≤ 1000) (hg1 : ∀ j, j < g → ¬ 4096 < prod (origs c) (j + 1)) (hg2 : g < (origs c).length → 4096 < prod (origs c) (g + 1)) : Yl c 5 6 g (M11 c) (Z11 c g) where
  len _ := rfl
  bn := by omega
  ids j B hB x hx := by
    simp only [M11, ld11, List.mem_cons, List.mem_nil_iff, or_false] at hB
    rcases hB with rfl | rfl | rfl | rfl | rfl | rfl <;> simp [idsP, idss_pure (pures_cc c)] at hx <;> omega
  go j f J P hf hj := by
    refine round_of ?_
    have hm := (mul_ok (prod_le (l := origs c) (j := j) fun k hk => hg1 k (by omega)) (ho f (List.mem_of_getElem? hf))).1
    rw [← prod_succ hf] at hm
    have hr := run_a11 (f := f) (b := J.length + 1 + 1 + 1 + 1 + 1 + 1) (n := 25) (r := some 5) (H := AB.row (cc c) :: AB.row [i 0] :: AB.row [i 0] :: AB.row [i (prod (origs c) j)] :: AB.dfr :: AB.loop ⟨LoopState.ready, none, [(2, AV.ptr 1 0), (3, AV.ptr 2 0), (5, AV.ptr 3 0), (14, AV.fn (Fn.func 67) [] [AV.cptr (cc c)])], 25, [15, 16], a11, f11l0⟩ :: J) (env := [(15, AV.agg P), (16, AV.agg (fc f)), (2, AV.ptr 1 0), (3, AV.ptr 2 0), (5, AV.ptr 3 0), (14, AV.fn (Fn.func 67) [] [AV.cptr (cc c)])]) (by simp) (by omega)
    obtain ⟨st1, h1, h2⟩ := goOn_inv (go11 (c := c) (J := J) (P := P) (L := AB.loop ⟨LoopState.busy, none, [(2, AV.ptr 1 0), (3, AV.ptr 2 0), (5, AV.ptr 3 0), (14, AV.fn (Fn.func 67) [] [AV.cptr (cc c)])], 25, [15, 16], a11, f11l0⟩) (base := J.length + 1 + 1 + 1 + 1 + 1 + 1) hm (hg1 j hj))
    have h3 := congrArg (fun s : ASt => s.H) (Option.some.inj h2)
    simp only [keepS] at h3
    simp [round, M11, ld11, hr, h1]
    simp [h3]
  out f J P hf := by
    refine round_of ?_
    have hm := (mul_ok (prod_le (l := origs c) (j := g) fun k hk => hg1 k (by omega)) (ho f (List.mem_of_getElem? hf))).1
    rw [← prod_succ hf] at hm
    have hr := run_a11 (f := f) (b := J.length + 1 + 1 + 1 + 1 + 1 + 1) (n := 25) (r := some 5) (H := AB.row (cc c) :: AB.row [i 0] :: AB.row [i 0] :: AB.row [i (prod (origs c) g)] :: AB.dfr :: AB.loop ⟨LoopState.ready, none, [(2, AV.ptr 1 0), (3, AV.ptr 2 0), (5, AV.ptr 3 0), (14, AV.fn (Fn.func 67) [] [AV.cptr (cc c)])], 25, [15, 16], a11, f11l0⟩ :: J) (env := [(15, AV.agg P), (16, AV.agg (fc f)), (2, AV.ptr 1 0), (3, AV.ptr 2 0), (5, AV.ptr 3 0), (14, AV.fn (Fn.func 67) [] [AV.cptr (cc c)])]) (by simp) (by omega)
    obtain ⟨st1, h1, _, h2⟩ := goOut_inv (out11 (c := c) (J := J) (P := P) (L := AB.loop ⟨LoopState.busy, none, [(2, AV.ptr 1 0), (3, AV.ptr 2 0), (5, AV.ptr 3 0), (14, AV.fn (Fn.func 67) [] [AV.cptr (cc c)])], 25, [15, 16], a11, f11l0⟩) (base := J.length + 1 + 1 + 1 + 1 + 1 + 1) hm (hg2 (List.getElem?_eq_some_iff.1 hf).1))
    have h3 := congrArg (fun s : ASt => s.H) h2
    simp only [keepS] at h3
    simp [round, M11, Z11, ld11, hr, h1]
    simp [h3]

theorem count11 (c : Case) (hc : Small c) : Ret T 11 [.agg (cc c)] (.tup [i (countN c), i (countE c)]) := by
  have en10 : ∀ H, enter T (lim T) 0 10 [.agg (cc c)] H = _ := fun H => enterP (check10 c hc) (prim_no (by decide)) (by simp)
  have en36 : ∀ H, enter T (lim T) 0 36 [.agg (cc c)] H = _ := fun H => enterP (feats36 c) (prim_no (by decide)) (by simp)
  refine Ret.of2 fn11 (by simp; decide) ?_
  simp only [i, cc] at en10 en36
  by_cases h0 : caseErr c = 0
  case neg =>
    have g0 : (caseErr c != 0) = true := by simp [h0]
    simp [fin2, leave, f11, f11b, cc, i, countN, countE, en10, h0, g0]
  simp only [h0] at en10
  have ho : ∀ f ∈ origs c, f.o.length ≤ 1000 := fun f hf => by
    obtain ⟨r, hr, x, hx, hf⟩ := mem_origs hf
    have := hc.opts r hr x hx f hf; omega
  obtain ⟨g, hg1, hg2, hg3⟩ := first_nat (origs c).length fun j => 4096 < prod (origs c) (j + 1)
  have hP : prod (origs c) 0 = 1 := by simp [prod]
  rcases call67 (yl11 c g ho hg1 hg2) hc with ⟨h3, J, h4⟩ | ⟨h3, h4⟩
  · have h5 : over (feats c) = true := by
      rw [over_o]
      exact List.any_eq_true.2 ⟨g, List.mem_range.2 h3, by simpa using hg2 h3⟩
    simp [M11, Z11, ld11, a11, cc, i, hP] at h4
    simp [fin2, leave, f11, f11b, cc, i, countN, countE, h0, en10, en36, h5, code_rng, rngOk, rngH, rngD, h4]
  · have h5 : over (feats c) = false := by
      rw [over_o, Bool.eq_false_iff]
      intro h
      obtain ⟨j, hj, hb⟩ := List.any_eq_true.1 h
      exact hg1 j (by have := List.mem_range.1 hj; omega) (by simpa using hb)
    simp [M11, Z11, ld11, a11, cc, i, hP] at h4
    simp [fin2, leave, f11, f11b, cc, i, countN, countE, h0, en10, en36, h5, code_rng, rngOk, rngH, rngD, h4, prod_o, len_origs]
end Go.Abs.C
end

section
/- The document's trimmed features. Conditions: none. -/
namespace Go.Abs.C
open Go Go.Abs
set_option maxRecDepth 10000
theorem fn43 : T.fn 43 = some f43 := by rfl

def miss0 (l : List Opt) : Int := match l with | [] => 0 | o :: _ => o.m
def best (l : List Opt) (j : Nat) : Int := (l.take j).foldl (fun b o => min b o.m) (miss0 l)
def keepO (sl mo b : Int) (a : List Opt) (o : Opt) : Bool := decide (o.m - b ≤ max sl 0) && decide ((a.length : Int) < max mo 1)
def pickO (sl mo b : Int) (l : List Opt) (j : Nat) : List Opt := (l.take j).foldl (fun a o => if keepO sl mo b a o then a ++ [o] else a) []
def trimF (sl mo : Int) (f : Feat) : Feat := { f with o := pickO sl mo (best f.o f.o.length) f.o f.o.length }
/-- Options that are as they should be. -/
def OkO (l : List Opt) : Prop := l ≠ [] ∧ l.length ≤ 1000 ∧ ∀ o ∈ l, 0 ≤ o.m ∧ o.m ≤ 10000

theorem best_succ {l : List Opt} {j : Nat} {o : Opt} (h : l[j]? = some o) : best l (j + 1) = min (best l j) o.m := by
  obtain ⟨hk, rfl⟩ := List.getElem?_eq_some_iff.1 h
  simp only [best]
  rw [← List.take_append_getElem hk, List.foldl_append]
  rfl
theorem pick_succ {sl mo b : Int} {l : List Opt} {j : Nat} {o : Opt} (h : l[j]? = some o) : pickO sl mo b l (j + 1) = if keepO sl mo b (pickO sl mo b l j) o then pickO sl mo b l j ++ [o] else pickO sl mo b l j := by
  obtain ⟨hk, rfl⟩ := List.getElem?_eq_some_iff.1 h
  simp only [pickO]
  rw [← List.take_append_getElem hk, List.foldl_append]
  rfl
theorem len_pick (sl mo b : Int) (l : List Opt) (j : Nat) : (pickO sl mo b l j).length ≤ j := by
  induction j with
  | zero => simp [pickO]
  | succ j ih =>
    cases h : l[j]? with
    | none =>
      have : l.take (j + 1) = l.take j := by
        have := List.getElem?_eq_none_iff.1 h
        rw [List.take_of_length_le (by omega), List.take_of_length_le (by omega)]
      simp only [pickO] at ih ⊢
      rw [this]; omega
    | some o =>
      rw [pick_succ h]
      split
      · rw [List.length_append]; simp; omega
      · omega
theorem best_ok {l : List Opt} (h : OkO l) (j : Nat) : 0 ≤ best l j ∧ best l j ≤ 10000 := by
  induction j with
  | zero =>
    cases l with
    | nil => exact absurd rfl h.1
    | cons o l => simpa [best, miss0] using h.2.2 o (by simp)
  | succ j ih =>
    cases hj : l[j]? with
    | none =>
      have : l.take (j + 1) = l.take j := by
        have := List.getElem?_eq_none_iff.1 hj
        rw [List.take_of_length_le (by omega), List.take_of_length_le (by omega)]
      simp only [best] at ih ⊢
      rw [this]; exact ih
    | some o =>
      have := h.2.2 o (List.mem_of_getElem? hj)
      rw [best_succ hj]; omega

def hd43a : ASt → Option ASt := fun st => (doHint (.keep [1, 2, 3, 6, 7, 8]) st).bind (doHint .norm)
def hd43b : ASt → Option ASt := fun st => (doHint (.keep [1, 2, 3, 6, 7, 9, 10]) st).bind (doHint .norm)
def zero6 : List AV := [.int .i64 0, .int .i64 0, .int .i64 0, .int .i64 0, .int .i64 0, .nils]

theorem loop43a (f : Feat) (sl' mo : Int) (h : OkO f.o) : let inv (j : Nat) : ASt := ⟨[(1, i sl'), (2, i mo), (3, .ptr 0 0), (6, .ptr 1 0), (7, i (best f.o j)), (8, i j)], [.row (fc f), .row zero6], [], 0, 73, none⟩
    ∃ st1, LoopR T f43l0 hd43a (inv 0) (.exit 0, st1) ∧ keepS [1, 2, 3, 6, 7] st1 = ⟨[(1, i sl'), (2, i mo), (3, .ptr 0 0), (6, .ptr 1 0), (7, i (best f.o f.o.length))], [.row (fc f), .row zero6], [], 0, 73, none⟩ := by
  intro inv
  refine LoopR.for' (T := T) (b := f43l0) (b' := body2 f43l0) (hd := hd43a) head_norm [1, 2, 3, 6, 7] inv f.o.length (fun j hj => ?_) ?_
  · have hk : f.o[j]? = some f.o[j] := List.getElem?_eq_getElem hj
    have e2 : (fl oc f.o)[j * 2 + 1]? = some (i f.o[j].m) := at_fl1 len_oc hk (by omega)
    have hl := h.2.1
    have hw : IntKind.i64.wrap ((j : Int) + 1) = (j : Int) + 1 := wrap_ok (by omega) (by omega)
    have hs := best_succ hk
    simp [inv, f43l0, body2, hd43a, fc, zero6, os, sl, i, hj, e2, hw, hs]
    split <;> omega
  · simp [inv, f43l0, body2, fc, os, sl, i]

theorem fl_len2 (a : List Opt) : (fl oc a).length = a.length * 2 := by simp
theorem loop43b (f : Feat) (sl' mo b : Int) (h : OkO f.o) (hb : 0 ≤ b ∧ b ≤ 10000) :
    ∃ st1, LoopR T f43l1 hd43b ⟨[(1, i sl'), (2, i mo), (3, .ptr 0 0), (6, .ptr 1 0), (7, i b), (9, .ptr 2 0), (10, i 0)], [.row (fc f), .row zero6, .row (pc f ++ [.nils])], [], 0, 73, none⟩ (.exit 2, st1) ∧
      keepS [6, 9] st1 = ⟨[(6, .ptr 1 0), (9, .ptr 2 0)], [.row (fc f), .row zero6, .row (pc f ++ [accV 3 2 (pickO sl' mo b f.o f.o.length).length])] ++ accH (pickO sl' mo b f.o f.o.length).length (fl oc (pickO sl' mo b f.o f.o.length)), [], 0, 73, none⟩ := by
  let inv (j : Nat) : ASt := ⟨[(1, i sl'), (2, i mo), (3, .ptr 0 0), (6, .ptr 1 0), (7, i b), (9, .ptr 2 0), (10, i j)], [.row (fc f), .row zero6, .row (pc f ++ [accV 3 2 (pickO sl' mo b f.o j).length])] ++ accH (pickO sl' mo b f.o j).length (fl oc (pickO sl' mo b f.o j)), [], 0, 73, none⟩
  have key := LoopR.for' (T := T) (b := f43l1) (b' := body2 f43l1) (hd := hd43b) head_norm [6, 9] inv f.o.length (e := .exit 2) (s := ⟨[(6, .ptr 1 0), (9, .ptr 2 0)], [.row (fc f), .row zero6, .row (pc f ++ [accV 3 2 (pickO sl' mo b f.o f.o.length).length])] ++ accH (pickO sl' mo b f.o f.o.length).length (fl oc (pickO sl' mo b f.o f.o.length)), [], 0, 73, none⟩) (fun j hj => ?_) ?_
  · obtain ⟨st1, h1, h2⟩ := key
    refine ⟨st1, ?_, h2⟩
    simpa [inv, pickO, accV, accH] using h1
  · have hk : f.o[j]? = some f.o[j] := List.getElem?_eq_getElem hj
    have e2 : (fl oc f.o)[j * 2 + 1]? = some (i f.o[j].m) := at_fl1 len_oc hk (by omega)
    have e3 : List.take 2 (List.drop (j * 2) (fl oc f.o)) = oc f.o[j] := at_fl len_oc hk
    have hl := h.2.1
    have hm := h.2.2 _ (List.getElem_mem hj)
    have hw : IntKind.i64.wrap ((j : Int) + 1) = (j : Int) + 1 := wrap_ok (by omega) (by omega)
    have hw2 : IntKind.i64.wrap (f.o[j].m - b) = f.o[j].m - b := wrap_ok (by omega) (by omega)
    have hs := pick_succ (sl := sl') (mo := mo) (b := b) hk
    have hlen := len_pick sl' mo b f.o j
    simp only [inv, hs]
    generalize pickO sl' mo b f.o j = A at *
    have hbd : (A.length + 1) * 16 ≤ maxLen' := by simp [maxLen']; omega
    simp [oc, i] at e2 e3
    have m1 : (if sl' < 0 then 0 else sl') = max sl' 0 := by split <;> omega
    have m2 : (if mo < 1 then 1 else mo) = max mo 1 := by split <;> omega
    simp only [keepO]
    obtain ⟨S, hS⟩ : ∃ S, max sl' 0 = S := ⟨_, rfl⟩
    obtain ⟨N, hN⟩ : ∃ N, max mo 1 = N := ⟨_, rfl⟩
    rw [hS] at m1
    rw [hN] at m2
    simp only [hS, hN]
    by_cases c1 : f.o[j].m - b ≤ S
    · by_cases c2 : (A.length : Int) < N
      · by_cases hA : A = []
        · subst hA
          simp at hbd c2
          simp [accV, accH, hbd, fl_one, oc, f43l1, body2, hd43b, fc, pc, zero6, os, sl, i, hj, e2, e3, hw, hw2, m1, m2, c1, c2]
        · simp [accV, accH, hbd, fl_one, fl_append, pures_append, oc, f43l1, body2, hd43b, fc, pc, zero6, os, sl, i, hj, e2, e3, hw, hw2, m1, m2, c1, c2, hA]
      · by_cases hA : A = []
        · subst hA
          simp at hbd c2
          have c3 : ¬ 0 < N := by omega
          simp [accV, accH, hbd, fl_one, oc, f43l1, body2, hd43b, fc, pc, zero6, os, sl, i, hj, e2, e3, hw, hw2, m1, m2, c1, c3]
        · simp [accV, accH, hbd, fl_one, fl_append, pures_append, oc, f43l1, body2, hd43b, fc, pc, zero6, os, sl, i, hj, e2, e3, hw, hw2, m1, m2, c1, c2, hA]
    · by_cases hA : A = []
      · subst hA
        simp [accV, accH, hbd, fl_one, oc, f43l1, body2, hd43b, fc, pc, zero6, os, sl, i, hj, e2, e3, hw, hw2, m1, m2, c1]
      · simp [accV, accH, hbd, fl_one, fl_append, pures_append, oc, f43l1, body2, hd43b, fc, pc, zero6, os, sl, i, hj, e2, e3, hw, hw2, m1, m2, c1, hA]
  · simp [inv, f43l1, body2, fc, os, sl, i]
end Go.Abs.C
end

section
/- The document's trimmed features (2). Conditions: none. -/
namespace Go.Abs.C
open Go Go.Abs
set_option maxRecDepth 10000

theorem miss0_eq {l : List Opt} {o : Opt} (h : l[0]? = some o) : miss0 l = o.m := by
  cases l with
  | nil => simp at h
  | cons a l => simp at h; simp [miss0, h]
theorem trimmed43 (f : Feat) (sl' mo : Int) (h : OkO f.o) : Ret T 43 [.agg (fc f), i sl', i mo] (.agg (fc (trimF sl' mo f))) := by
  have hp : 0 < f.o.length := by
    rcases Nat.eq_zero_or_pos f.o.length with h0 | h0
    · exact absurd (List.length_eq_zero_iff.1 h0) h.1
    · exact h0
  have hk : f.o[0]? = some f.o[0] := List.getElem?_eq_getElem hp
  have e2 : (fl oc f.o)[1]? = some (i (best f.o 0)) := by
    have := at_fl1 (e := oc) (t := 1) len_oc hk (by omega)
    rw [Nat.zero_mul, Nat.zero_add] at this
    rw [this]
    simp only [best, List.take_zero, List.foldl_nil, miss0_eq hk]
    rfl
  obtain ⟨st1, a1, a2⟩ := loop43a f sl' mo h
  obtain ⟨st2, b1, b2⟩ := loop43b f sl' mo (best f.o f.o.length) h (best_ok h _)
  have a1' : ∀ st, hd43a st = some _ → code T (lim T) (.loop f43l0) st = some _ := a1
  have b1' : ∀ st, hd43b st = some _ → code T (lim T) (.loop f43l1) st = some _ := b1
  refine Ret.of fn43 (by simp; decide) ?_
  have hT : fc (trimF sl' mo f) = pc f ++ [os (pickO sl' mo (best f.o f.o.length) f.o f.o.length)] := rfl
  rw [hT]
  generalize pickO sl' mo (best f.o f.o.length) f.o f.o.length = A at *
  simp [fc, os, sl, i] at a2 e2
  simp [f43, f43b, fc, os, sl, i, e2, hp]
  rw [a1']
  · simp [a2]
    rw [b1']
    · by_cases hA : A = []
      · simp [b2, hA, accV, accH, pc, depthF, os, sl, i, zero6]
      · simp [b2, hA, accV, accH, pc, depthF, os, sl, i, zero6]
    · simp [hd43b, fc, pc, zero6, os, sl, i]
  · simp [hd43a, fc, zero6, os, sl, i]
end Go.Abs.C
end

section
/- The document's trim. Conditions: none. -/
namespace Go.Abs.C
open Go Go.Abs
set_option maxRecDepth 10000
theorem fn14 : T.fn 14 = some f14 := by rfl

def out4 (c : Case) (s : Nat) : List AV := [il c.clefs, i c.key, i c.beats, i c.unit, i c.bar, .bool c.free, accV 3 1 s]
def at1 (s : Nat) : Nat := if s = 0 then 3 else 4
def at2 (s k : Nat) : Nat := if k = 0 then at1 s else at1 s + 1
def hd14a : ASt → Option ASt := fun st => (doHint (.keep [1, 2, 3, 6, 9, 10, 11, 12, 13, 14]) st).bind (doHint .norm)
def hd14b : ASt → Option ASt := fun st => (doHint (.keep [1, 2, 3, 6, 9, 10, 11, 12]) st).bind (doHint .norm)
def hd14c : ASt → Option ASt := fun st => (doHint (.keep [1, 2, 3, 6, 9, 10]) st).bind (doHint .norm)
def trX (sl' mo : Int) (x : List Feat) : List Feat := x.map (trimF sl' mo)
def trR (sl' mo : Int) (r : List (List Feat)) : List (List Feat) := r.map (trX sl' mo)
def trC (sl' mo : Int) (c : Case) : Case := { c with cells := c.cells.map (trR sl' mo) }
/-- The memory behind the loops' heads. -/
def mem14 (c : Case) (Rs : List (List (List Feat))) (Rk : List (List Feat)) (X : List Feat) : List AB :=
  [.row (cc c), .row zero7, .row (out4 c Rs.length)] ++ accH Rs.length (ml rs Rs) ++ accH Rk.length (ml fs Rk) ++ accH X.length (fl fc X)

theorem t14a (c : Case) (sl' mo : Int) {s k : Nat} {r : List (List Feat)} {x : List Feat} (hr : c.cells[s]? = some r) (hx : r[k]? = some x) (hl : x.length ≤ 1000) (hok : ∀ f ∈ x, OkO f.o) {Rs : List (List (List Feat))} {Rk : List (List Feat)} (hs : Rs.length = s) (hk : Rk.length = k) (hsl : s ≤ 1000) (hkl : k ≤ 1000) :
    ∃ st1, LoopR T f14l0 hd14a ⟨[(1, i sl'), (2, i mo), (3, .ptr 0 0), (6, .ptr 1 0), (9, .ptr 2 0), (10, i s), (11, accV (at1 s) 1 k), (12, i k), (13, .nils), (14, i 0)], mem14 c Rs Rk [], [], 0, 84, none⟩ (.exit 4, st1) ∧
      keepS [1, 2, 3, 6, 9, 10, 11, 12, 13] st1 = ⟨[(1, i sl'), (2, i mo), (3, .ptr 0 0), (6, .ptr 1 0), (9, .ptr 2 0), (10, i s), (11, accV (at1 s) 1 k), (12, i k), (13, accV (at2 s k) 6 (trX sl' mo x).length)], mem14 c Rs Rk (trX sl' mo x), [], 0, 84, none⟩ := by
  have e0 : List.take 1 (List.drop s (ml rs c.cells)) = [rs r] := at_map hr
  have e1 : List.take 1 (List.drop k (ml fs r)) = [fs x] := at_map hx
  have l0 : s < c.cells.length := (List.getElem?_eq_some_iff.1 hr).1
  have l1 : k < r.length := (List.getElem?_eq_some_iff.1 hx).1
  let inv (j : Nat) : ASt := ⟨[(1, i sl'), (2, i mo), (3, .ptr 0 0), (6, .ptr 1 0), (9, .ptr 2 0), (10, i s), (11, accV (at1 s) 1 k), (12, i k), (13, accV (at2 s k) 6 (trX sl' mo (x.take j)).length), (14, i j)], mem14 c Rs Rk (trX sl' mo (x.take j)), [], 0, 84, none⟩
  have key := LoopR.for' (T := T) (b := f14l0) (b' := body2 f14l0) (hd := hd14a) head_norm [1, 2, 3, 6, 9, 10, 11, 12, 13] inv x.length (e := .exit 4) (s := ⟨[(1, i sl'), (2, i mo), (3, .ptr 0 0), (6, .ptr 1 0), (9, .ptr 2 0), (10, i s), (11, accV (at1 s) 1 k), (12, i k), (13, accV (at2 s k) 6 (trX sl' mo x).length)], mem14 c Rs Rk (trX sl' mo x), [], 0, 84, none⟩) (fun j hj => ?_) ?_
  · obtain ⟨st1, h1, h2⟩ := key
    refine ⟨st1, ?_, h2⟩
    simpa [inv, trX, accV, accH] using h1
  · have hxj : x[j]? = some x[j] := List.getElem?_eq_getElem hj
    have e2 : List.take 6 (List.drop (j * 6) (fl fc x)) = fc x[j] := at_fl len_fc hxj
    have hw : IntKind.i64.wrap ((j : Int) + 1) = (j : Int) + 1 := wrap_ok (by omega) (by omega)
    have hen : ∀ H, enter T (lim T) 0 43 [.agg (fc x[j]), i sl', i mo] H = _ := fun H => enterP (trimmed43 x[j] sl' mo (hok _ (List.getElem_mem hj))) (prim_no (by decide)) (by simp)
    have hF : trX sl' mo (x.take (j + 1)) = trX sl' mo (x.take j) ++ [trimF sl' mo x[j]] := by
      simp only [trX]
      rw [← List.take_append_getElem hj, List.map_append]
      rfl
    have hn : (trX sl' mo (x.take j)).length = j := by simp [trX]; omega
    simp only [inv]
    rw [hF]
    generalize trX sl' mo (x.take j) = A at *
    generalize trimF sl' mo x[j] = f' at *
    have hb : (A.length + 1) * 64 ≤ maxLen' := by simp [maxLen']; omega
    simp only [i] at hen
    have hcell : ∀ x ∈ fc f', x.isCell = true := by simp [fc]
    by_cases hs0 : s = 0 <;> by_cases hk0 : k = 0 <;> by_cases hA : A = []
    · subst hA
      simp at hb
      simp [hs0, hk0] at e0 e1 l0 l1
      simp [hs, hk, hs0, hk0, mem14, at1, at2, accV, accH, out4, f14l0, body2, hd14a, cc, cs, rs, fs, sl, i, hj, l0, l1, e0, e1, e2, hen, hw, hb, fl_one, fl_append, pures_append, zero7, eq_true hcell]
    · simp [hs0, hk0] at e0 e1 l0 l1
      simp [hs, hk, hs0, hk0, hA, mem14, at1, at2, accV, accH, out4, f14l0, body2, hd14a, cc, cs, rs, fs, sl, i, hj, l0, l1, e0, e1, e2, hen, hw, hb, fl_one, fl_append, pures_append, zero7, eq_true hcell]
    · subst hA
      simp at hb
      simp [hs0] at e0 e1 l0 l1
      simp [hs, hk, hs0, hk0, mem14, at1, at2, accV, accH, out4, f14l0, body2, hd14a, cc, cs, rs, fs, sl, i, hj, l0, l1, e0, e1, e2, hen, hw, hb, fl_one, fl_append, pures_append, zero7, eq_true hcell]
    · simp [hs0] at e0 e1 l0 l1
      simp [hs, hk, hs0, hk0, hA, mem14, at1, at2, accV, accH, out4, f14l0, body2, hd14a, cc, cs, rs, fs, sl, i, hj, l0, l1, e0, e1, e2, hen, hw, hb, fl_one, fl_append, pures_append, zero7, eq_true hcell]
    · subst hA
      simp at hb
      simp [hk0] at e0 e1 l0 l1
      simp [hs, hk, hs0, hk0, mem14, at1, at2, accV, accH, out4, f14l0, body2, hd14a, cc, cs, rs, fs, sl, i, hj, l0, l1, e0, e1, e2, hen, hw, hb, fl_one, fl_append, pures_append, zero7, eq_true hcell]
    · simp [hk0] at e0 e1 l0 l1
      simp [hs, hk, hs0, hk0, hA, mem14, at1, at2, accV, accH, out4, f14l0, body2, hd14a, cc, cs, rs, fs, sl, i, hj, l0, l1, e0, e1, e2, hen, hw, hb, fl_one, fl_append, pures_append, zero7, eq_true hcell]
    · subst hA
      simp at hb
      simp [hs, hk, hs0, hk0, mem14, at1, at2, accV, accH, out4, f14l0, body2, hd14a, cc, cs, rs, fs, sl, i, hj, l0, l1, e0, e1, e2, hen, hw, hb, fl_one, fl_append, pures_append, zero7, eq_true hcell]
    · simp [hs, hk, hs0, hk0, hA, mem14, at1, at2, accV, accH, out4, f14l0, body2, hd14a, cc, cs, rs, fs, sl, i, hj, l0, l1, e0, e1, e2, hen, hw, hb, fl_one, fl_append, pures_append, zero7, eq_true hcell]
  · simp [inv, f14l0, body2, mem14, cc, cs, rs, fs, sl, i, e0, e1, l0, l1]
end Go.Abs.C
end

section
/- The document's trim (2). Conditions: none. -/
namespace Go.Abs.C
open Go Go.Abs
set_option maxRecDepth 10000

@[simp] theorem ml_one {α : Type} (e : α → AV) (a : α) : ml e [a] = [e a] := rfl
@[simp] theorem ml_append {α : Type} (e : α → AV) (a b : List α) : ml e (a ++ b) = ml e a ++ ml e b := by simp [ml]
theorem frz_acc6 {H : List AB} {b : Nat} {X : List Feat} (hb : X ≠ [] → H[b]? = some (.row (fl fc X))) : frz H false depthF (accV b 6 X.length) = some (fs X) := by
  unfold accV
  split
  · rename_i h
    obtain rfl : X = [] := List.length_eq_zero_iff.1 h
    exact frz_nils
  · rename_i h
    exact frz_row (hb (fun h0 => h (by rw [h0]; rfl))) (by simp) (by simp)
theorem frz_mem14 (c : Case) (Rs : List (List (List Feat))) (Rk : List (List Feat)) (X : List Feat) : frz (mem14 c Rs Rk X) false depthF (accV (at2 Rs.length Rk.length) 6 X.length) = some (fs X) := by
  refine frz_acc6 fun hX => ?_
  by_cases h1 : Rs = [] <;> by_cases h2 : Rk = [] <;> simp [mem14, at1, at2, accH, h1, h2, hX]

theorem t14b (c : Case) (sl' mo : Int) {s : Nat} {r : List (List Feat)} (hr : c.cells[s]? = some r) (hl : r.length ≤ 1000) (hx : ∀ x ∈ r, x.length ≤ 1000) (hok : ∀ x ∈ r, ∀ f ∈ x, OkO f.o) {Rs : List (List (List Feat))} (hs : Rs.length = s) (hsl : s ≤ 1000) :
    ∃ st1, LoopR T f14l1 hd14b ⟨[(1, i sl'), (2, i mo), (3, .ptr 0 0), (6, .ptr 1 0), (9, .ptr 2 0), (10, i s), (11, .nils), (12, i 0)], mem14 c Rs [] [], [], 0, 84, none⟩ (.exit 2, st1) ∧
      keepS [1, 2, 3, 6, 9, 10, 11] st1 = ⟨[(1, i sl'), (2, i mo), (3, .ptr 0 0), (6, .ptr 1 0), (9, .ptr 2 0), (10, i s), (11, accV (at1 s) 1 (trR sl' mo r).length)], mem14 c Rs (trR sl' mo r) [], [], 0, 84, none⟩ := by
  have e0 : List.take 1 (List.drop s (ml rs c.cells)) = [rs r] := at_map hr
  have l0 : s < c.cells.length := (List.getElem?_eq_some_iff.1 hr).1
  let inv (k : Nat) : ASt := ⟨[(1, i sl'), (2, i mo), (3, .ptr 0 0), (6, .ptr 1 0), (9, .ptr 2 0), (10, i s), (11, accV (at1 s) 1 (trR sl' mo (r.take k)).length), (12, i k)], mem14 c Rs (trR sl' mo (r.take k)) [], [], 0, 84, none⟩
  have key := LoopR.for' (T := T) (b := f14l1) (b' := body2 f14l1) (hd := hd14b) head_norm [1, 2, 3, 6, 9, 10, 11] inv r.length (e := .exit 2) (s := ⟨[(1, i sl'), (2, i mo), (3, .ptr 0 0), (6, .ptr 1 0), (9, .ptr 2 0), (10, i s), (11, accV (at1 s) 1 (trR sl' mo r).length)], mem14 c Rs (trR sl' mo r) [], [], 0, 84, none⟩) (fun k hk => ?_) ?_
  · obtain ⟨st1, h1, h2⟩ := key
    refine ⟨st1, ?_, h2⟩
    simpa [inv, trR, accV, accH] using h1
  · have hrk : r[k]? = some r[k] := List.getElem?_eq_getElem hk
    have e1 : List.take 1 (List.drop k (ml fs r)) = [fs r[k]] := at_map hrk
    have hw : IntKind.i64.wrap ((k : Int) + 1) = (k : Int) + 1 := wrap_ok (by omega) (by omega)
    have hF : trR sl' mo (r.take (k + 1)) = trR sl' mo (r.take k) ++ [trX sl' mo r[k]] := by
      simp only [trR]
      rw [← List.take_append_getElem hk, List.map_append]
      rfl
    have hn : (trR sl' mo (r.take k)).length = k := by simp [trR]; omega
    have hb : (k + 1) * 24 ≤ maxLen' := by simp [maxLen']; omega
    obtain ⟨st1, a1, a2⟩ := t14a c sl' mo hr hrk (hx _ (List.getElem_mem hk)) (hok _ (List.getElem_mem hk)) hs hn hsl (by omega)
    have a1' : ∀ st, hd14a st = some _ → code T (lim T) (.loop f14l0) st = some _ := a1
    have hz := frz_mem14 c Rs (trR sl' mo (r.take k)) (trX sl' mo r[k])
    rw [hs, hn] at hz
    simp only [inv, hn]
    rw [hF]
    generalize trR sl' mo (r.take k) = A at *
    generalize trX sl' mo r[k] = X at *
    have hw1 : IntKind.i64.wrap 1 = 1 := by decide
    clear hF a1
    have hT : List.take k (ml fs A) = ml fs A := List.take_of_length_le (by simp; omega)
    by_cases hs0 : s = 0 <;> by_cases hk0 : k = 0 <;> by_cases hX : X = []
    · obtain rfl : A = [] := List.length_eq_zero_iff.1 (by omega)
      simp [hs0, hk0] at e0 e1 l0 hb hk
      simp [hs, hn, hs0, hk0, hX, mem14, at1, at2, accV, accH, out4, cc, cs, sl, i, zero7] at a2 hz
      simp [hs, hn, hs0, hk0, hX, mem14, at1, at2, accV, accH, out4, cc, cs, sl, i, zero7, f14l1, body2, hd14b, rs, hk, l0, e0, e1]
      rw [a1']
      · simp [hs, hn, hs0, hk0, hX, mem14, at1, at2, accV, accH, out4, cc, cs, sl, i, zero7, rs, a2, hz, kilD_gsl, hw, hw1, hb, pures_append, hT]
      · simp [hs, hn, hs0, hk0, hX, mem14, at1, at2, accV, accH, out4, cc, cs, sl, i, zero7, hd14a]
    · obtain rfl : A = [] := List.length_eq_zero_iff.1 (by omega)
      simp [hs0, hk0] at e0 e1 l0 hb hk
      simp [hs, hn, hs0, hk0, hX, mem14, at1, at2, accV, accH, out4, cc, cs, sl, i, zero7] at a2 hz
      simp [hs, hn, hs0, hk0, hX, mem14, at1, at2, accV, accH, out4, cc, cs, sl, i, zero7, f14l1, body2, hd14b, rs, hk, l0, e0, e1]
      rw [a1']
      · simp [hs, hn, hs0, hk0, hX, mem14, at1, at2, accV, accH, out4, cc, cs, sl, i, zero7, rs, a2, hz, kilD_gsl, hw, hw1, hb, pures_append, hT]
      · simp [hs, hn, hs0, hk0, hX, mem14, at1, at2, accV, accH, out4, cc, cs, sl, i, zero7, hd14a]
    · simp [hs0] at e0 e1 l0 hb hk
      simp [hs, hn, hs0, hk0, hX, mem14, at1, at2, accV, accH, out4, cc, cs, sl, i, zero7] at a2 hz
      simp [hs, hn, hs0, hk0, hX, mem14, at1, at2, accV, accH, out4, cc, cs, sl, i, zero7, f14l1, body2, hd14b, rs, hk, l0, e0, e1]
      rw [a1']
      · simp [hs, hn, hs0, hk0, hX, mem14, at1, at2, accV, accH, out4, cc, cs, sl, i, zero7, rs, a2, hz, kilD_gsl, hw, hw1, hb, pures_append, hT]
      · simp [hs, hn, hs0, hk0, hX, mem14, at1, at2, accV, accH, out4, cc, cs, sl, i, zero7, hd14a]
    · simp [hs0] at e0 e1 l0 hb hk
      simp [hs, hn, hs0, hk0, hX, mem14, at1, at2, accV, accH, out4, cc, cs, sl, i, zero7] at a2 hz
      simp [hs, hn, hs0, hk0, hX, mem14, at1, at2, accV, accH, out4, cc, cs, sl, i, zero7, f14l1, body2, hd14b, rs, hk, l0, e0, e1]
      rw [a1']
      · simp [hs, hn, hs0, hk0, hX, mem14, at1, at2, accV, accH, out4, cc, cs, sl, i, zero7, rs, a2, hz, kilD_gsl, hw, hw1, hb, pures_append, hT]
      · simp [hs, hn, hs0, hk0, hX, mem14, at1, at2, accV, accH, out4, cc, cs, sl, i, zero7, hd14a]
    · obtain rfl : A = [] := List.length_eq_zero_iff.1 (by omega)
      simp [hk0] at e0 e1 l0 hb hk
      simp [hs, hn, hs0, hk0, hX, mem14, at1, at2, accV, accH, out4, cc, cs, sl, i, zero7] at a2 hz
      simp [hs, hn, hs0, hk0, hX, mem14, at1, at2, accV, accH, out4, cc, cs, sl, i, zero7, f14l1, body2, hd14b, rs, hk, l0, e0, e1]
      rw [a1']
      · simp [hs, hn, hs0, hk0, hX, mem14, at1, at2, accV, accH, out4, cc, cs, sl, i, zero7, rs, a2, hz, kilD_gsl, hw, hw1, hb, pures_append, hT]
      · simp [hs, hn, hs0, hk0, hX, mem14, at1, at2, accV, accH, out4, cc, cs, sl, i, zero7, hd14a]
    · obtain rfl : A = [] := List.length_eq_zero_iff.1 (by omega)
      simp [hk0] at e0 e1 l0 hb hk
      simp [hs, hn, hs0, hk0, hX, mem14, at1, at2, accV, accH, out4, cc, cs, sl, i, zero7] at a2 hz
      simp [hs, hn, hs0, hk0, hX, mem14, at1, at2, accV, accH, out4, cc, cs, sl, i, zero7, f14l1, body2, hd14b, rs, hk, l0, e0, e1]
      rw [a1']
      · simp [hs, hn, hs0, hk0, hX, mem14, at1, at2, accV, accH, out4, cc, cs, sl, i, zero7, rs, a2, hz, kilD_gsl, hw, hw1, hb, pures_append, hT]
      · simp [hs, hn, hs0, hk0, hX, mem14, at1, at2, accV, accH, out4, cc, cs, sl, i, zero7, hd14a]
    · simp [hs, hn, hs0, hk0, hX, mem14, at1, at2, accV, accH, out4, cc, cs, sl, i, zero7] at a2 hz
      simp [hs, hn, hs0, hk0, hX, mem14, at1, at2, accV, accH, out4, cc, cs, sl, i, zero7, f14l1, body2, hd14b, rs, hk, l0, e0, e1]
      rw [a1']
      · simp [hs, hn, hs0, hk0, hX, mem14, at1, at2, accV, accH, out4, cc, cs, sl, i, zero7, rs, a2, hz, kilD_gsl, hw, hw1, hb, pures_append, hT]
      · simp [hs, hn, hs0, hk0, hX, mem14, at1, at2, accV, accH, out4, cc, cs, sl, i, zero7, hd14a]
    · simp [hs, hn, hs0, hk0, hX, mem14, at1, at2, accV, accH, out4, cc, cs, sl, i, zero7] at a2 hz
      simp [hs, hn, hs0, hk0, hX, mem14, at1, at2, accV, accH, out4, cc, cs, sl, i, zero7, f14l1, body2, hd14b, rs, hk, l0, e0, e1]
      rw [a1']
      · simp [hs, hn, hs0, hk0, hX, mem14, at1, at2, accV, accH, out4, cc, cs, sl, i, zero7, rs, a2, hz, kilD_gsl, hw, hw1, hb, pures_append, hT]
      · simp [hs, hn, hs0, hk0, hX, mem14, at1, at2, accV, accH, out4, cc, cs, sl, i, zero7, hd14a]
  · simp [inv, f14l1, body2, mem14, cc, cs, rs, sl, i, e0, l0]
end Go.Abs.C
end

section
/- The document's trim (3). Conditions: none. -/
namespace Go.Abs.C
open Go Go.Abs
set_option maxRecDepth 10000

theorem frz_mem14b (c : Case) (Rs : List (List (List Feat))) (R : List (List Feat)) : frz (mem14 c Rs R []) false depthF (accV (at1 Rs.length) 1 R.length) = some (rs R) := by
  refine frz_acc (by simp) (by simp) fun hX => ?_
  have hR : R ≠ [] := fun h => hX (by rw [h]; rfl)
  by_cases h1 : Rs = [] <;> simp [mem14, at1, accH, h1, hR]

/-- A case whose features can be trimmed. -/
def OkC (c : Case) : Prop := ∀ r ∈ c.cells, ∀ x ∈ r, ∀ f ∈ x, OkO f.o

theorem t14c (c : Case) (sl' mo : Int) (hc : Small c) (hok : OkC c) :
    ∃ st1, LoopR T f14l2 hd14c ⟨[(1, i sl'), (2, i mo), (3, .ptr 0 0), (6, .ptr 1 0), (9, .ptr 2 0), (10, i 0)], mem14 c [] [] [], [], 0, 84, none⟩ (.exit 0, st1) ∧
      keepS [6, 9] st1 = ⟨[(6, .ptr 1 0), (9, .ptr 2 0)], mem14 c (trC sl' mo c).cells [] [], [], 0, 84, none⟩ := by
  let inv (s : Nat) : ASt := ⟨[(1, i sl'), (2, i mo), (3, .ptr 0 0), (6, .ptr 1 0), (9, .ptr 2 0), (10, i s)], mem14 c ((c.cells.take s).map (trR sl' mo)) [] [], [], 0, 84, none⟩
  have key := LoopR.for' (T := T) (b := f14l2) (b' := body2 f14l2) (hd := hd14c) head_norm [6, 9] inv c.cells.length (e := .exit 0) (s := ⟨[(6, .ptr 1 0), (9, .ptr 2 0)], mem14 c (trC sl' mo c).cells [] [], [], 0, 84, none⟩) (fun s hsc => ?_) ?_
  · obtain ⟨st1, h1, h2⟩ := key
    refine ⟨st1, ?_, h2⟩
    simpa [inv] using h1
  · have hr : c.cells[s]? = some c.cells[s] := List.getElem?_eq_getElem hsc
    have hm := List.getElem_mem hsc
    have h4 := hc.cells
    have h24 := hc.row _ hm
    have e0 : List.take 1 (List.drop s (ml rs c.cells)) = [rs c.cells[s]] := at_map hr
    have hw : IntKind.i64.wrap ((s : Int) + 1) = (s : Int) + 1 := wrap_ok (by omega) (by omega)
    have hF : (c.cells.take (s + 1)).map (trR sl' mo) = (c.cells.take s).map (trR sl' mo) ++ [trR sl' mo c.cells[s]] := by
      rw [← List.take_append_getElem hsc, List.map_append]
      rfl
    have hs : ((c.cells.take s).map (trR sl' mo)).length = s := by simp; omega
    have hb : (s + 1) * 24 ≤ maxLen' := by simp [maxLen']; omega
    obtain ⟨st1, a1, a2⟩ := t14b c sl' mo hr (by omega) (fun x hx => by have := hc.cell _ hm x hx; omega) (hok _ hm) hs (by omega)
    have a1' : ∀ st, hd14b st = some _ → code T (lim T) (.loop f14l1) st = some _ := a1
    have hz := frz_mem14b c ((c.cells.take s).map (trR sl' mo)) (trR sl' mo c.cells[s])
    rw [hs] at hz
    simp only [inv]
    rw [hF]
    generalize (c.cells.take s).map (trR sl' mo) = A at *
    generalize trR sl' mo c.cells[s] = X at *
    have hw1 : IntKind.i64.wrap 1 = 1 := by decide
    have hT : List.take s (ml rs A) = ml rs A := List.take_of_length_le (by simp; omega)
    clear hF a1
    by_cases hs0 : s = 0 <;> by_cases hX : X = []
    · obtain rfl : A = [] := List.length_eq_zero_iff.1 (by omega)
      simp [hs0] at e0 hb hsc
      simp [hs, hs0, hX, mem14, at1, accV, accH, out4, cc, cs, sl, i, zero7] at a2 hz
      simp [hs, hs0, hX, mem14, at1, accV, accH, out4, cc, cs, sl, i, zero7, f14l2, body2, hd14c, rs, hsc, e0]
      rw [a1']
      · simp [hs, hs0, hX, mem14, at1, accV, accH, out4, cc, cs, sl, i, zero7, a2, hz, kilD_gsl, hw, hw1, hb, pures_append, hT] <;> rfl
      · simp [hs, hs0, hX, mem14, at1, accV, accH, out4, cc, cs, sl, i, zero7, hd14b]
    · obtain rfl : A = [] := List.length_eq_zero_iff.1 (by omega)
      simp [hs0] at e0 hb hsc
      simp [hs, hs0, hX, mem14, at1, accV, accH, out4, cc, cs, sl, i, zero7] at a2 hz
      simp [hs, hs0, hX, mem14, at1, accV, accH, out4, cc, cs, sl, i, zero7, f14l2, body2, hd14c, rs, hsc, e0]
      rw [a1']
      · simp [hs, hs0, hX, mem14, at1, accV, accH, out4, cc, cs, sl, i, zero7, a2, hz, kilD_gsl, hw, hw1, hb, pures_append, hT] <;> rfl
      · simp [hs, hs0, hX, mem14, at1, accV, accH, out4, cc, cs, sl, i, zero7, hd14b]
    · simp [hs, hs0, hX, mem14, at1, accV, accH, out4, cc, cs, sl, i, zero7] at a2 hz
      simp [hs, hs0, hX, mem14, at1, accV, accH, out4, cc, cs, sl, i, zero7, f14l2, body2, hd14c, rs, hsc, e0]
      rw [a1']
      · simp [hs, hs0, hX, mem14, at1, accV, accH, out4, cc, cs, sl, i, zero7, a2, hz, kilD_gsl, hw, hw1, hb, pures_append, hT] <;> rfl
      · simp [hs, hs0, hX, mem14, at1, accV, accH, out4, cc, cs, sl, i, zero7, hd14b]
    · simp [hs, hs0, hX, mem14, at1, accV, accH, out4, cc, cs, sl, i, zero7] at a2 hz
      simp [hs, hs0, hX, mem14, at1, accV, accH, out4, cc, cs, sl, i, zero7, f14l2, body2, hd14c, rs, hsc, e0]
      rw [a1']
      · simp [hs, hs0, hX, mem14, at1, accV, accH, out4, cc, cs, sl, i, zero7, a2, hz, kilD_gsl, hw, hw1, hb, pures_append, hT] <;> rfl
      · simp [hs, hs0, hX, mem14, at1, accV, accH, out4, cc, cs, sl, i, zero7, hd14b]
  · have ht : c.cells.take c.cells.length = c.cells := List.take_length
    simp only [inv, ht]
    simp [f14l2, body2, mem14, cc, cs, rs, sl, i, trC]

theorem trim14 (c : Case) (sl' mo : Int) (hc : Small c) (hok : caseErr c = 0 → OkC c) : Ret T 14 [.agg (cc c), i sl', i mo] (.tup [.agg (if caseErr c = 0 then cc (trC sl' mo c) else [.csl [] 0 none false, i 0, i 0, i 0, i 0, .bool false, .csl [] 0 none false]), i (caseErr c)]) := by
  have en15 : ∀ H, enter T (lim T) 0 15 [.agg (cc c)] H = _ := fun H => enterP (check15 c hc) (prim_no (by decide)) (by simp)
  refine Ret.of fn14 (by simp; decide) ?_
  simp only [i, cc] at en15
  by_cases h0 : caseErr c = 0
  case neg =>
    have g0 : (caseErr c != 0) = true := by simp [h0]
    simp [f14, f14b, cc, i, en15, h0, g0, depthF]
  simp only [h0] at en15
  obtain ⟨st1, a1, a2⟩ := t14c c sl' mo hc (hok h0)
  have a1' : ∀ st, hd14c st = some _ → code T (lim T) (.loop f14l2) st = some _ := a1
  have hcl : cc (trC sl' mo c) = frc c ++ [cs (trC sl' mo c).cells] := rfl
  rw [if_pos h0, hcl]
  generalize (trC sl' mo c).cells = A at *
  simp [f14, f14b, cc, i, en15, h0]
  rw [a1']
  · by_cases hA : A = []
    · simp [a2, hA, mem14, accV, accH, out4, zero7, depthF, frc, cs, sl, i, cc]
    · simp [a2, hA, mem14, accV, accH, out4, zero7, depthF, frc, cs, sl, i, cc]
  · simp [hd14c, mem14, accV, accH, out4, zero7, cc, i]
end Go.Abs.C
end

section
/- The least of options; a copy of clefs. Conditions: none. -/
namespace Go.Abs.C
open Go Go.Abs
set_option maxRecDepth 10000
theorem fn40 : T.fn 40 = some f40 := by rfl
theorem fn41 : T.fn 41 = some f41 := by rfl
theorem fn42 : T.fn 42 = some f42 := by rfl

theorem clone40 (l : List Int) (h0 : l ≠ []) (hl : l.length ≤ 1000) : Ret T 40 [il l] (il l) := by
  refine Ret.of fn40 (by simp; decide) ?_
  have hb : l.length * 8 ≤ maxLen' := by simp [maxLen']; omega
  have hcell : ∀ x ∈ ml i l, x.isCell = true := by simp [ml]
  have hn : ¬ l.length = 0 := fun h => h0 (List.length_eq_zero_iff.1 h)
  have haq : aeqn 1 (.csl (ml i l) l.length none false) .nils = some false := by
    cases l with
    | nil => exact absurd rfl h0
    | cons a l => rfl
  simp [f40, f40b, il, sl, h0, hn, hb, eq_true hcell, haq, frzD_gsl]

theorem sub42 (a b : Opt) (ha : 0 ≤ a.m ∧ a.m ≤ 10000) (hb : 0 ≤ b.m ∧ b.m ≤ 10000) : Ret T 42 [.agg (oc a), .agg (oc b)] (i (a.m - b.m)) := by
  refine Ret.of fn42 (by simp; decide) ?_
  have hw : IntKind.i64.wrap (a.m - b.m) = a.m - b.m := wrap_ok (by omega) (by omega)
  simp [f42, f42b, oc, i, hw]

def opt0 (l : List Opt) : Opt := match l with | [] => default | o :: _ => o
def bestO (l : List Opt) (j : Nat) : Opt := (l.take j).foldl (fun m o => if o.m < m.m then o else m) (opt0 l)
theorem bestO_succ {l : List Opt} {j : Nat} {o : Opt} (h : l[j]? = some o) : bestO l (j + 1) = if o.m < (bestO l j).m then o else bestO l j := by
  obtain ⟨hk, rfl⟩ := List.getElem?_eq_some_iff.1 h
  simp only [bestO]
  rw [← List.take_append_getElem hk, List.foldl_append]
  rfl
theorem bestO_m {l : List Opt} (h : OkO l) (j : Nat) (hj : j ≤ l.length) : (bestO l j).m = best l j := by
  induction j with
  | zero =>
    cases l with
    | nil => exact absurd rfl h.1
    | cons o l => rfl
  | succ j ih =>
    have hk : l[j]? = some (l[j]'(by omega)) := List.getElem?_eq_getElem (by omega)
    rw [bestO_succ hk, best_succ hk, ← ih (by omega)]
    split <;> omega
theorem bestO_one {l : List Opt} {o : Opt} (h : l[0]? = some o) : bestO l 1 = o := by
  rw [bestO_succ h]
  cases l with
  | nil => simp at h
  | cons a l => simp at h; subst h; simp [bestO, opt0]

theorem min41 (l : List Opt) (h : OkO l) : Ret T 41 [os l, .fn (.func 42) [] []] (.agg (oc (bestO l l.length))) := by
  have hp : 0 < l.length := by
    rcases Nat.eq_zero_or_pos l.length with h0 | h0
    · exact absurd (List.length_eq_zero_iff.1 h0) h.1
    · exact h0
  have hl := h.2.1
  let inv (j : Nat) : ASt := ⟨[(0, os l), (1, .fn (.func 42) [] []), (4, .ptr 0 0), (5, .ptr 1 0), (6, i (j + 1 : Nat))], [.row [i 0, i 0], .row (oc (bestO l (j + 1)))], [], 0, 33, none⟩
  have key := LoopR.for' (T := T) (b := f41l0) (b' := body f41l0) (hd := doHint (.keep [0, 1, 4, 5, 6])) head_keep [4, 5] inv (l.length - 1) (e := .exit 0) (s := ⟨[(4, .ptr 0 0), (5, .ptr 1 0)], [.row [i 0, i 0], .row (oc (bestO l l.length))], [], 0, 33, none⟩) (fun j hj => ?_) ?_
  · obtain ⟨st1, h1, h2⟩ := key
    have hk : l[0]? = some l[0] := List.getElem?_eq_getElem hp
    have e1 : List.take 2 (fl oc l) = oc l[0] := at_fl (e := oc) (j := 0) len_oc hk
    have hp1 : ¬ ((l.length : Int) < 1) := by omega
    have h1' : ∀ st, doHint (.keep [0, 1, 4, 5, 6]) st = some (inv 0) → code T (lim T) (.loop f41l0) st = some _ := h1
    refine Ret.of fn41 (by simp; decide) ?_
    simp [oc, i] at h2 e1
    simp [f41, f41b, os, sl, i, hp, hp1, e1]
    rw [h1']
    · simp [h2, oc, i]
    · simp [inv, os, sl, i, oc, bestO_one hk]
  · have hk : l[j + 1]? = some (l[j + 1]'(by omega)) := List.getElem?_eq_getElem (by omega)
    have hj2 : j + 1 < l.length := by omega
    have e1 : List.take 2 (List.drop ((j + 1) * 2) (fl oc l)) = oc (l[j + 1]'(by omega)) := at_fl len_oc hk
    have hw : IntKind.i64.wrap (((j + 1 : Nat) : Int) + 1) = ((j + 1 : Nat) : Int) + 1 := wrap_ok (by omega) (by omega)
    have hm := h.2.2 _ (List.mem_of_getElem? hk)
    have hb := best_ok h (j + 1)
    rw [← bestO_m h (j + 1) (by omega)] at hb
    have hs := bestO_succ hk
    have hen : ∀ H, enter T (lim T) 0 42 [.agg (oc (l[j + 1]'(by omega))), .agg (oc (bestO l (j + 1)))] H = _ := fun H => enterP (sub42 _ _ hm hb) (prim_no (by decide)) (by simp)
    simp only [inv, hs]
    generalize bestO l (j + 1) = B at *
    generalize l[j + 1]'(by omega) = o at *
    generalize j + 1 = J at *
    simp [oc, i] at e1 hen
    by_cases hlt : o.m < B.m
    · have h3 : o.m - B.m < 0 := by omega
      simp [f41l0, body, os, sl, i, oc, hj2, e1, hen, hw, hlt, h3]
    · have h3 : ¬ (o.m - B.m < 0) := by omega
      simp [f41l0, body, os, sl, i, oc, hj2, e1, hen, hw, hlt, h3]
  · have hx : l.length - 1 + 1 = l.length := by omega
    simp only [inv, hx]
    simp [f41l0, body, os, sl, i]
end Go.Abs.C
end

section
/- The program's trim: one option. Conditions: none. -/
namespace Go.Abs.C
open Go Go.Abs
set_option maxRecDepth 10000

theorem fn13 : T.fn 13 = some f13 := by rfl
def out13 (c : Case) (s : Nat) : List AV := [il c.clefs, i c.key, i c.beats, i c.unit, i c.bar, .bool c.free, accV 2 1 s]
def p1 (s : Nat) : Nat := if s = 0 then 2 else 3
def p2 (s k : Nat) : Nat := if k = 0 then p1 s else p1 s + 1
def p3 (s k j : Nat) : Nat := if j = 0 then p2 s k else p2 s k + 1
def mem13 (c : Case) (Rs : List (List (List Feat))) (Rk : List (List Feat)) (X : List Feat) : List AB :=
  [.row zero7, .row (out13 c Rs.length)] ++ accH Rs.length (ml rs Rs) ++ accH Rk.length (ml fs Rk) ++ accH X.length (fl fc X)
def hd13a : ASt → Option ASt := fun st => (doHint (.keep [1, 2, 6, 9, 12, 15, 18, 19, 42, 43, 44, 48, 49, 50, 54, 55, 56, 67, 68, 69]) st).bind (doHint .norm)
def hd13b : ASt → Option ASt := fun st => (doHint (.keep [1, 2, 6, 9, 12, 15, 42, 43, 44, 48, 49, 50, 54, 55, 56]) st).bind (doHint .norm)
def hd13c : ASt → Option ASt := fun st => (doHint (.keep [1, 2, 6, 9, 12, 42, 43, 44, 48, 49, 50]) st).bind (doHint .norm)
def hd13d : ASt → Option ASt := fun st => (doHint (.keep [1, 2, 6, 9, 42, 43, 44]) st).bind (doHint .norm)

/-- Where a loop over options stands. -/
def at13 (c : Case) (S N : Int) (Rs : List (List (List Feat))) (Rk : List (List Feat)) (X : List Feat) (r : List (List Feat)) (x : List Feat) (f : Feat) (b : Opt) (A : List Opt) (q : Nat) : ASt :=
  ⟨[(1, i S), (2, i N), (6, .ptr 0 0), (9, .ptr 1 0), (12, accV (p1 Rs.length) 1 Rk.length), (15, accV (p2 Rs.length Rk.length) 6 X.length), (18, .ptr (p3 Rs.length Rk.length X.length) 0), (19, .ptr (p3 Rs.length Rk.length X.length + 1) 0), (42, cs c.cells), (43, i c.cells.length), (44, i Rs.length), (48, rs r), (49, i r.length), (50, i Rk.length), (54, fs x), (55, i x.length), (56, i X.length), (67, os f.o), (68, i f.o.length), (69, i q)],
    mem13 c Rs Rk X ++ [.row (oc b), .row (pc f ++ [accV (p3 Rs.length Rk.length X.length + 2) 2 A.length])] ++ accH A.length (fl oc A), [], 0, 112, none⟩

theorem r13a (c : Case) (S N : Int) (Rs : List (List (List Feat))) (Rk : List (List Feat)) (X : List Feat) (r : List (List Feat)) (x : List Feat) (f : Feat) (b o : Opt) (A : List Opt) (q : Nat) (ho : f.o[q]? = some o) (hm : 0 ≤ o.m ∧ o.m ≤ 10000) (hb : 0 ≤ b.m ∧ b.m ≤ 10000) (hl : f.o.length ≤ 1000) (hA : A.length ≤ 1000) (c1 : o.m - b.m ≤ S) (c2 : (A.length : Int) < N) :
    goOn hd13a (code T (lim T) (body2 f13l0) (at13 c S N Rs Rk X r x f b A q)) = some (at13 c S N Rs Rk X r x f b (A ++ [o]) (q + 1)) := by
  have hq : q < f.o.length := (List.getElem?_eq_some_iff.1 ho).1
  have e3 : List.take 2 (List.drop (q * 2) (fl oc f.o)) = oc o := at_fl len_oc ho
  have hw : IntKind.i64.wrap ((q : Int) + 1) = (q : Int) + 1 := wrap_ok (by omega) (by omega)
  have hw2 : IntKind.i64.wrap (o.m - b.m) = o.m - b.m := wrap_ok (by omega) (by omega)
  have hbd : (A.length + 1) * 16 ≤ maxLen' := by simp [maxLen']; omega
  simp [oc, i] at e3
  by_cases h1 : Rs = [] <;> by_cases h2 : Rk = [] <;> by_cases h3 : X = [] <;> by_cases h4 : A = []
  · (subst h4; simp at hbd c2); simp [h1, h2, h3, at13, mem13, p1, p2, p3, accV, accH, out13, zero7, oc, fc, pc, f13l0, body2, hd13a, os, sl, i, hq, e3, hw, hw2, hbd, fl_one, fl_append, pures_append, c1, c2]
  · simp [h1, h2, h3, h4, at13, mem13, p1, p2, p3, accV, accH, out13, zero7, oc, fc, pc, f13l0, body2, hd13a, os, sl, i, hq, e3, hw, hw2, hbd, fl_one, fl_append, pures_append, c1, c2]
  · (subst h4; simp at hbd c2); simp [h1, h2, h3, at13, mem13, p1, p2, p3, accV, accH, out13, zero7, oc, fc, pc, f13l0, body2, hd13a, os, sl, i, hq, e3, hw, hw2, hbd, fl_one, fl_append, pures_append, c1, c2]
  · simp [h1, h2, h3, h4, at13, mem13, p1, p2, p3, accV, accH, out13, zero7, oc, fc, pc, f13l0, body2, hd13a, os, sl, i, hq, e3, hw, hw2, hbd, fl_one, fl_append, pures_append, c1, c2]
  · (subst h4; simp at hbd c2); simp [h1, h2, h3, at13, mem13, p1, p2, p3, accV, accH, out13, zero7, oc, fc, pc, f13l0, body2, hd13a, os, sl, i, hq, e3, hw, hw2, hbd, fl_one, fl_append, pures_append, c1, c2]
  · simp [h1, h2, h3, h4, at13, mem13, p1, p2, p3, accV, accH, out13, zero7, oc, fc, pc, f13l0, body2, hd13a, os, sl, i, hq, e3, hw, hw2, hbd, fl_one, fl_append, pures_append, c1, c2]
  · (subst h4; simp at hbd c2); simp [h1, h2, h3, at13, mem13, p1, p2, p3, accV, accH, out13, zero7, oc, fc, pc, f13l0, body2, hd13a, os, sl, i, hq, e3, hw, hw2, hbd, fl_one, fl_append, pures_append, c1, c2]
  · simp [h1, h2, h3, h4, at13, mem13, p1, p2, p3, accV, accH, out13, zero7, oc, fc, pc, f13l0, body2, hd13a, os, sl, i, hq, e3, hw, hw2, hbd, fl_one, fl_append, pures_append, c1, c2]
  · (subst h4; simp at hbd c2); simp [h1, h2, h3, at13, mem13, p1, p2, p3, accV, accH, out13, zero7, oc, fc, pc, f13l0, body2, hd13a, os, sl, i, hq, e3, hw, hw2, hbd, fl_one, fl_append, pures_append, c1, c2]
  · simp [h1, h2, h3, h4, at13, mem13, p1, p2, p3, accV, accH, out13, zero7, oc, fc, pc, f13l0, body2, hd13a, os, sl, i, hq, e3, hw, hw2, hbd, fl_one, fl_append, pures_append, c1, c2]
  · (subst h4; simp at hbd c2); simp [h1, h2, h3, at13, mem13, p1, p2, p3, accV, accH, out13, zero7, oc, fc, pc, f13l0, body2, hd13a, os, sl, i, hq, e3, hw, hw2, hbd, fl_one, fl_append, pures_append, c1, c2]
  · simp [h1, h2, h3, h4, at13, mem13, p1, p2, p3, accV, accH, out13, zero7, oc, fc, pc, f13l0, body2, hd13a, os, sl, i, hq, e3, hw, hw2, hbd, fl_one, fl_append, pures_append, c1, c2]
  · (subst h4; simp at hbd c2); simp [h1, h2, h3, at13, mem13, p1, p2, p3, accV, accH, out13, zero7, oc, fc, pc, f13l0, body2, hd13a, os, sl, i, hq, e3, hw, hw2, hbd, fl_one, fl_append, pures_append, c1, c2]
  · simp [h1, h2, h3, h4, at13, mem13, p1, p2, p3, accV, accH, out13, zero7, oc, fc, pc, f13l0, body2, hd13a, os, sl, i, hq, e3, hw, hw2, hbd, fl_one, fl_append, pures_append, c1, c2]
  · (subst h4; simp at hbd c2); simp [h1, h2, h3, at13, mem13, p1, p2, p3, accV, accH, out13, zero7, oc, fc, pc, f13l0, body2, hd13a, os, sl, i, hq, e3, hw, hw2, hbd, fl_one, fl_append, pures_append, c1, c2]
  · simp [h1, h2, h3, h4, at13, mem13, p1, p2, p3, accV, accH, out13, zero7, oc, fc, pc, f13l0, body2, hd13a, os, sl, i, hq, e3, hw, hw2, hbd, fl_one, fl_append, pures_append, c1, c2]
end Go.Abs.C
end

section
/- The program's trim: one option. Conditions: none. -/
namespace Go.Abs.C
open Go Go.Abs
set_option maxRecDepth 10000

theorem r13b (c : Case) (S N : Int) (Rs : List (List (List Feat))) (Rk : List (List Feat)) (X : List Feat) (r : List (List Feat)) (x : List Feat) (f : Feat) (b o : Opt) (A : List Opt) (q : Nat) (ho : f.o[q]? = some o) (hm : 0 ≤ o.m ∧ o.m ≤ 10000) (hb : 0 ≤ b.m ∧ b.m ≤ 10000) (hl : f.o.length ≤ 1000) (hA : A.length ≤ 1000) (c1 : o.m - b.m ≤ S) (c2 : ¬ (A.length : Int) < N) :
    goOn hd13a (code T (lim T) (body2 f13l0) (at13 c S N Rs Rk X r x f b A q)) = some (at13 c S N Rs Rk X r x f b A (q + 1)) := by
  have hq : q < f.o.length := (List.getElem?_eq_some_iff.1 ho).1
  have e3 : List.take 2 (List.drop (q * 2) (fl oc f.o)) = oc o := at_fl len_oc ho
  have hw : IntKind.i64.wrap ((q : Int) + 1) = (q : Int) + 1 := wrap_ok (by omega) (by omega)
  have hw2 : IntKind.i64.wrap (o.m - b.m) = o.m - b.m := wrap_ok (by omega) (by omega)
  have hbd : (A.length + 1) * 16 ≤ maxLen' := by simp [maxLen']; omega
  simp [oc, i] at e3
  by_cases h1 : Rs = [] <;> by_cases h2 : Rk = [] <;> by_cases h3 : X = [] <;> by_cases h4 : A = []
  · (subst h4; simp at hbd; have c3 : ¬ 0 < N := by simpa using c2); simp [h1, h2, h3, at13, mem13, p1, p2, p3, accV, accH, out13, zero7, oc, fc, pc, f13l0, body2, hd13a, os, sl, i, hq, e3, hw, hw2, hbd, fl_one, fl_append, pures_append, c1, c3]
  · simp [h1, h2, h3, h4, at13, mem13, p1, p2, p3, accV, accH, out13, zero7, oc, fc, pc, f13l0, body2, hd13a, os, sl, i, hq, e3, hw, hw2, hbd, fl_one, fl_append, pures_append, c1, c2]
  · (subst h4; simp at hbd; have c3 : ¬ 0 < N := by simpa using c2); simp [h1, h2, h3, at13, mem13, p1, p2, p3, accV, accH, out13, zero7, oc, fc, pc, f13l0, body2, hd13a, os, sl, i, hq, e3, hw, hw2, hbd, fl_one, fl_append, pures_append, c1, c3]
  · simp [h1, h2, h3, h4, at13, mem13, p1, p2, p3, accV, accH, out13, zero7, oc, fc, pc, f13l0, body2, hd13a, os, sl, i, hq, e3, hw, hw2, hbd, fl_one, fl_append, pures_append, c1, c2]
  · (subst h4; simp at hbd; have c3 : ¬ 0 < N := by simpa using c2); simp [h1, h2, h3, at13, mem13, p1, p2, p3, accV, accH, out13, zero7, oc, fc, pc, f13l0, body2, hd13a, os, sl, i, hq, e3, hw, hw2, hbd, fl_one, fl_append, pures_append, c1, c3]
  · simp [h1, h2, h3, h4, at13, mem13, p1, p2, p3, accV, accH, out13, zero7, oc, fc, pc, f13l0, body2, hd13a, os, sl, i, hq, e3, hw, hw2, hbd, fl_one, fl_append, pures_append, c1, c2]
  · (subst h4; simp at hbd; have c3 : ¬ 0 < N := by simpa using c2); simp [h1, h2, h3, at13, mem13, p1, p2, p3, accV, accH, out13, zero7, oc, fc, pc, f13l0, body2, hd13a, os, sl, i, hq, e3, hw, hw2, hbd, fl_one, fl_append, pures_append, c1, c3]
  · simp [h1, h2, h3, h4, at13, mem13, p1, p2, p3, accV, accH, out13, zero7, oc, fc, pc, f13l0, body2, hd13a, os, sl, i, hq, e3, hw, hw2, hbd, fl_one, fl_append, pures_append, c1, c2]
  · (subst h4; simp at hbd; have c3 : ¬ 0 < N := by simpa using c2); simp [h1, h2, h3, at13, mem13, p1, p2, p3, accV, accH, out13, zero7, oc, fc, pc, f13l0, body2, hd13a, os, sl, i, hq, e3, hw, hw2, hbd, fl_one, fl_append, pures_append, c1, c3]
  · simp [h1, h2, h3, h4, at13, mem13, p1, p2, p3, accV, accH, out13, zero7, oc, fc, pc, f13l0, body2, hd13a, os, sl, i, hq, e3, hw, hw2, hbd, fl_one, fl_append, pures_append, c1, c2]
  · (subst h4; simp at hbd; have c3 : ¬ 0 < N := by simpa using c2); simp [h1, h2, h3, at13, mem13, p1, p2, p3, accV, accH, out13, zero7, oc, fc, pc, f13l0, body2, hd13a, os, sl, i, hq, e3, hw, hw2, hbd, fl_one, fl_append, pures_append, c1, c3]
  · simp [h1, h2, h3, h4, at13, mem13, p1, p2, p3, accV, accH, out13, zero7, oc, fc, pc, f13l0, body2, hd13a, os, sl, i, hq, e3, hw, hw2, hbd, fl_one, fl_append, pures_append, c1, c2]
  · (subst h4; simp at hbd; have c3 : ¬ 0 < N := by simpa using c2); simp [h1, h2, h3, at13, mem13, p1, p2, p3, accV, accH, out13, zero7, oc, fc, pc, f13l0, body2, hd13a, os, sl, i, hq, e3, hw, hw2, hbd, fl_one, fl_append, pures_append, c1, c3]
  · simp [h1, h2, h3, h4, at13, mem13, p1, p2, p3, accV, accH, out13, zero7, oc, fc, pc, f13l0, body2, hd13a, os, sl, i, hq, e3, hw, hw2, hbd, fl_one, fl_append, pures_append, c1, c2]
  · (subst h4; simp at hbd; have c3 : ¬ 0 < N := by simpa using c2); simp [h1, h2, h3, at13, mem13, p1, p2, p3, accV, accH, out13, zero7, oc, fc, pc, f13l0, body2, hd13a, os, sl, i, hq, e3, hw, hw2, hbd, fl_one, fl_append, pures_append, c1, c3]
  · simp [h1, h2, h3, h4, at13, mem13, p1, p2, p3, accV, accH, out13, zero7, oc, fc, pc, f13l0, body2, hd13a, os, sl, i, hq, e3, hw, hw2, hbd, fl_one, fl_append, pures_append, c1, c2]
end Go.Abs.C
end

section
/- The program's trim: one option. Conditions: none. -/
namespace Go.Abs.C
open Go Go.Abs
set_option maxRecDepth 10000
set_option maxHeartbeats 2000000

theorem r13c (c : Case) (S N : Int) (Rs : List (List (List Feat))) (Rk : List (List Feat)) (X : List Feat) (r : List (List Feat)) (x : List Feat) (f : Feat) (b o : Opt) (A : List Opt) (q : Nat) (ho : f.o[q]? = some o) (hm : 0 ≤ o.m ∧ o.m ≤ 10000) (hb : 0 ≤ b.m ∧ b.m ≤ 10000) (hl : f.o.length ≤ 1000) (hA : A.length ≤ 1000) (c1 : ¬ o.m - b.m ≤ S) :
    goOn hd13a (code T (lim T) (body2 f13l0) (at13 c S N Rs Rk X r x f b A q)) = some (at13 c S N Rs Rk X r x f b A (q + 1)) := by
  have hq : q < f.o.length := (List.getElem?_eq_some_iff.1 ho).1
  have e3 : List.take 2 (List.drop (q * 2) (fl oc f.o)) = oc o := at_fl len_oc ho
  have hw : IntKind.i64.wrap ((q : Int) + 1) = (q : Int) + 1 := wrap_ok (by omega) (by omega)
  have hw2 : IntKind.i64.wrap (o.m - b.m) = o.m - b.m := wrap_ok (by omega) (by omega)
  have hbd : (A.length + 1) * 16 ≤ maxLen' := by simp [maxLen']; omega
  simp [oc, i] at e3
  by_cases h1 : Rs = [] <;> by_cases h2 : Rk = [] <;> by_cases h3 : X = [] <;> by_cases h4 : A = []
  · (subst h4; simp at hbd); simp [h1, h2, h3, at13, mem13, p1, p2, p3, accV, accH, out13, zero7, oc, fc, pc, f13l0, body2, hd13a, os, sl, i, hq, e3, hw, hw2, hbd, fl_one, fl_append, pures_append, c1]
  · simp [h1, h2, h3, h4, at13, mem13, p1, p2, p3, accV, accH, out13, zero7, oc, fc, pc, f13l0, body2, hd13a, os, sl, i, hq, e3, hw, hw2, hbd, fl_one, fl_append, pures_append, c1]
  · (subst h4; simp at hbd); simp [h1, h2, h3, at13, mem13, p1, p2, p3, accV, accH, out13, zero7, oc, fc, pc, f13l0, body2, hd13a, os, sl, i, hq, e3, hw, hw2, hbd, fl_one, fl_append, pures_append, c1]
  · simp [h1, h2, h3, h4, at13, mem13, p1, p2, p3, accV, accH, out13, zero7, oc, fc, pc, f13l0, body2, hd13a, os, sl, i, hq, e3, hw, hw2, hbd, fl_one, fl_append, pures_append, c1]
  · (subst h4; simp at hbd); simp [h1, h2, h3, at13, mem13, p1, p2, p3, accV, accH, out13, zero7, oc, fc, pc, f13l0, body2, hd13a, os, sl, i, hq, e3, hw, hw2, hbd, fl_one, fl_append, pures_append, c1]
  · simp [h1, h2, h3, h4, at13, mem13, p1, p2, p3, accV, accH, out13, zero7, oc, fc, pc, f13l0, body2, hd13a, os, sl, i, hq, e3, hw, hw2, hbd, fl_one, fl_append, pures_append, c1]
  · (subst h4; simp at hbd); simp [h1, h2, h3, at13, mem13, p1, p2, p3, accV, accH, out13, zero7, oc, fc, pc, f13l0, body2, hd13a, os, sl, i, hq, e3, hw, hw2, hbd, fl_one, fl_append, pures_append, c1]
  · simp [h1, h2, h3, h4, at13, mem13, p1, p2, p3, accV, accH, out13, zero7, oc, fc, pc, f13l0, body2, hd13a, os, sl, i, hq, e3, hw, hw2, hbd, fl_one, fl_append, pures_append, c1]
  · (subst h4; simp at hbd); simp [h1, h2, h3, at13, mem13, p1, p2, p3, accV, accH, out13, zero7, oc, fc, pc, f13l0, body2, hd13a, os, sl, i, hq, e3, hw, hw2, hbd, fl_one, fl_append, pures_append, c1]
  · simp [h1, h2, h3, h4, at13, mem13, p1, p2, p3, accV, accH, out13, zero7, oc, fc, pc, f13l0, body2, hd13a, os, sl, i, hq, e3, hw, hw2, hbd, fl_one, fl_append, pures_append, c1]
  · (subst h4; simp at hbd); simp [h1, h2, h3, at13, mem13, p1, p2, p3, accV, accH, out13, zero7, oc, fc, pc, f13l0, body2, hd13a, os, sl, i, hq, e3, hw, hw2, hbd, fl_one, fl_append, pures_append, c1]
  · simp [h1, h2, h3, h4, at13, mem13, p1, p2, p3, accV, accH, out13, zero7, oc, fc, pc, f13l0, body2, hd13a, os, sl, i, hq, e3, hw, hw2, hbd, fl_one, fl_append, pures_append, c1]
  · (subst h4; simp at hbd); simp [h1, h2, h3, at13, mem13, p1, p2, p3, accV, accH, out13, zero7, oc, fc, pc, f13l0, body2, hd13a, os, sl, i, hq, e3, hw, hw2, hbd, fl_one, fl_append, pures_append, c1]
  · simp [h1, h2, h3, h4, at13, mem13, p1, p2, p3, accV, accH, out13, zero7, oc, fc, pc, f13l0, body2, hd13a, os, sl, i, hq, e3, hw, hw2, hbd, fl_one, fl_append, pures_append, c1]
  · (subst h4; simp at hbd); simp [h1, h2, h3, at13, mem13, p1, p2, p3, accV, accH, out13, zero7, oc, fc, pc, f13l0, body2, hd13a, os, sl, i, hq, e3, hw, hw2, hbd, fl_one, fl_append, pures_append, c1]
  · simp [h1, h2, h3, h4, at13, mem13, p1, p2, p3, accV, accH, out13, zero7, oc, fc, pc, f13l0, body2, hd13a, os, sl, i, hq, e3, hw, hw2, hbd, fl_one, fl_append, pures_append, c1]
end Go.Abs.C
end

section
/- The program's trim: the options of a feature. Conditions: none. -/
namespace Go.Abs.C
open Go Go.Abs
set_option maxRecDepth 10000
set_option maxHeartbeats 2000000

theorem loop13a (c : Case) (sl' mo : Int) (Rs : List (List (List Feat))) (Rk : List (List Feat)) (X : List Feat) (r : List (List Feat)) (x : List Feat) (f : Feat) (h : OkO f.o) :
    ∃ st1, LoopR T f13l0 hd13a (at13 c (max sl' 0) (max mo 1) Rs Rk X r x f (bestO f.o f.o.length) [] 0) (.exit 6, st1) ∧
      keepS [1, 2, 6, 9, 12, 15, 19, 42, 43, 44, 48, 49, 50, 54, 55, 56] st1 = keepS [1, 2, 6, 9, 12, 15, 19, 42, 43, 44, 48, 49, 50, 54, 55, 56] (at13 c (max sl' 0) (max mo 1) Rs Rk X r x f (bestO f.o f.o.length) (trimF sl' mo f).o f.o.length) := by
  have hbm := bestO_m h f.o.length (Nat.le_refl _)
  have hb := best_ok h f.o.length
  rw [← hbm] at hb
  have ht : (trimF sl' mo f).o = pickO sl' mo (bestO f.o f.o.length).m f.o f.o.length := by rw [hbm]; rfl
  rw [ht]
  let inv (q : Nat) : ASt := at13 c (max sl' 0) (max mo 1) Rs Rk X r x f (bestO f.o f.o.length) (pickO sl' mo (bestO f.o f.o.length).m f.o q) q
  refine LoopR.for' (T := T) (b := f13l0) (b' := body2 f13l0) (hd := hd13a) head_norm [1, 2, 6, 9, 12, 15, 19, 42, 43, 44, 48, 49, 50, 54, 55, 56] inv f.o.length (fun q hq => ?_) ?_
  · have hk : f.o[q]? = some f.o[q] := List.getElem?_eq_getElem hq
    have hl := h.2.1
    have hm := h.2.2 _ (List.mem_of_getElem? hk)
    have hs := pick_succ (sl := sl') (mo := mo) (b := (bestO f.o f.o.length).m) hk
    have hlen := len_pick sl' mo (bestO f.o f.o.length).m f.o q
    simp only [inv, hs]
    generalize pickO sl' mo (bestO f.o f.o.length).m f.o q = A at *
    by_cases c1 : f.o[q].m - (bestO f.o f.o.length).m ≤ max sl' 0
    · by_cases c2 : (A.length : Int) < max mo 1
      · have : keepO sl' mo (bestO f.o f.o.length).m A f.o[q] = true := by
          unfold keepO
          rw [decide_eq_true c1, decide_eq_true c2]; rfl
        rw [if_pos this]
        exact r13a c _ _ Rs Rk X r x f _ _ A q hk hm hb hl (by omega) c1 c2
      · have : keepO sl' mo (bestO f.o f.o.length).m A f.o[q] = false := by
          unfold keepO
          rw [decide_eq_false c2, Bool.and_false]
        rw [this, if_neg Bool.false_ne_true]
        exact r13b c _ _ Rs Rk X r x f _ _ A q hk hm hb hl (by omega) c1 c2
    · have : keepO sl' mo (bestO f.o f.o.length).m A f.o[q] = false := by
        unfold keepO
        rw [decide_eq_false c1, Bool.false_and]
      rw [this, if_neg Bool.false_ne_true]
      exact r13c c _ _ Rs Rk X r x f _ _ A q hk hm hb hl (by omega) c1
  · simp only [inv, at13]
    simp [f13l0, body2, os, sl, i]
end Go.Abs.C
end

section
/- The program's trim: one feature. Conditions: none. -/
namespace Go.Abs.C
open Go Go.Abs
set_option maxRecDepth 10000
set_option maxHeartbeats 4000000

/-- Where a loop over features stands. -/
def bt13 (c : Case) (S N : Int) (Rs : List (List (List Feat))) (Rk : List (List Feat)) (X : List Feat) (r : List (List Feat)) (x : List Feat) : ASt :=
  ⟨[(1, i S), (2, i N), (6, .ptr 0 0), (9, .ptr 1 0), (12, accV (p1 Rs.length) 1 Rk.length), (15, accV (p2 Rs.length Rk.length) 6 X.length), (42, cs c.cells), (43, i c.cells.length), (44, i Rs.length), (48, rs r), (49, i r.length), (50, i Rk.length), (54, fs x), (55, i x.length), (56, i X.length)],
    mem13 c Rs Rk X, [], 0, 112, none⟩

theorem r13d (c : Case) (sl' mo : Int) (Rs : List (List (List Feat))) (Rk : List (List Feat)) (X : List Feat) (r : List (List Feat)) (x : List Feat) (f : Feat) (hf : x[X.length]? = some f) (h : OkO f.o) (hl : x.length ≤ 1000) :
    goOn hd13b (code T (lim T) (body2 f13l1) (bt13 c (max sl' 0) (max mo 1) Rs Rk X r x)) = some (bt13 c (max sl' 0) (max mo 1) Rs Rk (X ++ [trimF sl' mo f]) r x) := by
  obtain ⟨st1, a1, a2⟩ := loop13a c sl' mo Rs Rk X r x f h
  have hq : X.length < x.length := (List.getElem?_eq_some_iff.1 hf).1
  have e2 : List.take 6 (List.drop (X.length * 6) (fl fc x)) = fc f := at_fl len_fc hf
  have hw : IntKind.i64.wrap ((X.length : Int) + 1) = (X.length : Int) + 1 := wrap_ok (by omega) (by omega)
  have hbd : (X.length + 1) * 64 ≤ maxLen' := by simp [maxLen']; omega
  have en41 : ∀ H, enter T (lim T) 0 41 [os f.o, .fn (.func 42) [] []] H = _ := fun H => enterP (min41 f.o h) (prim_no (by decide)) (by simp)
  have a1' : ∀ st, hd13a st = some _ → code T (lim T) (.loop f13l0) st = some _ := a1
  have f1 : (trimF sl' mo f).a = f.a := rfl
  have f2 : (trimF sl' mo f).b = f.b := rfl
  have f3 : (trimF sl' mo f).c = f.c := rfl
  have f4 : (trimF sl' mo f).d = f.d := rfl
  have f5 : (trimF sl' mo f).e = f.e := rfl
  simp only [bt13]
  generalize trimF sl' mo f = F at *
  generalize bestO f.o f.o.length = b at *
  generalize max sl' 0 = S at *
  generalize max mo 1 = N at *
  simp only [at13] at a1' a2
  clear a1
  simp [fc, oc, os, sl, i] at e2 en41
  by_cases h1 : Rs = [] <;> by_cases h2 : Rk = [] <;> by_cases h3 : X = [] <;> by_cases h4 : F.o = []
  · subst h3
    simp at e2 hq hbd hf hw
    simp [f1, f2, f3, f4, f5, h1, h2, h4, mem13, p1, p2, p3, accV, accH, out13, zero7, fs, os, sl, i, oc, fc, pc] at a2
    simp [f1, f2, f3, f4, f5, h1, h2, h4, mem13, p1, p2, p3, accV, accH, out13, zero7, fs, os, sl, i, f13l1, body2, hd13b, hq, e2, en41, oc, fc, pc]
    rw [a1']
    · simp [f1, f2, f3, f4, f5, h1, h2, h4, mem13, p1, p2, p3, accV, accH, out13, zero7, fs, os, sl, i, a2, hw, hbd, oc, fc, pc, kilD_gsl, frzD_gsl, pures_append, fl_append, fl_one]
    · simp [f1, f2, f3, f4, f5, h1, h2, h4, mem13, p1, p2, p3, accV, accH, out13, zero7, fs, os, sl, i, hd13a, oc, fc, pc]
  · subst h3
    simp at e2 hq hbd hf hw
    simp [f1, f2, f3, f4, f5, h1, h2, h4, mem13, p1, p2, p3, accV, accH, out13, zero7, fs, os, sl, i, oc, fc, pc] at a2
    simp [f1, f2, f3, f4, f5, h1, h2, h4, mem13, p1, p2, p3, accV, accH, out13, zero7, fs, os, sl, i, f13l1, body2, hd13b, hq, e2, en41, oc, fc, pc]
    rw [a1']
    · simp [f1, f2, f3, f4, f5, h1, h2, h4, mem13, p1, p2, p3, accV, accH, out13, zero7, fs, os, sl, i, a2, hw, hbd, oc, fc, pc, kilD_gsl, frzD_gsl, pures_append, fl_append, fl_one]
    · simp [f1, f2, f3, f4, f5, h1, h2, h4, mem13, p1, p2, p3, accV, accH, out13, zero7, fs, os, sl, i, hd13a, oc, fc, pc]
  · simp [f1, f2, f3, f4, f5, h1, h2, h3, h4, mem13, p1, p2, p3, accV, accH, out13, zero7, fs, os, sl, i, oc, fc, pc] at a2
    simp [f1, f2, f3, f4, f5, h1, h2, h3, h4, mem13, p1, p2, p3, accV, accH, out13, zero7, fs, os, sl, i, f13l1, body2, hd13b, hq, e2, en41, oc, fc, pc]
    rw [a1']
    · simp [f1, f2, f3, f4, f5, h1, h2, h3, h4, mem13, p1, p2, p3, accV, accH, out13, zero7, fs, os, sl, i, a2, hw, hbd, oc, fc, pc, kilD_gsl, frzD_gsl, pures_append, fl_append, fl_one]
    · simp [f1, f2, f3, f4, f5, h1, h2, h3, h4, mem13, p1, p2, p3, accV, accH, out13, zero7, fs, os, sl, i, hd13a, oc, fc, pc]
  · simp [f1, f2, f3, f4, f5, h1, h2, h3, h4, mem13, p1, p2, p3, accV, accH, out13, zero7, fs, os, sl, i, oc, fc, pc] at a2
    simp [f1, f2, f3, f4, f5, h1, h2, h3, h4, mem13, p1, p2, p3, accV, accH, out13, zero7, fs, os, sl, i, f13l1, body2, hd13b, hq, e2, en41, oc, fc, pc]
    rw [a1']
    · simp [f1, f2, f3, f4, f5, h1, h2, h3, h4, mem13, p1, p2, p3, accV, accH, out13, zero7, fs, os, sl, i, a2, hw, hbd, oc, fc, pc, kilD_gsl, frzD_gsl, pures_append, fl_append, fl_one]
    · simp [f1, f2, f3, f4, f5, h1, h2, h3, h4, mem13, p1, p2, p3, accV, accH, out13, zero7, fs, os, sl, i, hd13a, oc, fc, pc]
  · subst h3
    simp at e2 hq hbd hf hw
    simp [f1, f2, f3, f4, f5, h1, h2, h4, mem13, p1, p2, p3, accV, accH, out13, zero7, fs, os, sl, i, oc, fc, pc] at a2
    simp [f1, f2, f3, f4, f5, h1, h2, h4, mem13, p1, p2, p3, accV, accH, out13, zero7, fs, os, sl, i, f13l1, body2, hd13b, hq, e2, en41, oc, fc, pc]
    rw [a1']
    · simp [f1, f2, f3, f4, f5, h1, h2, h4, mem13, p1, p2, p3, accV, accH, out13, zero7, fs, os, sl, i, a2, hw, hbd, oc, fc, pc, kilD_gsl, frzD_gsl, pures_append, fl_append, fl_one]
    · simp [f1, f2, f3, f4, f5, h1, h2, h4, mem13, p1, p2, p3, accV, accH, out13, zero7, fs, os, sl, i, hd13a, oc, fc, pc]
  · subst h3
    simp at e2 hq hbd hf hw
    simp [f1, f2, f3, f4, f5, h1, h2, h4, mem13, p1, p2, p3, accV, accH, out13, zero7, fs, os, sl, i, oc, fc, pc] at a2
    simp [f1, f2, f3, f4, f5, h1, h2, h4, mem13, p1, p2, p3, accV, accH, out13, zero7, fs, os, sl, i, f13l1, body2, hd13b, hq, e2, en41, oc, fc, pc]
    rw [a1']
    · simp [f1, f2, f3, f4, f5, h1, h2, h4, mem13, p1, p2, p3, accV, accH, out13, zero7, fs, os, sl, i, a2, hw, hbd, oc, fc, pc, kilD_gsl, frzD_gsl, pures_append, fl_append, fl_one]
    · simp [f1, f2, f3, f4, f5, h1, h2, h4, mem13, p1, p2, p3, accV, accH, out13, zero7, fs, os, sl, i, hd13a, oc, fc, pc]
  · simp [f1, f2, f3, f4, f5, h1, h2, h3, h4, mem13, p1, p2, p3, accV, accH, out13, zero7, fs, os, sl, i, oc, fc, pc] at a2
    simp [f1, f2, f3, f4, f5, h1, h2, h3, h4, mem13, p1, p2, p3, accV, accH, out13, zero7, fs, os, sl, i, f13l1, body2, hd13b, hq, e2, en41, oc, fc, pc]
    rw [a1']
    · simp [f1, f2, f3, f4, f5, h1, h2, h3, h4, mem13, p1, p2, p3, accV, accH, out13, zero7, fs, os, sl, i, a2, hw, hbd, oc, fc, pc, kilD_gsl, frzD_gsl, pures_append, fl_append, fl_one]
    · simp [f1, f2, f3, f4, f5, h1, h2, h3, h4, mem13, p1, p2, p3, accV, accH, out13, zero7, fs, os, sl, i, hd13a, oc, fc, pc]
  · simp [f1, f2, f3, f4, f5, h1, h2, h3, h4, mem13, p1, p2, p3, accV, accH, out13, zero7, fs, os, sl, i, oc, fc, pc] at a2
    simp [f1, f2, f3, f4, f5, h1, h2, h3, h4, mem13, p1, p2, p3, accV, accH, out13, zero7, fs, os, sl, i, f13l1, body2, hd13b, hq, e2, en41, oc, fc, pc]
    rw [a1']
    · simp [f1, f2, f3, f4, f5, h1, h2, h3, h4, mem13, p1, p2, p3, accV, accH, out13, zero7, fs, os, sl, i, a2, hw, hbd, oc, fc, pc, kilD_gsl, frzD_gsl, pures_append, fl_append, fl_one]
    · simp [f1, f2, f3, f4, f5, h1, h2, h3, h4, mem13, p1, p2, p3, accV, accH, out13, zero7, fs, os, sl, i, hd13a, oc, fc, pc]
  · subst h3
    simp at e2 hq hbd hf hw
    simp [f1, f2, f3, f4, f5, h1, h2, h4, mem13, p1, p2, p3, accV, accH, out13, zero7, fs, os, sl, i, oc, fc, pc] at a2
    simp [f1, f2, f3, f4, f5, h1, h2, h4, mem13, p1, p2, p3, accV, accH, out13, zero7, fs, os, sl, i, f13l1, body2, hd13b, hq, e2, en41, oc, fc, pc]
    rw [a1']
    · simp [f1, f2, f3, f4, f5, h1, h2, h4, mem13, p1, p2, p3, accV, accH, out13, zero7, fs, os, sl, i, a2, hw, hbd, oc, fc, pc, kilD_gsl, frzD_gsl, pures_append, fl_append, fl_one]
    · simp [f1, f2, f3, f4, f5, h1, h2, h4, mem13, p1, p2, p3, accV, accH, out13, zero7, fs, os, sl, i, hd13a, oc, fc, pc]
  · subst h3
    simp at e2 hq hbd hf hw
    simp [f1, f2, f3, f4, f5, h1, h2, h4, mem13, p1, p2, p3, accV, accH, out13, zero7, fs, os, sl, i, oc, fc, pc] at a2
    simp [f1, f2, f3, f4, f5, h1, h2, h4, mem13, p1, p2, p3, accV, accH, out13, zero7, fs, os, sl, i, f13l1, body2, hd13b, hq, e2, en41, oc, fc, pc]
    rw [a1']
    · simp [f1, f2, f3, f4, f5, h1, h2, h4, mem13, p1, p2, p3, accV, accH, out13, zero7, fs, os, sl, i, a2, hw, hbd, oc, fc, pc, kilD_gsl, frzD_gsl, pures_append, fl_append, fl_one]
    · simp [f1, f2, f3, f4, f5, h1, h2, h4, mem13, p1, p2, p3, accV, accH, out13, zero7, fs, os, sl, i, hd13a, oc, fc, pc]
  · simp [f1, f2, f3, f4, f5, h1, h2, h3, h4, mem13, p1, p2, p3, accV, accH, out13, zero7, fs, os, sl, i, oc, fc, pc] at a2
    simp [f1, f2, f3, f4, f5, h1, h2, h3, h4, mem13, p1, p2, p3, accV, accH, out13, zero7, fs, os, sl, i, f13l1, body2, hd13b, hq, e2, en41, oc, fc, pc]
    rw [a1']
    · simp [f1, f2, f3, f4, f5, h1, h2, h3, h4, mem13, p1, p2, p3, accV, accH, out13, zero7, fs, os, sl, i, a2, hw, hbd, oc, fc, pc, kilD_gsl, frzD_gsl, pures_append, fl_append, fl_one]
    · simp [f1, f2, f3, f4, f5, h1, h2, h3, h4, mem13, p1, p2, p3, accV, accH, out13, zero7, fs, os, sl, i, hd13a, oc, fc, pc]
  · simp [f1, f2, f3, f4, f5, h1, h2, h3, h4, mem13, p1, p2, p3, accV, accH, out13, zero7, fs, os, sl, i, oc, fc, pc] at a2
    simp [f1, f2, f3, f4, f5, h1, h2, h3, h4, mem13, p1, p2, p3, accV, accH, out13, zero7, fs, os, sl, i, f13l1, body2, hd13b, hq, e2, en41, oc, fc, pc]
    rw [a1']
    · simp [f1, f2, f3, f4, f5, h1, h2, h3, h4, mem13, p1, p2, p3, accV, accH, out13, zero7, fs, os, sl, i, a2, hw, hbd, oc, fc, pc, kilD_gsl, frzD_gsl, pures_append, fl_append, fl_one]
    · simp [f1, f2, f3, f4, f5, h1, h2, h3, h4, mem13, p1, p2, p3, accV, accH, out13, zero7, fs, os, sl, i, hd13a, oc, fc, pc]
  · subst h3
    simp at e2 hq hbd hf hw
    simp [f1, f2, f3, f4, f5, h1, h2, h4, mem13, p1, p2, p3, accV, accH, out13, zero7, fs, os, sl, i, oc, fc, pc] at a2
    simp [f1, f2, f3, f4, f5, h1, h2, h4, mem13, p1, p2, p3, accV, accH, out13, zero7, fs, os, sl, i, f13l1, body2, hd13b, hq, e2, en41, oc, fc, pc]
    rw [a1']
    · simp [f1, f2, f3, f4, f5, h1, h2, h4, mem13, p1, p2, p3, accV, accH, out13, zero7, fs, os, sl, i, a2, hw, hbd, oc, fc, pc, kilD_gsl, frzD_gsl, pures_append, fl_append, fl_one]
    · simp [f1, f2, f3, f4, f5, h1, h2, h4, mem13, p1, p2, p3, accV, accH, out13, zero7, fs, os, sl, i, hd13a, oc, fc, pc]
  · subst h3
    simp at e2 hq hbd hf hw
    simp [f1, f2, f3, f4, f5, h1, h2, h4, mem13, p1, p2, p3, accV, accH, out13, zero7, fs, os, sl, i, oc, fc, pc] at a2
    simp [f1, f2, f3, f4, f5, h1, h2, h4, mem13, p1, p2, p3, accV, accH, out13, zero7, fs, os, sl, i, f13l1, body2, hd13b, hq, e2, en41, oc, fc, pc]
    rw [a1']
    · simp [f1, f2, f3, f4, f5, h1, h2, h4, mem13, p1, p2, p3, accV, accH, out13, zero7, fs, os, sl, i, a2, hw, hbd, oc, fc, pc, kilD_gsl, frzD_gsl, pures_append, fl_append, fl_one]
    · simp [f1, f2, f3, f4, f5, h1, h2, h4, mem13, p1, p2, p3, accV, accH, out13, zero7, fs, os, sl, i, hd13a, oc, fc, pc]
  · simp [f1, f2, f3, f4, f5, h1, h2, h3, h4, mem13, p1, p2, p3, accV, accH, out13, zero7, fs, os, sl, i, oc, fc, pc] at a2
    simp [f1, f2, f3, f4, f5, h1, h2, h3, h4, mem13, p1, p2, p3, accV, accH, out13, zero7, fs, os, sl, i, f13l1, body2, hd13b, hq, e2, en41, oc, fc, pc]
    rw [a1']
    · simp [f1, f2, f3, f4, f5, h1, h2, h3, h4, mem13, p1, p2, p3, accV, accH, out13, zero7, fs, os, sl, i, a2, hw, hbd, oc, fc, pc, kilD_gsl, frzD_gsl, pures_append, fl_append, fl_one]
    · simp [f1, f2, f3, f4, f5, h1, h2, h3, h4, mem13, p1, p2, p3, accV, accH, out13, zero7, fs, os, sl, i, hd13a, oc, fc, pc]
  · simp [f1, f2, f3, f4, f5, h1, h2, h3, h4, mem13, p1, p2, p3, accV, accH, out13, zero7, fs, os, sl, i, oc, fc, pc] at a2
    simp [f1, f2, f3, f4, f5, h1, h2, h3, h4, mem13, p1, p2, p3, accV, accH, out13, zero7, fs, os, sl, i, f13l1, body2, hd13b, hq, e2, en41, oc, fc, pc]
    rw [a1']
    · simp [f1, f2, f3, f4, f5, h1, h2, h3, h4, mem13, p1, p2, p3, accV, accH, out13, zero7, fs, os, sl, i, a2, hw, hbd, oc, fc, pc, kilD_gsl, frzD_gsl, pures_append, fl_append, fl_one]
    · simp [f1, f2, f3, f4, f5, h1, h2, h3, h4, mem13, p1, p2, p3, accV, accH, out13, zero7, fs, os, sl, i, hd13a, oc, fc, pc]
end Go.Abs.C
end

section
/- The program's trim: rows. Conditions: none. -/
namespace Go.Abs.C
open Go Go.Abs
set_option maxRecDepth 10000
set_option maxHeartbeats 4000000

theorem loop13b (c : Case) (sl' mo : Int) (Rs : List (List (List Feat))) (Rk : List (List Feat)) (r : List (List Feat)) (x : List Feat) (hok : ∀ f ∈ x, OkO f.o) (hl : x.length ≤ 1000) :
    ∃ st1, LoopR T f13l1 hd13b (bt13 c (max sl' 0) (max mo 1) Rs Rk [] r x) (.exit 4, st1) ∧
      keepS [1, 2, 6, 9, 12, 15, 42, 43, 44, 48, 49, 50] st1 = keepS [1, 2, 6, 9, 12, 15, 42, 43, 44, 48, 49, 50] (bt13 c (max sl' 0) (max mo 1) Rs Rk (trX sl' mo x) r x) := by
  let inv (j : Nat) : ASt := bt13 c (max sl' 0) (max mo 1) Rs Rk (trX sl' mo (x.take j)) r x
  have key := LoopR.for' (T := T) (b := f13l1) (b' := body2 f13l1) (hd := hd13b) head_norm [1, 2, 6, 9, 12, 15, 42, 43, 44, 48, 49, 50] inv x.length (e := .exit 4) (s := keepS [1, 2, 6, 9, 12, 15, 42, 43, 44, 48, 49, 50] (bt13 c (max sl' 0) (max mo 1) Rs Rk (trX sl' mo x) r x)) (fun j hj => ?_) ?_
  · obtain ⟨st1, h1, h2⟩ := key
    refine ⟨st1, ?_, h2⟩
    simpa [inv, trX] using h1
  · have hn : (trX sl' mo (x.take j)).length = j := by simp [trX]; omega
    have hk : x[j]? = some x[j] := List.getElem?_eq_getElem hj
    have hF : trX sl' mo (x.take (j + 1)) = trX sl' mo (x.take j) ++ [trimF sl' mo x[j]] := by
      simp only [trX]
      rw [← List.take_append_getElem hj, List.map_append]
      rfl
    simp only [inv, hF]
    exact r13d c sl' mo Rs Rk _ r x x[j] (by rw [hn]; exact hk) (hok _ (List.getElem_mem hj)) hl
  · have ht : x.take x.length = x := List.take_length
    have hn : (trX sl' mo x).length = x.length := by simp [trX]
    simp only [inv, ht]
    generalize trX sl' mo x = X at *
    simp only [bt13, hn]
    simp [f13l1, body2, fs, sl, i]

theorem frz_mem13 (c : Case) (Rs : List (List (List Feat))) (Rk : List (List Feat)) (X : List Feat) : frz (mem13 c Rs Rk X) false depthF (accV (p2 Rs.length Rk.length) 6 X.length) = some (fs X) := by
  refine frz_acc6 fun hX => ?_
  by_cases h1 : Rs = [] <;> by_cases h2 : Rk = [] <;> simp [mem13, p1, p2, accH, h1, h2, hX]
theorem frz_mem13b (c : Case) (Rs : List (List (List Feat))) (R : List (List Feat)) : frz (mem13 c Rs R []) false depthF (accV (p1 Rs.length) 1 R.length) = some (rs R) := by
  refine frz_acc (by simp) (by simp) fun hX => ?_
  have hR : R ≠ [] := fun h => hX (by rw [h]; rfl)
  by_cases h1 : Rs = [] <;> simp [mem13, p1, accH, h1, hR]

/-- Where a loop over the cells of a row stands. -/
def ct13 (c : Case) (S N : Int) (Rs : List (List (List Feat))) (Rk : List (List Feat)) (r : List (List Feat)) : ASt :=
  ⟨[(1, i S), (2, i N), (6, .ptr 0 0), (9, .ptr 1 0), (12, accV (p1 Rs.length) 1 Rk.length), (42, cs c.cells), (43, i c.cells.length), (44, i Rs.length), (48, rs r), (49, i r.length), (50, i Rk.length)],
    mem13 c Rs Rk [], [], 0, 112, none⟩
/-- Where the loop over the rows stands. -/
def dt13 (c : Case) (S N : Int) (Rs : List (List (List Feat))) : ASt :=
  ⟨[(1, i S), (2, i N), (6, .ptr 0 0), (9, .ptr 1 0), (42, cs c.cells), (43, i c.cells.length), (44, i Rs.length)], mem13 c Rs [] [], [], 0, 112, none⟩

theorem r13e (c : Case) (sl' mo : Int) (Rs : List (List (List Feat))) (Rk : List (List Feat)) (r : List (List Feat)) (x : List Feat) (hx : r[Rk.length]? = some x) (hok : ∀ f ∈ x, OkO f.o) (hl : x.length ≤ 1000) (hr : r.length ≤ 1000) :
    goOn hd13c (code T (lim T) (body2 f13l2) (ct13 c (max sl' 0) (max mo 1) Rs Rk r)) = some (ct13 c (max sl' 0) (max mo 1) Rs (Rk ++ [trX sl' mo x]) r) := by
  obtain ⟨st1, a1, a2⟩ := loop13b c sl' mo Rs Rk r x hok hl
  have hq : Rk.length < r.length := (List.getElem?_eq_some_iff.1 hx).1
  have e2 : List.take 1 (List.drop Rk.length (ml fs r)) = [fs x] := at_map hx
  have hw : IntKind.i64.wrap ((Rk.length : Int) + 1) = (Rk.length : Int) + 1 := wrap_ok (by omega) (by omega)
  have hbd : (Rk.length + 1) * 24 ≤ maxLen' := by simp [maxLen']; omega
  have a1' : ∀ st, hd13b st = some _ → code T (lim T) (.loop f13l1) st = some _ := a1
  have hz := frz_mem13 c Rs Rk (trX sl' mo x)
  simp only [ct13]
  generalize trX sl' mo x = X at *
  generalize max sl' 0 = S at *
  generalize max mo 1 = N at *
  simp only [bt13] at a1' a2
  clear a1
  by_cases h1 : Rs = [] <;> by_cases h2 : Rk = [] <;> by_cases h3 : X = []
  · subst h2
    simp at e2 hq hbd hw
    simp [h1, h3, mem13, p1, p2, accV, accH, out13, zero7, rs, sl, i] at a2 hz
    simp [h1, h3, mem13, p1, p2, accV, accH, out13, zero7, rs, sl, i, f13l2, body2, hd13c, hq, e2, fs]
    rw [a1']
    · simp [h1, h3, mem13, p1, p2, accV, accH, out13, zero7, rs, sl, i, fs, a2, hw, hbd, kilD_gsl, pures_append] <;> rfl
    · simp [h1, h3, mem13, p1, p2, accV, accH, out13, zero7, rs, sl, i, fs, hd13b]
  · subst h2
    simp at e2 hq hbd hw
    simp [h1, h3, mem13, p1, p2, accV, accH, out13, zero7, rs, sl, i] at a2 hz
    simp [h1, h3, mem13, p1, p2, accV, accH, out13, zero7, rs, sl, i, f13l2, body2, hd13c, hq, e2, fs]
    rw [a1']
    · simp [h1, h3, mem13, p1, p2, accV, accH, out13, zero7, rs, sl, i, fs, a2, hz, hw, hbd, kilD_gsl, pures_append] <;> rfl
    · simp [h1, h3, mem13, p1, p2, accV, accH, out13, zero7, rs, sl, i, fs, hd13b]
  · simp [h1, h2, h3, mem13, p1, p2, accV, accH, out13, zero7, rs, sl, i] at a2 hz
    simp [h1, h2, h3, mem13, p1, p2, accV, accH, out13, zero7, rs, sl, i, f13l2, body2, hd13c, hq, e2, fs]
    rw [a1']
    · simp [h1, h2, h3, mem13, p1, p2, accV, accH, out13, zero7, rs, sl, i, fs, a2, hw, hbd, kilD_gsl, pures_append] <;> rfl
    · simp [h1, h2, h3, mem13, p1, p2, accV, accH, out13, zero7, rs, sl, i, fs, hd13b]
  · simp [h1, h2, h3, mem13, p1, p2, accV, accH, out13, zero7, rs, sl, i] at a2 hz
    simp [h1, h2, h3, mem13, p1, p2, accV, accH, out13, zero7, rs, sl, i, f13l2, body2, hd13c, hq, e2, fs]
    rw [a1']
    · simp [h1, h2, h3, mem13, p1, p2, accV, accH, out13, zero7, rs, sl, i, fs, a2, hz, hw, hbd, kilD_gsl, pures_append] <;> rfl
    · simp [h1, h2, h3, mem13, p1, p2, accV, accH, out13, zero7, rs, sl, i, fs, hd13b]
  · subst h2
    simp at e2 hq hbd hw
    simp [h1, h3, mem13, p1, p2, accV, accH, out13, zero7, rs, sl, i] at a2 hz
    simp [h1, h3, mem13, p1, p2, accV, accH, out13, zero7, rs, sl, i, f13l2, body2, hd13c, hq, e2, fs]
    rw [a1']
    · simp [h1, h3, mem13, p1, p2, accV, accH, out13, zero7, rs, sl, i, fs, a2, hw, hbd, kilD_gsl, pures_append] <;> rfl
    · simp [h1, h3, mem13, p1, p2, accV, accH, out13, zero7, rs, sl, i, fs, hd13b]
  · subst h2
    simp at e2 hq hbd hw
    simp [h1, h3, mem13, p1, p2, accV, accH, out13, zero7, rs, sl, i] at a2 hz
    simp [h1, h3, mem13, p1, p2, accV, accH, out13, zero7, rs, sl, i, f13l2, body2, hd13c, hq, e2, fs]
    rw [a1']
    · simp [h1, h3, mem13, p1, p2, accV, accH, out13, zero7, rs, sl, i, fs, a2, hz, hw, hbd, kilD_gsl, pures_append] <;> rfl
    · simp [h1, h3, mem13, p1, p2, accV, accH, out13, zero7, rs, sl, i, fs, hd13b]
  · simp [h1, h2, h3, mem13, p1, p2, accV, accH, out13, zero7, rs, sl, i] at a2 hz
    simp [h1, h2, h3, mem13, p1, p2, accV, accH, out13, zero7, rs, sl, i, f13l2, body2, hd13c, hq, e2, fs]
    rw [a1']
    · simp [h1, h2, h3, mem13, p1, p2, accV, accH, out13, zero7, rs, sl, i, fs, a2, hw, hbd, kilD_gsl, pures_append] <;> rfl
    · simp [h1, h2, h3, mem13, p1, p2, accV, accH, out13, zero7, rs, sl, i, fs, hd13b]
  · simp [h1, h2, h3, mem13, p1, p2, accV, accH, out13, zero7, rs, sl, i] at a2 hz
    simp [h1, h2, h3, mem13, p1, p2, accV, accH, out13, zero7, rs, sl, i, f13l2, body2, hd13c, hq, e2, fs]
    rw [a1']
    · simp [h1, h2, h3, mem13, p1, p2, accV, accH, out13, zero7, rs, sl, i, fs, a2, hz, hw, hbd, kilD_gsl, pures_append] <;> rfl
    · simp [h1, h2, h3, mem13, p1, p2, accV, accH, out13, zero7, rs, sl, i, fs, hd13b]
end Go.Abs.C
end

section
/- The program's trim. Conditions: none. -/
namespace Go.Abs.C
open Go Go.Abs
set_option maxRecDepth 10000
set_option maxHeartbeats 4000000

theorem loop13c (c : Case) (sl' mo : Int) (Rs : List (List (List Feat))) (r : List (List Feat)) (hok : ∀ x ∈ r, ∀ f ∈ x, OkO f.o) (hx : ∀ x ∈ r, x.length ≤ 1000) (hl : r.length ≤ 1000) :
    ∃ st1, LoopR T f13l2 hd13c (ct13 c (max sl' 0) (max mo 1) Rs [] r) (.exit 2, st1) ∧
      keepS [1, 2, 6, 9, 12, 42, 43, 44] st1 = keepS [1, 2, 6, 9, 12, 42, 43, 44] (ct13 c (max sl' 0) (max mo 1) Rs (trR sl' mo r) r) := by
  let inv (k : Nat) : ASt := ct13 c (max sl' 0) (max mo 1) Rs (trR sl' mo (r.take k)) r
  have key := LoopR.for' (T := T) (b := f13l2) (b' := body2 f13l2) (hd := hd13c) head_norm [1, 2, 6, 9, 12, 42, 43, 44] inv r.length (e := .exit 2) (s := keepS [1, 2, 6, 9, 12, 42, 43, 44] (ct13 c (max sl' 0) (max mo 1) Rs (trR sl' mo r) r)) (fun k hk => ?_) ?_
  · obtain ⟨st1, h1, h2⟩ := key
    refine ⟨st1, ?_, h2⟩
    simpa [inv, trR] using h1
  · have hn : (trR sl' mo (r.take k)).length = k := by simp [trR]; omega
    have hrk : r[k]? = some r[k] := List.getElem?_eq_getElem hk
    have hF : trR sl' mo (r.take (k + 1)) = trR sl' mo (r.take k) ++ [trX sl' mo r[k]] := by
      simp only [trR]
      rw [← List.take_append_getElem hk, List.map_append]
      rfl
    simp only [inv, hF]
    exact r13e c sl' mo Rs _ r r[k] (by rw [hn]; exact hrk) (hok _ (List.getElem_mem hk)) (hx _ (List.getElem_mem hk)) hl
  · have ht : r.take r.length = r := List.take_length
    have hn : (trR sl' mo r).length = r.length := by simp [trR]
    simp only [inv, ht]
    generalize trR sl' mo r = X at *
    simp only [ct13, hn]
    simp [f13l2, body2, rs, sl, i]

theorem r13f (c : Case) (sl' mo : Int) (Rs : List (List (List Feat))) (r : List (List Feat)) (hr : c.cells[Rs.length]? = some r) (hok : ∀ x ∈ r, ∀ f ∈ x, OkO f.o) (hx : ∀ x ∈ r, x.length ≤ 1000) (hl : r.length ≤ 1000) (hc : c.cells.length ≤ 1000) :
    goOn hd13d (code T (lim T) (body2 f13l3) (dt13 c (max sl' 0) (max mo 1) Rs)) = some (dt13 c (max sl' 0) (max mo 1) (Rs ++ [trR sl' mo r])) := by
  obtain ⟨st1, a1, a2⟩ := loop13c c sl' mo Rs r hok hx hl
  have hq : Rs.length < c.cells.length := (List.getElem?_eq_some_iff.1 hr).1
  have e2 : List.take 1 (List.drop Rs.length (ml rs c.cells)) = [rs r] := at_map hr
  have hw : IntKind.i64.wrap ((Rs.length : Int) + 1) = (Rs.length : Int) + 1 := wrap_ok (by omega) (by omega)
  have hbd : (Rs.length + 1) * 24 ≤ maxLen' := by simp [maxLen']; omega
  have a1' : ∀ st, hd13c st = some _ → code T (lim T) (.loop f13l2) st = some _ := a1
  have hz := frz_mem13b c Rs (trR sl' mo r)
  simp only [dt13]
  generalize trR sl' mo r = X at *
  generalize max sl' 0 = S at *
  generalize max mo 1 = N at *
  simp only [ct13] at a1' a2
  clear a1
  by_cases h1 : Rs = [] <;> by_cases h2 : X = []
  · subst h1
    simp at e2 hq hbd hw
    simp [h2, mem13, p1, p2, accV, accH, out13, zero7, cs, sl, i] at a2 hz
    simp [h2, mem13, p1, p2, accV, accH, out13, zero7, cs, sl, i, f13l3, body2, hd13d, hq, e2, rs]
    rw [a1']
    · simp [h2, mem13, p1, p2, accV, accH, out13, zero7, cs, sl, i, rs, a2, hw, hbd, kilD_gsl, pures_append] <;> rfl
    · simp [h2, mem13, p1, p2, accV, accH, out13, zero7, cs, sl, i, rs, hd13c]
  · subst h1
    simp at e2 hq hbd hw
    simp [h2, mem13, p1, p2, accV, accH, out13, zero7, cs, sl, i] at a2 hz
    simp [h2, mem13, p1, p2, accV, accH, out13, zero7, cs, sl, i, f13l3, body2, hd13d, hq, e2, rs]
    rw [a1']
    · simp [h2, mem13, p1, p2, accV, accH, out13, zero7, cs, sl, i, rs, a2, hz, hw, hbd, kilD_gsl, pures_append] <;> rfl
    · simp [h2, mem13, p1, p2, accV, accH, out13, zero7, cs, sl, i, rs, hd13c]
  · simp [h1, h2, mem13, p1, p2, accV, accH, out13, zero7, cs, sl, i] at a2 hz
    simp [h1, h2, mem13, p1, p2, accV, accH, out13, zero7, cs, sl, i, f13l3, body2, hd13d, hq, e2, rs]
    rw [a1']
    · simp [h1, h2, mem13, p1, p2, accV, accH, out13, zero7, cs, sl, i, rs, a2, hw, hbd, kilD_gsl, pures_append] <;> rfl
    · simp [h1, h2, mem13, p1, p2, accV, accH, out13, zero7, cs, sl, i, rs, hd13c]
  · simp [h1, h2, mem13, p1, p2, accV, accH, out13, zero7, cs, sl, i] at a2 hz
    simp [h1, h2, mem13, p1, p2, accV, accH, out13, zero7, cs, sl, i, f13l3, body2, hd13d, hq, e2, rs]
    rw [a1']
    · simp [h1, h2, mem13, p1, p2, accV, accH, out13, zero7, cs, sl, i, rs, a2, hz, hw, hbd, kilD_gsl, pures_append] <;> rfl
    · simp [h1, h2, mem13, p1, p2, accV, accH, out13, zero7, cs, sl, i, rs, hd13c]

theorem loop13d (c : Case) (sl' mo : Int) (hc : Small c) (hok : OkC c) :
    ∃ st1, LoopR T f13l3 hd13d (dt13 c (max sl' 0) (max mo 1) []) (.exit 0, st1) ∧
      keepS [6, 9] st1 = keepS [6, 9] (dt13 c (max sl' 0) (max mo 1) (trC sl' mo c).cells) := by
  let inv (s : Nat) : ASt := dt13 c (max sl' 0) (max mo 1) ((c.cells.take s).map (trR sl' mo))
  have key := LoopR.for' (T := T) (b := f13l3) (b' := body2 f13l3) (hd := hd13d) head_norm [6, 9] inv c.cells.length (e := .exit 0) (s := keepS [6, 9] (dt13 c (max sl' 0) (max mo 1) (trC sl' mo c).cells)) (fun s hs => ?_) ?_
  · obtain ⟨st1, h1, h2⟩ := key
    refine ⟨st1, ?_, h2⟩
    simpa [inv] using h1
  · have hn : ((c.cells.take s).map (trR sl' mo)).length = s := by simp; omega
    have hr : c.cells[s]? = some c.cells[s] := List.getElem?_eq_getElem hs
    have hm := List.getElem_mem hs
    have hF : (c.cells.take (s + 1)).map (trR sl' mo) = (c.cells.take s).map (trR sl' mo) ++ [trR sl' mo c.cells[s]] := by
      rw [← List.take_append_getElem hs, List.map_append]
      rfl
    simp only [inv, hF]
    exact r13f c sl' mo _ c.cells[s] (by rw [hn]; exact hr) (hok _ hm) (fun x hx => by have := hc.cell _ hm x hx; omega) (by have := hc.row _ hm; omega) (by have := hc.cells; omega)
  · have ht : c.cells.take c.cells.length = c.cells := List.take_length
    have hn : ((c.cells).map (trR sl' mo)).length = c.cells.length := by simp
    simp only [inv, ht, trC]
    generalize c.cells.map (trR sl' mo) = X at *
    simp only [dt13, hn]
    simp [f13l3, body2, cs, sl, i]

theorem trim13 (c : Case) (sl' mo : Int) (hc : Small c) (hok : caseErr c = 0 → OkC c) : Ret T 13 [.agg (cc c), i sl', i mo] (.tup [.agg (if caseErr c = 0 then cc (trC sl' mo c) else [.csl [] 0 none false, i 0, i 0, i 0, i 0, .bool false, .csl [] 0 none false]), i (caseErr c)]) := by
  have en10 : ∀ H, enter T (lim T) 0 10 [.agg (cc c)] H = _ := fun H => enterP (check10 c hc) (prim_no (by decide)) (by simp)
  refine Ret.of fn13 (by simp; decide) ?_
  simp only [i, cc] at en10
  by_cases h0 : caseErr c = 0
  case neg =>
    have g0 : (caseErr c != 0) = true := by simp [h0]
    simp [f13, f13b, cc, i, en10, h0, g0, depthF]
  simp only [h0] at en10
  have hfe : frameErr c = 0 := by
    by_cases hf : frameErr c = 0
    · exact hf
    · simp [caseErr, hf] at h0
  have hcl : c.clefs ≠ [] := by
    intro h
    simp [frameErr, h] at hfe
  have en40 : ∀ H, enter T (lim T) 0 40 [il c.clefs] H = _ := fun H => enterP (clone40 c.clefs hcl (by have := hc.clefs; omega)) (prim_no (by decide)) (by simp)
  obtain ⟨st1, a1, a2⟩ := loop13d c sl' mo hc (hok h0)
  have a1' : ∀ st, hd13d st = some _ → code T (lim T) (.loop f13l3) st = some _ := a1
  have hcc : cc (trC sl' mo c) = frc c ++ [cs (trC sl' mo c).cells] := rfl
  have m1 : (if sl' < 0 then 0 else sl') = max sl' 0 := by split <;> omega
  have m2 : (if mo < 1 then 1 else mo) = max mo 1 := by split <;> omega
  rw [if_pos h0, hcc]
  generalize (trC sl' mo c).cells = A at *
  generalize max sl' 0 = S at *
  generalize max mo 1 = N at *
  simp only [dt13] at a1' a2
  clear a1
  simp [cs, sl] at en10
  simp [f13, f13b, cc, cs, sl, i, en10, en40, h0, m1, m2]
  rw [a1']
  · by_cases hA : A = []
    · simp [a2, hA, mem13, accV, accH, out13, zero7, depthF, frc, cs, sl, i]
    · simp [a2, hA, mem13, accV, accH, out13, zero7, depthF, frc, cs, sl, i]
  · simp [hd13d, mem13, accV, accH, out13, zero7, cs, sl, i]
end Go.Abs.C
end

section
/- A case is as itself. Conditions: none. -/
namespace Go.Abs.C
open Go Go.Abs
set_option maxRecDepth 10000
set_option maxHeartbeats 2000000
theorem fn16 : T.fn 16 = some f16 := by rfl
theorem fn45 : T.fn 45 = some f45 := by rfl
theorem fn70 : T.fn 70 = some f70 := by rfl
theorem fn99 : T.fn 99 = some f99 := by rfl
theorem fn147 : T.fn 147 = some f147 := by rfl

theorem same147 (l : List Opt) (hl : l.length ≤ 1000) : Ret T 147 [os l, os l] (.bool true) := by
  let inv (j : Nat) : ASt := ⟨[(0, os l), (1, os l), (5, i j)], [], [], 0, 26, none⟩
  have key := LoopR.for' (T := T) (b := f147l0) (b' := body f147l0) (hd := doHint (.keep [0, 1, 5])) head_keep [] inv l.length (e := .exit 0) (s := ⟨[], [], [], 0, 26, none⟩) (fun j hj => ?_) ?_
  · obtain ⟨st1, h1, h2⟩ := key
    refine Ret.of fn147 (by simp; decide) ?_
    simp [LoopR, inv, os, sl, i] at h1
    simp [f147, f147b, os, sl, i, h1, h2]
  · have hk : l[j]? = some l[j] := List.getElem?_eq_getElem hj
    have e1 : List.take 2 (List.drop (j * 2) (fl oc l)) = oc l[j] := at_fl len_oc hk
    have hw : IntKind.i64.wrap ((j : Int) + 1) = (j : Int) + 1 := wrap_ok (by omega) (by omega)
    simp [oc, i] at e1
    simp [inv, f147l0, body, os, sl, i, hj, e1, hw, oc, aeqs]
  · simp [inv, f147l0, body, os, sl, i]

theorem same99 (f : Feat) (hl : f.o.length ≤ 1000) : Ret T 99 [.agg (fc f), .agg (fc f)] (.bool true) := by
  have hen : ∀ H, enter T (lim T) 0 147 [os f.o, os f.o] H = _ := fun H => enterP (same147 f.o hl) (prim_no (by decide)) (by simp)
  refine Ret.of fn99 (by simp; decide) ?_
  simp [f99, f99b, fc, i, hen, aeqs]

theorem same70 (l : List Feat) (hl : l.length ≤ 1000) (ho : ∀ f ∈ l, f.o.length ≤ 1000) : Ret T 70 [fs l, fs l] (.bool true) := by
  let inv (j : Nat) : ASt := ⟨[(0, fs l), (1, fs l), (5, i j)], [], [], 0, 27, none⟩
  have key := LoopR.for' (T := T) (b := f70l0) (b' := body f70l0) (hd := doHint (.keep [0, 1, 5])) head_keep [] inv l.length (e := .exit 0) (s := ⟨[], [], [], 0, 27, none⟩) (fun j hj => ?_) ?_
  · obtain ⟨st1, h1, h2⟩ := key
    refine Ret.of fn70 (by simp; decide) ?_
    simp [LoopR, inv, fs, sl, i] at h1
    simp [f70, f70b, fs, sl, i, h1, h2]
  · have hk : l[j]? = some l[j] := List.getElem?_eq_getElem hj
    have e1 : List.take 6 (List.drop (j * 6) (fl fc l)) = fc l[j] := at_fl len_fc hk
    have hw : IntKind.i64.wrap ((j : Int) + 1) = (j : Int) + 1 := wrap_ok (by omega) (by omega)
    have hen : ∀ H, enter T (lim T) 0 99 [.agg (fc l[j]), .agg (fc l[j])] H = _ := fun H => enterP (same99 l[j] (ho _ (List.getElem_mem hj))) (prim_no (by decide)) (by simp)
    simp [inv, f70l0, body, fs, sl, i, hj, e1, hw, hen]
  · simp [inv, f70l0, body, fs, sl, i]

/-- Lists that are not too long. -/
structure Fit (c : Case) : Prop where
  clefs : c.clefs.length ≤ 1000
  cells : c.cells.length ≤ 1000
  row : ∀ r ∈ c.cells, r.length ≤ 1000
  cell : ∀ r ∈ c.cells, ∀ x ∈ r, x.length ≤ 1000
  opts : ∀ r ∈ c.cells, ∀ x ∈ r, ∀ f ∈ x, f.o.length ≤ 1000

theorem loop45a (c : Case) (hc : Fit c) {s : Nat} {r : List (List Feat)} (hr : c.cells[s]? = some r) : let inv (k : Nat) : ASt := ⟨[(0, cs c.cells), (1, cs c.cells), (5, i s), (6, i k)], [], [], 0, 54, none⟩
    ∃ st1, LoopR T f45l0 (doHint (.keep [0, 1, 5, 6])) (inv 0) (.exit 2, st1) ∧ keepS [0, 1, 5] st1 = ⟨[(0, cs c.cells), (1, cs c.cells), (5, i s)], [], [], 0, 54, none⟩ := by
  intro inv
  have hm := List.mem_of_getElem? hr
  have ls : s < c.cells.length := (List.getElem?_eq_some_iff.1 hr).1
  have e0 : List.take 1 (List.drop s (ml rs c.cells)) = [rs r] := at_map hr
  refine LoopR.for' (T := T) (b := f45l0) (b' := body f45l0) (hd := doHint (.keep [0, 1, 5, 6])) head_keep [0, 1, 5] inv r.length (fun k hk => ?_) ?_
  · have hx : r[k]? = some r[k] := List.getElem?_eq_getElem hk
    have hkl := hc.row r hm
    have e1 : List.take 1 (List.drop k (ml fs r)) = [fs r[k]] := at_map hx
    have hw : IntKind.i64.wrap ((k : Int) + 1) = (k : Int) + 1 := wrap_ok (by omega) (by omega)
    have hen : ∀ H, enter T (lim T) 0 70 [fs r[k], fs r[k]] H = _ := fun H => enterP (same70 r[k] (hc.cell r hm _ (List.getElem_mem hk)) (hc.opts r hm _ (List.getElem_mem hk))) (prim_no (by decide)) (by simp)
    simp [inv, f45l0, body, cs, rs, sl, i, hk, ls, e0, e1, hw, hen]
  · simp [inv, f45l0, body, cs, rs, sl, i, ls, e0]

theorem same45 (c : Case) (hc : Fit c) : Ret T 45 [cs c.cells, cs c.cells] (.bool true) := by
  let inv (j : Nat) : ASt := ⟨[(0, cs c.cells), (1, cs c.cells), (5, i j)], [], [], 0, 54, none⟩
  have key := LoopR.for' (T := T) (b := f45l1) (b' := body f45l1) (hd := doHint (.keep [0, 1, 5])) head_keep [] inv c.cells.length (e := .exit 0) (s := ⟨[], [], [], 0, 54, none⟩) (fun s hs => ?_) ?_
  · obtain ⟨st1, h1, h2⟩ := key
    refine Ret.of fn45 (by simp; decide) ?_
    simp [LoopR, inv, cs, sl, i] at h1
    simp [f45, f45b, cs, sl, i, h1, h2]
  · have hr : c.cells[s]? = some c.cells[s] := List.getElem?_eq_getElem hs
    have hcl := hc.cells
    have e1 : List.take 1 (List.drop s (ml rs c.cells)) = [rs c.cells[s]] := at_map hr
    have hw : IntKind.i64.wrap ((s : Int) + 1) = (s : Int) + 1 := wrap_ok (by omega) (by omega)
    obtain ⟨st1, a1, a2⟩ := loop45a c hc hr
    simp [LoopR, cs, sl, i] at a1 a2
    simp [inv, f45l1, body, cs, rs, sl, i, hs, e1, hw, a1, a2]
  · simp [inv, f45l1, body, cs, sl, i]

theorem same16 (c : Case) (hc : Fit c) : Ret T 16 [.agg (cc c), .agg (cc c)] (.bool true) := by
  let inv (j : Nat) : ASt := ⟨[(2, .ptr 0 0), (3, .ptr 1 0), (5, i j)], [.row (cc c), .row (cc c)], [], 0, 77, none⟩
  have hen : ∀ H, enter T (lim T) 0 45 [cs c.cells, cs c.cells] H = _ := fun H => enterP (same45 c hc) (prim_no (by decide)) (by simp)
  have key := LoopR.for' (T := T) (b := f16l0) (b' := body f16l0) (hd := doHint (.keep [2, 3, 5])) head_keep [2, 3] inv c.clefs.length (e := .exit 0) (s := ⟨[(2, .ptr 0 0), (3, .ptr 1 0)], [.row (cc c), .row (cc c)], [], 0, 77, none⟩) (fun j hj => ?_) ?_
  · obtain ⟨st1, h1, h2⟩ := key
    refine Ret.of fn16 (by simp; decide) ?_
    simp [LoopR, inv, cc, il, sl, i] at h1 h2
    simp [f16, f16b, cc, il, sl, i, h1, h2, aeqs, hen]
  · have hk : c.clefs[j]? = some c.clefs[j] := List.getElem?_eq_getElem hj
    have hcl := hc.clefs
    have e1 : List.take 1 (List.drop j (ml i c.clefs)) = [i c.clefs[j]] := at_map hk
    have hw : IntKind.i64.wrap ((j : Int) + 1) = (j : Int) + 1 := wrap_ok (by omega) (by omega)
    simp [i] at e1
    simp [inv, f16l0, body, cc, il, sl, i, hj, e1, hw]
  · simp [inv, f16l0, body, cc, il, sl, i]
end Go.Abs.C
end

section
/- The statement of checks, by the walk. Conditions: none. -/
namespace Go.Abs.C
open Go Go.Abs
set_option maxRecDepth 10000
set_option maxHeartbeats 2000000
theorem fn3 : T.fn 3 = some f3 := by rfl

theorem awake8 : Ret T 8 [] (.bool true) := Ret.ground awake_call (by simp)

theorem ok_case {c : Case} (hc : Small c) (h : caseErr c = 0) : OkC c := by
  have e1 : (feats c).any noOpt = (origs c).any noOpt := any_o c (fun o => o.length == 0)
  have e2 : (feats c).any badFeat = (origs c).any badFeat := any_o c (fun o => o.any badOpt)
  have hf : frameErr c = 0 := by
    by_cases hf : frameErr c = 0
    · exact hf
    · simp [caseErr, hf] at h
  simp only [caseErr, hf, ne_eq, not_true_eq_false, if_false] at h
  split at h
  · cases h
  split at h
  · cases h
  split at h
  · cases h
  split at h
  · cases h
  rename_i h1
  split at h
  · cases h
  rename_i h2
  rw [e1] at h1
  rw [e2] at h2
  intro r hr x hx f hf
  have hm : f ∈ origs c := by
    simp only [origs, List.mem_flatMap, List.mem_flatten]
    exact ⟨r, hr, x, hx, hf⟩
  refine ⟨?_, by have := hc.opts r hr x hx f hf; omega, ?_⟩
  · intro h0
    exact h1 (List.any_eq_true.2 ⟨f, hm, by simp [noOpt, h0]⟩)
  · intro o ho
    have hb : badOpt o = false := by
      rw [Bool.eq_false_iff]
      intro hb
      exact h2 (List.any_eq_true.2 ⟨f, hm, List.any_eq_true.2 ⟨o, ho, hb⟩⟩)
    simp [badOpt] at hb
    omega

theorem fit_small {c : Case} (hc : Small c) : Fit c where
  clefs := by have := hc.clefs; omega
  cells := by have := hc.cells; omega
  row r hr := by have := hc.row r hr; omega
  cell r hr x hx := by have := hc.cell r hr x hx; omega
  opts r hr x hx f hf := by have := hc.opts r hr x hx f hf; omega
theorem fit_trim {c : Case} (hc : Small c) (sl' mo : Int) : Fit (trC sl' mo c) where
  clefs := by have := hc.clefs; simp only [trC]; omega
  cells := by have := hc.cells; simp only [trC, List.length_map]; omega
  row r hr := by
    simp only [trC, List.mem_map] at hr
    obtain ⟨r, hr, rfl⟩ := hr
    have := hc.row r hr; simp only [trR, List.length_map]; omega
  cell r hr x hx := by
    simp only [trC, List.mem_map] at hr
    obtain ⟨r, hr, rfl⟩ := hr
    simp only [trR, List.mem_map] at hx
    obtain ⟨x, hx, rfl⟩ := hx
    have := hc.cell r hr x hx; simp only [trX, List.length_map]; omega
  opts r hr x hx f hf := by
    simp only [trC, List.mem_map] at hr
    obtain ⟨r, hr, rfl⟩ := hr
    simp only [trR, List.mem_map] at hx
    obtain ⟨x, hx, rfl⟩ := hx
    simp only [trX, List.mem_map] at hf
    obtain ⟨f, hf, rfl⟩ := hf
    have := hc.opts r hr x hx f hf
    have := len_pick sl' mo (best f.o f.o.length) f.o f.o.length
    simp only [trimF]; omega

def zeroC : Case := ⟨[], 0, 0, 0, 0, false, []⟩
theorem fit_zero : Fit zeroC := ⟨by simp [zeroC], by simp [zeroC], by simp [zeroC], by simp [zeroC], by simp [zeroC]⟩

theorem checks3 (c : Case) (sl' mo : Int) : Ret T 3 [.agg (cc c), i sl', i mo] (.bool true) := by
  obtain ⟨b, hb, hs⟩ := big_ok c
  have en7 : ∀ H, enter T (lim T) 0 7 [.agg (cc c)] H = _ := fun H => enterP hb (prim_no (by decide)) (by simp)
  have en8 : ∀ H, enter T (lim T) 0 8 [] H = _ := fun H => enterP awake8 (prim_no (by decide)) (by simp)
  refine Ret.of fn3 (by simp; decide) ?_
  cases b with
  | true => 
    simp only [cc, i] at en7
    simp [f3, f3b, cc, i, en7, en8]
  | false =>
    have hc := hs rfl
    have en9 : ∀ H, enter T (lim T) 0 9 [.agg (cc c)] H = _ := fun H => enterP (own_ok c hc) (prim_no (by decide)) (by simp)
    have en10 : ∀ H, enter T (lim T) 0 10 [.agg (cc c)] H = _ := fun H => enterP (check10 c hc) (prim_no (by decide)) (by simp)
    have en11 : ∀ H, enter T (lim T) 0 11 [.agg (cc c)] H = _ := fun H => enterP (count11 c hc) (prim_no (by decide)) (by simp)
    have en12 : ∀ H, enter T (lim T) 0 12 [.agg (cc c)] H = _ := fun H => enterP (count12 c hc) (prim_no (by decide)) (by simp)
    have en15 : ∀ H, enter T (lim T) 0 15 [.agg (cc c)] H = _ := fun H => enterP (check15 c hc) (prim_no (by decide)) (by simp)
    have en16 : ∀ c' : Case, Fit c' → ∀ H, enter T (lim T) 0 16 [.agg (cc c'), .agg (cc c')] H = _ := fun c' hc' H => enterP (same16 c' hc') (prim_no (by decide)) (by simp)
    obtain ⟨c2, hc2, hf2, t13, t14⟩ : ∃ c2, Fit c2 ∧ True ∧ Ret T 13 [.agg (cc c), i sl', i mo] (.tup [.agg (cc c2), i (caseErr c)]) ∧ Ret T 14 [.agg (cc c), i sl', i mo] (.tup [.agg (cc c2), i (caseErr c)]) := by
      have t13 := trim13 c sl' mo hc (ok_case hc)
      have t14 := trim14 c sl' mo hc (ok_case hc)
      by_cases h0 : caseErr c = 0
      · rw [if_pos h0] at t13 t14
        exact ⟨_, fit_trim hc sl' mo, trivial, t13, t14⟩
      · rw [if_neg h0] at t13 t14
        exact ⟨zeroC, fit_zero, trivial, t13, t14⟩
    have en13 : ∀ H, enter T (lim T) 0 13 [.agg (cc c), i sl', i mo] H = _ := fun H => enterP t13 (prim_no (by decide)) (by simp)
    have en14 : ∀ H, enter T (lim T) 0 14 [.agg (cc c), i sl', i mo] H = _ := fun H => enterP t14 (prim_no (by decide)) (by simp)
    have e1 := en16 c (fit_small hc)
    have e2 := en16 c2 hc2
    simp only [cc, i] at en7 en9 en10 en11 en12 en13 en14 en15 e1 e2
    simp [f3, f3b, cc, i, en7, en8, en9, en10, en11, en12, en13, en14, en15, e1, e2, zero7]
end Go.Abs.C
end
