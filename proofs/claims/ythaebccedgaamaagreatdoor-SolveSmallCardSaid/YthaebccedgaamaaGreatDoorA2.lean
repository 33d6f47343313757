/- The soundness of the walk's own code. Conditions: none. -/
import Derived.Test.YthaebccedgaamaaGreatDoorA1
import Derived.RangeFuncLeaves
import Derived.OrdersIn
import Derived.RecoverIn
set_option linter.unusedSimpArgs false
set_option linter.unusedVariables false
section
/- A call that runs in a memory of its own: what it is given is left alone from then on; what it hands back is told as the caller tells it. Conditions: none. -/
namespace Go.Abs

section
variable {P : Program} {T : Tab} {S : Sems} {w w' : World} {D D' : Nat → Prop} {ι ι' : Nat → Option Nat} {H : List AB}

theorem GL.mono (h : GL T w D) (hk : Keeps D w w') (hD : ∀ k, D k → D' k) : GL T w' D' := fun g cs hg => ⟨(h g cs hg).1, (h g cs hg).2.mono hk hD fun b k hb => by cases hb⟩

/-- How a call ends, told. -/
def EndRel (w : World) (D : Nat → Prop) (ι : Nat → Option Nat) : AEnd → Ending → Prop
  | .ret v, .returned x => VRel w D ι v x
  | .pan v, .panicked ch => ∃ x, ch = [{ v := x, recovered := false }] ∧ VRel w D ι v x
  | _, _ => False

/-- What a call must come to. -/
def CallPost (P : Program) (w : World) (D : Nat → Prop) (ι : Nat → Option Nat) (H : List AB) (r : AEnd) (H' : List AB) (e : Ending) (w' : World) : Prop :=
  ∃ D' ι', EndRel w' D' ι' r e ∧ HRel P w' D' ι' H' ∧ Ext w D (Live ι H) w' D' (Live ι' H') ∧ (∀ (b k : Nat), ι b = some k → ι' b = some k) ∧ H.length ≤ H'.length

/-- A call is what the walk says of it. -/
def Told (P : Program) (T : Tab) (f : Nat) (xs : List AV) (H : List AB) (r : AEnd) (H' : List AB) : Prop :=
  ∀ (w : World) (D : Nat → Prop) (ι : Nat → Option Nat) (args : Array Value), HRel P w D ι H → GL T w D → VRels w D ι xs args → CallsIn Fence.wide 0 P f args w (CallPost P w D ι H r H')

def CallOK (P : Program) (T : Tab) (S : Sems) : Prop := ∀ f xs H r H', S.call f xs H = some (r, H') → Told P T f xs H r H'
def PrimOK (P : Program) (T : Tab) : Prop := ∀ f xs v H, T.prim f xs = some v → Told P T f xs H (.ret v) H

theorem live_nil (k : Nat) : ¬ Live (fun _ => none) [] k := fun ⟨b, B, h, _, _⟩ => by simp at h

theorem hrel_nil (h : ∀ k, D k → k < w.heap.size) : HRel P w D (fun _ => none) [] :=
  ⟨fun b k h => by (cases h), h, fun b k h => by (cases h), fun b B k h => by simp at h, fun b b' B B' k h => by simp at h⟩

/-- Nothing that was there has been written: what stood told stands told, if more is known as unwritten but nothing that lives. -/
theorem frame (h : HRel P w D ι H) (hsame : ∀ k, k < w.heap.size → w'.heap[k]? = w.heap[k]?) (hsz : w.heap.size ≤ w'.heap.size) (hD : ∀ k, D k → D' k) (hlt : ∀ k, D' k → k < w'.heap.size)
    (hfree : ∀ k, Live ι H k → ¬ D' k) : HRel P w' D' ι H ∧ ∀ v x, VRel w D ι v x → VRel w' D' ι v x := by
  have hk : Keeps D w w' := ⟨fun k hk => hsame k (h.dlt k hk), fun k c e f hc hlt => ⟨c, f, (hsame k hlt).symm.trans hc, rfl⟩⟩
  have hv : ∀ v x, VRel w D ι v x → VRel w' D' ι v x := fun v x hv => hv.mono hk hD fun b k hb => ⟨hb, h.ilt b k hb⟩
  refine ⟨⟨h.dom, hlt, fun b k hb => Nat.lt_of_lt_of_le (h.ilt b k hb) hsz, fun b B k h1 h2 h3 => ⟨hfree k ⟨b, B, h1, h2, h3⟩, (h.blk b B k h1 h2 h3).2.mono (hsame k (h.ilt b k h3)) hv⟩, h.inj⟩, hv⟩

/-- What a call in a memory of its own comes to. -/
theorem iso_ok (hS : CallOK P T S) {f : Nat} {ys : List AV} {r : AEnd} {H0 : List AB} (hc : S.call f ys [] = some (r, H0)) (hlt : ∀ k, D k → k < w.heap.size) (hg : GL T w D) {args : Array Value} (hx : VRels w D ι ys args) (hp : AV.pures ys = true) :
    CallsIn Fence.wide 0 P f args w fun e w' => ∃ D1 ι1, EndRel w' D1 ι1 r e ∧ HRel P w' D1 ι1 H0 ∧ Ext w D (fun _ => False) w' D1 (Live ι1 H0) := by
  refine (hS f ys [] r H0 hc w D (fun _ => none) args (hrel_nil hlt) hg ⟨hx.1, fun j v x h1 h2 => (hx.2 j v x h1 h2).pure_names _ (AV.pures_iff.1 hp v (List.mem_of_getElem? h1))⟩).mono ?_
  rintro e w' ⟨D1, ι1, h1, h2, h3, _, _⟩
  refine ⟨D1, ι1, h1, h2, ⟨h3.os, h3.tape, h3.output, h3.size, fun k hk _ => h3.keep k hk (live_nil k), fun k hk => (h3.live k hk).elim (fun h => absurd h (live_nil k)) .inr, h3.dmono, fun k hk => ?_, h3.shape⟩⟩
  rcases h3.dnew k hk with h | h | h
  · exact .inl h
  · exact absurd h (live_nil k)
  · exact .inr (.inr h)

/-- Arguments told as memory that nobody writes. -/
theorem frzs_ok (h : HRel P w D ι H) {xs ys : List AV} {args : Array Value} (hf : optAll (frz H true depthF) xs = some ys) (hx : VRels w D ι xs args) :
    VRels w (fun k => D k ∨ Shut ι H (xs.flatMap (kil H depthF)) k) ι ys args ∧ AV.pures ys = true := by
  obtain ⟨h1, h2⟩ := optAll_get hf
  have key : ∀ (j : Nat) (u : AV), ys[j]? = some u → ∀ x, args[j]? = some x → VRel w (fun k => D k ∨ Shut ι H (xs.flatMap (kil H depthF)) k) ι u x ∧ u.pure = true := fun j u hj x hxj => by
    obtain ⟨v, h3, h4⟩ := h2 j u hj
    exact frz_ok h true (fun k hk => .inl hk) depthF v u x h4 (hx.2 j v x h3 hxj) fun k ⟨b, hb, rest⟩ => .inr ⟨b, List.mem_flatMap.2 ⟨v, List.mem_of_getElem? h3, hb⟩, rest⟩
  refine ⟨⟨hx.1.trans h1.symm, fun j u x hj hxj => (key j u hj x hxj).1⟩, AV.pures_iff.2 fun u hu => ?_⟩
  obtain ⟨j, hj⟩ := List.getElem?_of_mem hu
  have hlt : j < args.size := by rw [hx.1, ← h1]; exact (List.getElem?_eq_some_iff.1 hj).1
  exact (key j u hj _ (Array.getElem?_eq_getElem hlt)).2

theorem kil_pures (H : List AB) {xs : List AV} (h : AV.pures xs = true) : xs.flatMap (kil H depthF) = [] := by
  rw [List.flatMap_eq_nil_iff]
  exact fun v hv => kil_pure H depthF (AV.pures_iff.1 h v hv)

/-- After a call in a memory of its own: the caller's blocks, those shut that the arguments lead to. -/
theorem iso_shut (h : HRel P w D ι H) (ks : List Nat) {D1 : Nat → Prop} {ι1 : Nat → Option Nat} {H0 : List AB} {w' : World} (h0 : HRel P w' D1 ι1 H0) (hx : Ext w (fun k => D k ∨ Shut ι H ks k) (fun _ => False) w' D1 (Live ι1 H0)) (ks0 : List Nat) :
    HRel P w' (fun k => D1 k ∨ Shut ι1 H0 ks0 k) ι (killAll H ks) ∧ Ext w D (Live ι H) w' (fun k => D1 k ∨ Shut ι1 H0 ks0 k) (Live ι (killAll H ks)) := by
  obtain ⟨hs, he⟩ := hrel_shut h ks
  have new : ∀ k, Shut ι1 H0 ks0 k → w.heap.size ≤ k := fun k ⟨b, _, B, e1, e2, e3⟩ => (hx.live k ⟨b, B, e1, e2, e3⟩).elim False.elim id
  refine ⟨(frame hs (fun k hk => hx.keep k hk id) hx.size (fun k hk => .inl (hx.dmono k hk)) (fun k hk => ?_) (fun k hk hd => ?_)).1, ⟨hx.os, hx.tape, hx.output, hx.size, fun k hk _ => hx.keep k hk id, fun k hk => he.live k hk, fun k hk => .inl (hx.dmono k (.inl hk)), fun k hk => ?_, hx.shape⟩⟩
  · rcases hk with hk | ⟨b, _, B, _, _, e3⟩
    · exact h0.dlt k hk
    · exact h0.ilt b k e3
  · obtain ⟨b, B, e1, e2, e3⟩ := hk
    have hlt := hs.ilt b k e3
    rcases hd with hd | hd
    · rcases hx.dnew k hd with h1 | h1 | h1
      · exact (hs.blk b B k e1 e2 e3).1 h1
      · exact h1
      · omega
    · have := new k hd; omega
  · rcases hk with hk | hk
    · rcases hx.dnew k hk with h1 | h1 | h1
      · rcases h1 with h1 | ⟨b, _, B, e1, e2, e3⟩
        · exact .inl h1
        · exact .inr (.inl ⟨b, B, e1, e2, e3⟩)
      · exact h1.elim
      · exact .inr (.inr h1)
    · exact .inr (.inr (new k hk))

/-- After a call in a memory of its own that hands back nothing of memory: all is as it was. -/
theorem iso_flat (h : HRel P w D ι H) (hsame : ∀ k, k < w.heap.size → w'.heap[k]? = w.heap[k]?) {D1 D2 L1 : Nat → Prop} (hx : Ext w D1 (fun _ => False) w' D2 L1) :
    HRel P w' D ι H ∧ Ext w D (Live ι H) w' D (Live ι H) :=
  ⟨(frame h hsame hx.size (fun _ h => h) (fun k hk => Nat.lt_of_lt_of_le (h.dlt k hk) hx.size) (fun k ⟨b, B, e1, e2, e3⟩ hd => (h.blk b B k e1 e2 e3).1 hd)).1,
    ⟨hx.os, hx.tape, hx.output, hx.size, fun k hk _ => hsame k hk, fun k hk => .inl hk, fun k hk => hk, fun k hk => .inl hk, hx.shape⟩⟩

end
end Go.Abs
end

section
/- A call of a function, in each of the three ways in which the walk makes it. Conditions: none. -/
namespace Go.Abs

section
variable {P : Program} {T : Tab} {S : Sems} {w w' : World} {D D' : Nat → Prop} {ι ι' : Nat → Option Nat} {H : List AB}

def AB.vals : AB → List AV
  | .row cs => cs
  | .map es => es.map (·.1) ++ es.map (·.2)
  | .loop r => r.env.map (·.2)
  | _ => []

theorem renB_dead {f : Nat → Option Nat} {B B' : AB} (h : renB f B = some B') : B'.isDead = B.isDead := by
  cases B with
  | dead => cases h; rfl
  | row cs => simp only [renB, Option.map_eq_some_iff] at h; obtain ⟨c, _, rfl⟩ := h; rfl
  | map es => simp only [renB, Option.bind_eq_some_iff, Option.map_eq_some_iff] at h; obtain ⟨a, _, b, _, rfl⟩ := h; rfl
  | loop r => simp only [renB, Option.map_eq_some_iff] at h; obtain ⟨c, _, rfl⟩ := h; rfl
  | dfr => cases h; rfl

theorem env_get_zip {ks : List Nat} : ∀ {vs : List AV} {t : Nat} {v : AV}, Env.get (ks.zip vs) t = some v → ∃ j : Nat, ks[j]? = some t ∧ vs[j]? = some v ∧ ∀ i : Nat, i < j → ks[i]? ≠ some t := by
  induction ks with
  | nil => intro vs t v h; simp [Env.get] at h
  | cons k ks ih =>
    intro vs t v h
    cases vs with
    | nil => simp [Env.get] at h
    | cons u vs =>
      simp only [List.zip_cons_cons, Env.get] at h
      split at h
      · rename_i he; cases h; subst he; exact ⟨0, rfl, rfl, fun i hi => by omega⟩
      · rename_i hne
        obtain ⟨j, h1, h2, h3⟩ := ih h
        refine ⟨j + 1, by simpa using h1, by simpa using h2, fun i hi => ?_⟩
        cases i with
        | zero => simpa using hne
        | succ i => simpa using h3 i (by omega)

theorem env_get_self : ∀ {env : Env} {t j : Nat} {v : AV}, (env.map (·.1))[j]? = some t → (env.map (·.2))[j]? = some v → (∀ i : Nat, i < j → (env.map (·.1))[i]? ≠ some t) → env.get t = some v
  | [], t, j, v, h, _, _ => by simp at h
  | (k, u) :: env, t, j, v, h1, h2, h3 => by
    cases j with
    | zero => simp at h1 h2; subst h1 h2; simp [Env.get]
    | succ j =>
      have hne : k ≠ t := fun e => h3 0 (by omega) (by simp [e])
      simp only [Env.get, if_neg hne]
      exact env_get_self (j := j) (by simpa using h1) (by simpa using h2) (fun i hi => by simpa using h3 (i + 1) (by omega))

/-- What an environment by other numbers tells. -/
theorem env_ren {f : Nat → Option Nat} {env : Env} {vs : List AV} (hr : rensP f (env.map (·.2)) = some vs) {t : Nat} {v' : AV} (h : Env.get ((env.map (·.1)).zip vs) t = some v') : ∃ v, env.get t = some v ∧ v' ∈ ((env.map (·.1)).zip vs).map (·.2) ∧ v.renP f = some v' := by
  obtain ⟨j, h1, h2, h3⟩ := env_get_zip h
  obtain ⟨_, hg⟩ := rensP_get hr
  obtain ⟨v, h4, h5⟩ := hg j v' h2
  exact ⟨v, env_get_self h1 h4 h3, List.mem_map.2 ⟨(t, v'), List.mem_of_getElem? (List.getElem?_zip_eq_some.2 ⟨h1, h2⟩), rfl⟩, h5⟩

/-- A block by other numbers. -/
theorem bren {f : Nat → Option Nat} {B B' : AB} {k : Nat} (hb : BRel P w D ι k B) (hr : renB f B = some B') (hv : ∀ v v' x, v' ∈ B'.vals → VRel w D ι v x → v.renP f = some v' → VRel w D' ι' v' x) : BRel P w D' ι' k B' := by
  cases B with
  | dead => cases hr; trivial
  | row cs =>
    simp only [renB, Option.map_eq_some_iff] at hr
    obtain ⟨cs', hr, rfl⟩ := hr
    obtain ⟨hl, hg⟩ := rensP_get hr
    obtain ⟨c, e, h1, h2, h3⟩ := hb
    refine ⟨c, e, h1, by omega, fun j v' x hj hx => ?_⟩
    obtain ⟨v, h4, h5⟩ := hg j v' hj
    exact hv v v' x (List.mem_of_getElem? hj) (h3 j v x h4 hx) h5
  | map es =>
    simp only [renB, Option.bind_eq_some_iff, Option.map_eq_some_iff] at hr
    obtain ⟨ks, h1, vs, h2, rfl⟩ := hr
    obtain ⟨l1, g1⟩ := rensP_get h1
    obtain ⟨l2, g2⟩ := rensP_get h2
    simp only [List.length_map] at l1 l2
    obtain ⟨en, cl, h3, h4, h5, h6⟩ := hb
    refine ⟨en, cl, h3, by simp; omega, fun j p e hj he => ?_, h6⟩
    rw [List.getElem?_zip_eq_some] at hj
    obtain ⟨k1, k2, k3⟩ := g1 j _ hj.1
    obtain ⟨v1, v2, v3⟩ := g2 j _ hj.2
    rw [List.getElem?_map, Option.map_eq_some_iff] at k2 v2
    obtain ⟨q, hq, rfl⟩ := k2
    obtain ⟨q', hq', rfl⟩ := v2
    rw [hq] at hq'; cases hq'
    have := h5 j q e hq he
    have hm : p ∈ ks.zip vs := List.mem_of_getElem? (List.getElem?_zip_eq_some.2 hj)
    exact ⟨hv q.1 _ _ (List.mem_append_left _ (List.mem_map.2 ⟨p, hm, rfl⟩)) this.1 k3, hv q.2 _ _ (List.mem_append_right _ (List.mem_map.2 ⟨p, hm, rfl⟩)) this.2 v3⟩
  | loop r =>
    simp only [renB, Option.map_eq_some_iff] at hr
    obtain ⟨vs, hr, rfl⟩ := hr
    obtain ⟨L, h1, h2, h3, h4, h5, h6⟩ := hb
    refine ⟨L, h1, h2, h3, h4, fun t v' ht => ?_, h6⟩
    obtain ⟨v, g1, g2, g3⟩ := env_ren hr ht
    obtain ⟨x, x1, x2⟩ := h5 t v g1
    exact ⟨x, x1, hv v v' x g2 x2 g3⟩
  | dfr => cases hr; exact hb

theorem noc1_any {v : AV} {x : Value} (hn : noc1 v = true) (h : VRel w D ι v x) (D' : Nat → Prop) : VRel w D' ι v x := by
  cases h with
  | ptr h => exact .ptr h
  | msl h hl => exact .msl h hl
  | gsl h hl hs => exact .gsl h hl hs
  | mp h => exact .mp h
  | bool b => exact .bool b
  | int k n => exact .int k n
  | str s => exact .str s
  | nilp => exact .nilp
  | nils => exact .nils
  | nilm => exact .nilm
  | nilf => exact .nilf
  | nili => exact .nili
  | iface h => exact (VRel.iface h).flat_any w D' ι hn
  | agg a b => exact (VRel.agg a b).flat_any w D' ι hn
  | tup a b => exact (VRel.tup a b).flat_any w D' ι hn
  | cptr | csl | yld | fn => simp [noc1, AV.flat] at hn

theorem noc_any {v : AV} {x : Value} (hn : noc v = true) (h : VRel w D ι v x) (D' : Nat → Prop) : VRel w D' ι v x := by
  unfold noc at hn
  split at hn
  · rename_i vs
    cases h with
    | tup a b =>
      exact .tup a fun j v x h1 h2 => noc1_any (List.all_eq_true.1 hn v (List.mem_of_getElem? h1)) (b j v x h1 h2) D'
  · exact noc1_any hn h D'

/-- The blocks that a call hands over, behind the caller's own. -/
theorem join_ok {Hb Hn H0 : List AB} {D1 : Nat → Prop} {ι1 : Nat → Option Nat} (hb : HRel P w' D' ι Hb) (he : Ext w D (Live ι H) w' D' (Live ι Hb)) (h0 : HRel P w' D1 ι1 H0) (hnew : ∀ k, Live ι1 H0 k → w.heap.size ≤ k ∧ ¬ D' k)
    (hold : ∀ b k, ι b = some k → k < w.heap.size) (hr : optAll (renB fun b => some (b + Hb.length)) H0 = some Hn) {ι' : Nat → Option Nat} (hι : ∀ b, ι' b = if b < Hb.length then ι b else ι1 (b - Hb.length))
    (hv : ∀ B' ∈ Hn, ∀ v v' x, v' ∈ B'.vals → VRel w' D1 ι1 v x → v.renP (fun b => some (b + Hb.length)) = some v' → VRel w' D' ι' v' x) :
    HRel P w' D' ι' (Hb ++ Hn) ∧ Ext w D (Live ι H) w' D' (Live ι' (Hb ++ Hn)) ∧ ∀ (b k : Nat), ι b = some k → ι' b = some k := by
  obtain ⟨hl, hg⟩ := optAll_get hr
  have hιo : ∀ (b k : Nat), ι b = some k → ι' b = some k := fun b k h => by rw [hι, if_pos (hb.dom b k h)]; exact h
  have hcase : ∀ (b : Nat) (B : AB) (k : Nat), (Hb ++ Hn)[b]? = some B → B.isDead = false → ι' b = some k → (b < Hb.length ∧ Hb[b]? = some B ∧ ι b = some k) ∨ ∃ B0, b = Hb.length + (b - Hb.length) ∧ H0[b - Hb.length]? = some B0 ∧ B0.isDead = false ∧ renB (fun b => some (b + Hb.length)) B0 = some B ∧ ι1 (b - Hb.length) = some k := fun b B k h1 h2 h3 => by
    rw [hι] at h3
    by_cases hlt : b < Hb.length
    · rw [if_pos hlt] at h3
      rw [List.getElem?_append_left hlt] at h1
      exact .inl ⟨hlt, h1, h3⟩
    · rw [if_neg hlt] at h3
      rw [List.getElem?_append_right (by omega)] at h1
      obtain ⟨B0, a, c⟩ := hg _ B h1
      exact .inr ⟨B0, by omega, a, (renB_dead c).symm.trans h2, c, h3⟩
  have hmono : ∀ v x, VRel w' D' ι v x → VRel w' D' ι' v x := fun v x h => h.mono (Keeps.refl _ _) (fun _ h => h) fun b k hbk => ⟨hιo b k hbk, hb.ilt b k hbk⟩
  refine ⟨⟨fun b k h => ?_, hb.dlt, fun b k h => ?_, fun b B k h1 h2 h3 => ?_, fun b b' B B' k h1 h2 h3 h4 h5 h6 => ?_⟩, ⟨he.os, he.tape, he.output, he.size, he.keep, fun k hk => ?_, he.dmono, he.dnew, he.shape⟩, hιo⟩
  · rw [hι] at h
    rw [List.length_append]
    split at h
    · omega
    · have := h0.dom _ k h; omega
  · rw [hι] at h
    split at h
    · exact hb.ilt b k h
    · exact h0.ilt _ k h
  · rcases hcase b B k h1 h2 h3 with ⟨_, g1, g2⟩ | ⟨B0, _, g1, g2, g3, g4⟩
    · exact ⟨(hb.blk b B k g1 h2 g2).1, (hb.blk b B k g1 h2 g2).2.mono rfl hmono⟩
    · exact ⟨(hnew k ⟨_, B0, g1, g2, g4⟩).2, bren (h0.blk _ B0 k g1 g2 g4).2 g3 (hv B (by
        rw [List.getElem?_append_right (by omega)] at h1
        exact List.mem_of_getElem? h1))⟩
  · rcases hcase b B k h1 h2 h5 with ⟨_, g1, g2⟩ | ⟨B0, e0, g1, g2, g3, g4⟩ <;> rcases hcase b' B' k h3 h4 h6 with ⟨_, g1', g2'⟩ | ⟨B0', e0', g1', g2', g3', g4'⟩
    · exact hb.inj b b' B B' k g1 h2 g1' h4 g2 g2'
    · have := hold b k g2
      have := (hnew k ⟨_, B0', g1', g2', g4'⟩).1
      omega
    · have := hold b' k g2'
      have := (hnew k ⟨_, B0, g1, g2, g4⟩).1
      omega
    · have := h0.inj _ _ B0 B0' k g1 g2 g1' g2' g4 g4'
      omega
  · obtain ⟨b, B, h1, h2, h3⟩ := hk
    rcases hcase b B k h1 h2 h3 with ⟨_, g1, g2⟩ | ⟨B0, _, g1, g2, g3, g4⟩
    · exact he.live k ⟨b, B, g1, h2, g2⟩
    · exact .inr (hnew k ⟨_, B0, g1, g2, g4⟩).1

theorem nocB_vals {B : AB} (h : nocB B = true) : ∀ v ∈ B.vals, noc v = true := by
  intro v hv
  cases B with
  | dead => cases hv
  | row cs => exact List.all_eq_true.1 h v hv
  | map es =>
    simp only [nocB, List.all_eq_true, Bool.and_eq_true] at h
    simp only [AB.vals, List.mem_append, List.mem_map] at hv
    rcases hv with ⟨p, hp, rfl⟩ | ⟨p, hp, rfl⟩
    · exact (h p hp).1
    · exact (h p hp).2
  | loop r => cases h
  | dfr => cases hv

theorem enter_ok (hS : CallOK P T S) (hp : PrimOK P T) {m f : Nat} {xs : List AV} {H H' : List AB} {r : AEnd} (h : enter T S m f xs H = some (r, H')) : Told P T f xs H r H' := by
  unfold enter at h
  split at h
  · rename_i v hv; cases h; exact hp f xs v H hv
  · split at h
    · exact hS f xs H r H' h
    · simp only [Option.bind_eq_some_iff] at h
      obtain ⟨ys, hys, ⟨r0, H0⟩, hc, h⟩ := h
      intro w D ι args hh hg hx
      obtain ⟨hy, hpy⟩ := frzs_ok hh hys hx
      have hs := hrel_shut hh (xs.flatMap (kil H depthF))
      refine (iso_ok hS hc hs.1.dlt (hg.mono (Keeps.refl D w) fun k hk => .inl hk) hy hpy).mono ?_
      rintro e w' ⟨D1, ι1, he, h0, hx'⟩
      have hnewk : ∀ k, Live ι1 H0 k → w.heap.size ≤ k := fun k hk => (hx'.live k hk).elim False.elim id
      have hsame : ∀ k, k < w.heap.size → w'.heap[k]? = w.heap[k]? := fun k hk => hx'.keep k hk id
      have hlen : (killAll H (xs.flatMap (kil H depthF))).length = H.length := killAll_len _ _
      -- the caller's blocks, if the arguments lead to none
      have keepP : AV.pures xs = true → ∀ ks0, HRel P w' (fun k => D1 k ∨ Shut ι1 H0 ks0 k) ι H ∧ Ext w D (Live ι H) w' (fun k => D1 k ∨ Shut ι1 H0 ks0 k) (Live ι H) := fun hpx ks0 => by
        have := iso_shut hh (xs.flatMap (kil H depthF)) h0 hx' ks0
        rw [kil_pures H hpx] at this
        exact this
      match r0, he, h with
      | .ret v, he, h =>
        cases e with
        | panicked ch => exact he.elim
        | outgrown => exact he.elim
        | returned x =>
          simp only at h
          split at h
          · -- what it made becomes the caller's
            simp only [Option.bind_eq_some_iff, Option.map_eq_some_iff] at h
            obtain ⟨v', hv', Hn, hHn, h⟩ := h
            cases h
            let ι' : Nat → Option Nat := fun b => if b < H.length then ι b else ι1 (b - H.length)
            have hf : ∀ (b b' k : Nat), some (b + H.length) = some b' → ι1 b = some k → ι' b' = some k := fun b b' k h1 h2 => by
              cases h1
              show (if b + H.length < H.length then ι (b + H.length) else ι1 (b + H.length - H.length)) = some k
              rw [if_neg (by omega), Nat.add_sub_cancel]; exact h2
            have fin : ∀ (Hb : List AB) (D' : Nat → Prop), Hb.length = H.length → HRel P w' D' ι Hb → Ext w D (Live ι H) w' D' (Live ι Hb) → (∀ k, Live ι1 H0 k → ¬ D' k) →
                (∀ B' ∈ Hn, ∀ v v' x, v' ∈ B'.vals → VRel w' D1 ι1 v x → v.renP (fun b => some (b + H.length)) = some v' → VRel w' D' ι' v' x) → VRel w' D' ι' v' x →
                CallPost P w D ι H (.ret v') (Hb ++ Hn) (.returned x) w' := fun Hb D' hl g1 g2 g3 g4 g5 => by
              obtain ⟨j1, j2, j3⟩ := join_ok (ι' := ι') g1 g2 h0 (fun k hk => ⟨hnewk k hk, g3 k hk⟩) hh.ilt (by rw [hl]; exact hHn) (fun b => by rw [hl]) (fun B' hB v v' x hm hv hr => g4 B' hB v v' x hm hv (by rw [hl] at hr; exact hr))
              exact ⟨D', ι', g5, j1, j2, j3, by rw [List.length_append, hl]; omega⟩
            have ren1 : ∀ v v' x, VRel w' D1 ι1 v x → v.renP (fun b => some (b + H.length)) = some v' → VRel w' D1 ι' v' x := fun v v' x hv hr => hv.renP hf hr
            have up : ∀ (ks0 : List Nat) v x, VRel w' D1 ι' v x → VRel w' (fun k => D1 k ∨ Shut ι1 H0 ks0 k) ι' v x := fun ks0 v x hv => hv.mono (Keeps.refl _ _) (fun k hk => .inl hk) fun b k hb => ⟨hb, by
              have hb' : (if b < H.length then ι b else ι1 (b - H.length)) = some k := hb
              split at hb'
              · exact Nat.lt_of_lt_of_le (hh.ilt b k hb') hx'.size
              · exact h0.ilt _ k hb'⟩
            have shutD : ∀ k, Live ι1 H0 k → ¬ (D1 k ∨ Shut ι1 H0 [] k) := fun k ⟨b, B, e1, e2, e3⟩ hd => by
              rcases hd with hd | ⟨_, hm, _⟩
              · exact (h0.blk b B k e1 e2 e3).1 hd
              · cases hm
            by_cases hpx : AV.pures xs = true
            · simp only [hpx, Bool.true_or, if_true]
              obtain ⟨g1, g2⟩ := keepP hpx []
              exact fin H _ rfl g1 g2 shutD (fun B' _ v v' x _ hv hr => up [] _ _ (ren1 v v' x hv hr)) (up [] _ _ (ren1 v v' x he hv'))
            · by_cases hnc : (noc v' && Hn.all nocB) = true
              · simp only [hnc, Bool.or_true, if_true]
                simp only [Bool.and_eq_true] at hnc
                obtain ⟨g1, g2⟩ := iso_flat hh hsame hx'
                exact fin H D rfl g1 g2 (fun k hk hd => by have := hh.dlt k hd; have := hnewk k hk; omega) (fun B' hB v v' x hm hv hr => noc_any (nocB_vals (List.all_eq_true.1 hnc.2 B' hB) v' hm) (ren1 v v' x hv hr) D) (noc_any hnc.1 (ren1 v v' x he hv') D)
              · have hcond : (AV.pures xs || noc v' && Hn.all nocB) = false := by simp only [hnc, Bool.or_false]; simpa using hpx
                simp only [hcond, Bool.false_eq_true, if_false]
                obtain ⟨g1, g2⟩ := iso_shut hh (xs.flatMap (kil H depthF)) h0 hx' []
                exact fin _ _ hlen g1 g2 shutD (fun B' _ v v' x _ hv hr => up [] _ _ (ren1 v v' x hv hr)) (up [] _ _ (ren1 v v' x he hv'))
          · simp only [Option.map_eq_some_iff] at h
            obtain ⟨v', hv', h⟩ := h
            cases h
            obtain ⟨q1, q2⟩ := frz_ok (D' := fun k => D1 k ∨ Shut ι1 H0 (kil H0 depthF v) k) h0 false (fun k hk => .inl hk) depthF v v' x hv' he (fun k hk => .inr hk)
            have q3 := q1.pure_names ι q2
            by_cases hpx : AV.pures xs = true
            · simp only [hpx, Bool.true_or, if_true]
              obtain ⟨g1, g2⟩ := keepP hpx (kil H0 depthF v)
              exact ⟨_, ι, q3, g1, g2, fun _ _ h => h, Nat.le_refl _⟩
            · by_cases hfl : v'.flat = true
              · simp only [hfl, Bool.or_true, if_true]
                obtain ⟨g1, g2⟩ := iso_flat hh hsame hx'
                exact ⟨D, ι, q3.flat_any w' D ι hfl, g1, g2, fun _ _ h => h, Nat.le_refl _⟩
              · have hcond : (AV.pures xs || v'.flat) = false := by simp only [hfl, Bool.or_false]; simpa using hpx
                simp only [hcond, Bool.false_eq_true, if_false]
                obtain ⟨g1, g2⟩ := iso_shut hh (xs.flatMap (kil H depthF)) h0 hx' (kil H0 depthF v)
                exact ⟨_, ι, q3, g1, g2, fun _ _ h => h, Nat.le_of_eq hlen.symm⟩
      | .pan v, he, h =>
        cases e with
        | returned x => exact he.elim
        | outgrown => exact he.elim
        | panicked ch =>
          obtain ⟨x, rfl, hvx⟩ := he
          simp only [Option.bind_eq_some_iff] at h
          obtain ⟨v', hv', h⟩ := h
          split at h
          · rename_i hfl
            cases h
            obtain ⟨q1, q2⟩ := frz_ok (D' := fun k => D1 k ∨ Shut ι1 H0 (kil H0 depthF v) k) h0 false (fun k hk => .inl hk) depthF v v' x hv' hvx (fun k hk => .inr hk)
            obtain ⟨g1, g2⟩ := iso_flat hh hsame hx'
            exact ⟨D, ι, ⟨x, rfl, q1.flat_any w' D ι hfl⟩, g1, g2, fun _ _ h => h, Nat.le_refl _⟩
          · cases h

end
end Go.Abs
end

section
/- What the walk says of a frame; a round of a range over a function. Conditions: none. -/
namespace Go.Abs

section
variable {P : Program} {T : Tab} {S : Sems} {w w' : World} {D D' : Nat → Prop} {ι ι' : Nat → Option Nat} {H : List AB} {st st' st1 : ASt} {a a' : Act} {r : Option Nat}

/-- Every function let in, any depth; of the rounds of a loop, if any. -/
def Fw (r : Option Nat) : Fence := { Fence.wide with round := r }

/-- Deferred calls, told. -/
def DRel (w : World) (D : Nat → Prop) (ι : Nat → Option Nat) : List ADf → List Deferred → Prop
  | [], [] => True
  | .mark b :: ds, d :: es => (∃ k, ι b = some k ∧ d = { target := .collected k, args := #[] }) ∧ DRel w D ι ds es
  | .call f xs :: ds, d :: es => (∃ cap, d.target = .fn (.func f) cap ∧ VRels w D ι xs (d.args ++ cap)) ∧ DRel w D ι ds es
  | _, _ => False

theorem DRel.mono (hι : ∀ (b k : Nat), ι b = some k → ι' b = some k) (hv : ∀ v x, VRel w D ι v x → VRel w' D' ι' v x) : ∀ {ds : List ADf} {es : List Deferred}, DRel w D ι ds es → DRel w' D' ι' ds es
  | [], [], _ => trivial
  | .mark _ :: _, _ :: _, ⟨⟨k, h1, h2⟩, h⟩ => ⟨⟨k, hι _ k h1, h2⟩, DRel.mono hι hv h⟩
  | .call _ _ :: _, _ :: _, ⟨⟨cap, h1, h2⟩, h⟩ => ⟨⟨cap, h1, h2.1, fun j v x a b => hv v x (h2.2 j v x a b)⟩, DRel.mono hι hv h⟩
  | [], _ :: _, h => h.elim
  | .mark _ :: _, [], h => h.elim
  | .call _ _ :: _, [], h => h.elim

/-- A frame, told: r: the loop in whose round it is. -/
structure FRel (P : Program) (T : Tab) (st : ASt) (D : Nat → Prop) (ι : Nat → Option Nat) (a : Act) (w : World) (r : Option Nat) : Prop where
  s : SRel P T st D ι a w
  d : DRel w D ι st.dfs a.defers
  base : st.base ≤ st.H.length
  ro : match st.ro with | none => r = none | some b => b < st.base ∧ ∃ l, ι b = some l ∧ r = some l

/-- How code is left, told. -/
def XRel (w : World) (D : Nat → Prop) (ι : Nat → Option Nat) : AExit → Exit → Prop
  | .normal, .normal | .ret, .ret => True
  | .exit i, .exit j => i = j
  | .panic v, .panic ch => ∃ x, ch = [{ v := x, recovered := false }] ∧ VRel w D ι v x
  | _, _ => False

/-- What code must come to. -/
def CPost (P : Program) (T : Tab) (w : World) (D : Nat → Prop) (ι : Nat → Option Nat) (st : ASt) (r : Option Nat) (e : AExit) (st' : ASt) (e' : Exit) (a' : Act) (w' : World) : Prop :=
  ∃ D' ι', XRel w' D' ι' e e' ∧ FRel P T st' D' ι' a' w' r ∧ Ext w D (Live ι st.H) w' D' (Live ι' st'.H) ∧ (∀ (b k : Nat), b < st.base → ι b = some k → ι' b = some k) ∧ st'.base = st.base ∧ st'.nt = st.nt ∧ st'.ro = st.ro

/-- Code is what the walk says of it. -/
def CTold (P : Program) (T : Tab) (c : AC) (st : ASt) (e : AExit) (st' : ASt) : Prop :=
  ∀ code, comp P code = some c.erase → ∀ (w : World) (D : Nat → Prop) (ι : Nat → Option Nat) (a : Act) (r : Option Nat), FRel P T st D ι a w r → code.wpIn (Fw r) 0 P (CPost P T w D ι st r e st') a w

def CodeOK (P : Program) (T : Tab) (S : Sems) : Prop := ∀ c st e st', S.code c st = some (e, st') → CTold P T c st e st'

theorem DRel.nil_inv {es : List Deferred} (h : DRel w D ι [] es) : es = [] := by cases es with | nil => rfl | cons => exact h.elim

/-- A change of the world below a frame. -/
theorem FRel.change (h : FRel P T st D ι a w r) {L' : Nat → Prop} {H' : List AB} (hx : Ext w D (Live ι st.H) w' D' L') (hι : ∀ (b k : Nat), ι b = some k → ι' b = some k) (h' : HRel P w' D' ι' H') (hl : st.base ≤ H'.length) :
    FRel P T { st with H := H' } D' ι' a w' r where
  s := ⟨h', h.s.nt, h.s.h.env hx hι h.s.env, h.s.gl.mono (hx.keeps h.s.h.dnl) hx.dmono⟩
  d := h.d.mono hι fun _ _ hv => h.s.h.vrel hx hι hv
  base := hl
  ro := by
    have := h.ro
    revert this
    show (match st.ro with | none => r = none | some b => b < st.base ∧ ∃ l, ι b = some l ∧ r = some l) → (match st.ro with | none => r = none | some b => b < st.base ∧ ∃ l, ι' b = some l ∧ r = some l)
    cases st.ro with
    | none => exact id
    | some b => exact fun ⟨h1, l, h2, h3⟩ => ⟨h1, l, hι b l h2, h3⟩

/-- A value laid into a temporary. -/
theorem FRel.put (h : FRel P T st D ι a w r) {d : Option Nat} {v : AV} {x : Value} (hv : VRel w D ι v x) (hp : st.put d v = some st1) : FRel P T st1 D ι (a.put d x) w r := by
  unfold ASt.put at hp
  cases d with
  | none => cases hp; exact h
  | some d =>
    simp only at hp
    split at hp
    · rename_i hlt
      cases hp
      refine ⟨⟨h.s.h, by simpa [Act.put] using h.s.nt, fun t u ht => ?_, h.s.gl⟩, h.d, h.base, h.ro⟩
      simp only [Env.get] at ht
      split at ht
      · rename_i he
        cases ht; subst he
        exact ⟨x, by simp [Act.put, h.s.nt, hlt], hv⟩
      · rename_i hne
        obtain ⟨y, h1, h2⟩ := h.s.env t u ht
        exact ⟨y, by simp [Act.put, hne, h1], h2⟩
    · cases hp

theorem put_same {d : Option Nat} {v : AV} (hp : st.put d v = some st1) : st1.H = st.H ∧ st1.dfs = st.dfs ∧ st1.base = st.base ∧ st1.nt = st.nt ∧ st1.ro = st.ro := by
  unfold ASt.put at hp
  cases d with
  | none => cases hp; exact ⟨rfl, rfl, rfl, rfl, rfl⟩
  | some d =>
    simp only at hp
    split at hp
    · cases hp; exact ⟨rfl, rfl, rfl, rfl, rfl⟩
    · cases hp

/-- The loop record behind a number. -/
theorem HRel.loop (h : HRel P w D ι H) {b l : Nat} {R : ALoop} (hb : H[b]? = some (.loop R)) (hl : ι b = some l) : ∃ L : Loop, w.heap[l]? = some (.loop L) ∧ L.state = R.state ∧ L.pending = R.pend.map AJ.code ∧ L.tmps.size = R.nt ∧ EnvRel w D ι R.env L.tmps ∧ L.params.toList = R.ps ∧
      comp P L.assign = some R.a.erase ∧ comp P L.body = some R.b.erase ∧ R.ps.Nodup ∧ ∀ t ∈ R.ps, t < R.nt := (h.blk b _ l hb rfl hl).2

/-- A loop record turned. -/
theorem HRel.turn (h : HRel P w D ι H) {b l : Nat} {R R' : ALoop} {L L' : Loop} (hb : H[b]? = some (.loop R)) (hl : ι b = some l) (hL : w.heap[l]? = some (.loop L)) (hR : R'.env = R.env ∧ R'.nt = R.nt ∧ R'.ps = R.ps ∧ R'.a = R.a ∧ R'.b = R.b)
    (hL' : L'.tmps = L.tmps ∧ L'.params = L.params ∧ L'.assign = L.assign ∧ L'.body = L.body) (hs : L'.state = R'.state) (hp : L'.pending = R'.pend.map AJ.code) :
    HRel P { w with heap := w.heap.setIfInBounds l (.loop L') } D ι (H.set b (.loop R')) ∧ Ext w D (Live ι H) { w with heap := w.heap.setIfInBounds l (.loop L') } D (Live ι (H.set b (.loop R'))) := by
  have hx := ext_upd (B := .loop R') (n := w.drawn) (o' := .loop L') h hb rfl hl (fun c e f h => by cases h)
  refine ⟨hrel_upd (n := w.drawn) h hb rfl hl (fun c e f h => by cases h) ?_, hx⟩
  obtain ⟨L0, g1, g2, g3, g4, g5, g6, g7, g8, g9⟩ := h.loop hb hl
  rw [hL] at g1; cases g1
  obtain ⟨r1, r2, r3, r4, r5⟩ := hR
  obtain ⟨l1, l2, l3, l4⟩ := hL'
  refine ⟨L', by simp only [Array.getElem?_setIfInBounds]; rw [if_pos trivial, if_pos (Array.getElem?_eq_some_iff.1 hL).1], hs, hp, by rw [l1, r2]; exact g4, ?_, by rw [l2, r3]; exact g6, by rw [l3, r4]; exact g7, by rw [l4, r5]; exact g8, by rw [r3, r2]; exact g9⟩
  rw [r1, l1]
  exact h.env hx (fun _ _ h => h) g5

/-- The parameters of a round laid over the loop's temporaries. -/
theorem params_ok : ∀ {ps : List Nat} {xs : List AV} {args : List Value} {env : Env} {tm : Array Value}, ps.length = xs.length → args.length = xs.length → ps.Nodup → (∀ t ∈ ps, t < tm.size) → EnvRel w D ι env tm →
    (∀ (j : Nat) (v : AV) (x : Value), xs[j]? = some v → args[j]? = some x → VRel w D ι v x) →
    EnvRel w D ι (ps.zip xs ++ env) ((ps.zip args).foldl (fun tmps p => tmps.setIfInBounds p.1 p.2) tm) ∧ ((ps.zip args).foldl (fun tmps p => tmps.setIfInBounds p.1 p.2) tm).size = tm.size := by
  have keep : ∀ (l : List (Nat × Value)) (tm : Array Value), (l.foldl (fun tmps p => tmps.setIfInBounds p.1 p.2) tm).size = tm.size ∧ ∀ t, t ∉ l.map (·.1) → (l.foldl (fun tmps p => tmps.setIfInBounds p.1 p.2) tm)[t]? = tm[t]? := by
    intro l
    induction l with
    | nil => intro tm; exact ⟨rfl, fun t _ => rfl⟩
    | cons p l ih =>
      intro tm
      obtain ⟨h1, h2⟩ := ih (tm.setIfInBounds p.1 p.2)
      refine ⟨by simpa using h1, fun t ht => ?_⟩
      simp only [List.map_cons, List.mem_cons, not_or] at ht
      rw [List.foldl_cons, h2 t ht.2, Array.getElem?_setIfInBounds, if_neg (fun e => ht.1 e.symm)]
  intro ps
  induction ps with
  | nil => intro xs args env tm h1 h2 _ _ he _; exact ⟨by simpa using he, rfl⟩
  | cons p ps ih =>
    intro xs args env tm h1 h2 hnd hlt he hx
    match xs, args, h1, h2 with
    | v :: xs, x :: args, h1, h2 =>
      obtain ⟨hp, hnd⟩ := List.nodup_cons.1 hnd
      have hsz : (tm.setIfInBounds p x).size = tm.size := by simp
      simp only [List.zip_cons_cons, List.foldl_cons, List.cons_append]
      have he' : EnvRel w D ι env tm := he
      obtain ⟨k1, k2⟩ := keep (ps.zip args) (tm.setIfInBounds p x)
      have hpn : p ∉ (ps.zip args).map (·.1) := fun hm => by
        obtain ⟨q, hq, rfl⟩ := List.mem_map.1 hm
        exact hp (List.of_mem_zip hq).1
      refine ⟨fun t u ht => ?_, by rw [k1, hsz]⟩
      simp only [Env.get] at ht
      split at ht
      · rename_i e
        cases ht; subst e
        exact ⟨x, by rw [k2 p hpn, Array.getElem?_setIfInBounds, if_pos rfl, if_pos (hlt p (by simp))], hx 0 _ _ rfl rfl⟩
      · rename_i hne
        -- the rest, over the temporaries before this one was laid
        obtain ⟨i1, i2⟩ := ih (xs := xs) (args := args) (env := env) (tm := tm) (by simpa using h1) (by simpa using h2) hnd (fun t ht => hlt t (by simp [ht])) he' (fun j v x a b => hx (j + 1) v x (by simpa using a) (by simpa using b))
        obtain ⟨y, y1, y2⟩ := i1 t u ht
        refine ⟨y, ?_, y2⟩
        rw [← y1]
        -- laying p first changes nothing at t
        have comm : ∀ (l : List (Nat × Value)) (tm : Array Value), ((l.foldl (fun tmps p => tmps.setIfInBounds p.1 p.2) (tm.setIfInBounds p x)))[t]? = (l.foldl (fun tmps p => tmps.setIfInBounds p.1 p.2) tm)[t]? := by
          intro l
          induction l with
          | nil => intro tm; rw [List.foldl_nil, List.foldl_nil, Array.getElem?_setIfInBounds, if_neg hne]
          | cons q l ihl =>
            intro tm
            simp only [List.foldl_cons]
            by_cases hpq : p = q.1
            · subst hpq
              have : (tm.setIfInBounds q.1 x).setIfInBounds q.1 q.2 = tm.setIfInBounds q.1 q.2 := by
                apply Array.ext_getElem?
                intro i
                simp only [Array.getElem?_setIfInBounds]
                split <;> simp
              rw [this]
            · rw [Array.setIfInBounds_comm x q.2 hpq, ihl]
        exact comm _ _

end
end Go.Abs
end

section
/- A round of a range over a function; a call of a function value. Conditions: none. -/
namespace Go.Abs

section
variable {P : Program} {T : Tab} {S : Sems} {w w' : World} {D D' : Nat → Prop} {ι ι' : Nat → Option Nat} {H : List AB} {st st' st1 : ASt} {a a' : Act} {r : Option Nat}

theorem run_getLoop {l : Nat} {L : Loop} (h : w.heap[l]? = some (.loop L)) : (Instr.getLoop l).run P w = .ok L w := by
  have : (getObj l).run P w = .ok (.loop L) w := by simp [getObj, Sem.run, h]
  simp [Instr.getLoop, this]

theorem run_setLoop {l : Nat} {L : Loop} {ob : Obj} (h : w.heap[l]? = some (.loop L)) : (setObj l ob).run P w = .ok () { w with heap := w.heap.setIfInBounds l ob } := by simp [setObj, Sem.run, h]

theorem round_ok (hC : CodeOK P T S) {b : Nat} {xs : List AV} {H H' : List AB} {q : AEnd} (h : round S b xs H = some (q, H')) {l : Nat} {args : Array Value} (hl : ι b = some l) (hh : HRel P w D ι H) (hg : GL T w D) (hx : VRels w D ι xs args) :
    ∃ L : Loop, w.heap[l]? = some (.loop L) ∧ args.size = L.params.size ∧
      RoundIn Fence.wide 0 P l L.fn ((L.params.zip args).foldl (fun tmps (t, a) => tmps.setIfInBounds t a) L.tmps) L.assign L.body w (CallPost P w D ι H q H') := by
  unfold round at h
  split at h
  · rename_i R hR
    split at h
    · rename_i hcond
      obtain ⟨L, hL, e1, e2, e3, e4, e5, e6, e7, e8, e9⟩ := hh.loop hR hl
      have hps : L.params.size = R.ps.length := by rw [← e5]; simp
      refine ⟨L, hL, by rw [hx.1, hcond.2, hps], ?_⟩
      split at h
      · rename_i st hst
        split at h
        · rename_i R1 hR1
          split at h
          · rename_i hready
            split at h
            · rename_i e st2 hst2
              split at h
              · rename_i R2 hR2
                have htm : (L.params.zip args).foldl (fun tmps (t, a) => tmps.setIfInBounds t a) L.tmps = (R.ps.zip args.toList).foldl (fun tmps p => tmps.setIfInBounds p.1 p.2) L.tmps := by
                  rw [← Array.foldl_toList, Array.toList_zip, e5]
                obtain ⟨p1, p2⟩ := params_ok (w := w) (D := D) (ι := ι) (ps := R.ps) (xs := xs) (args := args.toList) (env := R.env) (tm := L.tmps) hcond.2.symm (by simpa using hx.1) e8 (fun t ht => by rw [e3]; exact e9 t ht) e4 (by simpa using hx.2)
                rw [htm]
                have hF0 : FRel P T ⟨R.ps.zip xs ++ R.env, H, [], H.length, R.nt, some b⟩ D ι { tmps := (R.ps.zip args.toList).foldl (fun tmps p => tmps.setIfInBounds p.1 p.2) L.tmps, defers := [] } w (some l) :=
                  ⟨⟨hh, p2.trans e3, p1, hg⟩, trivial, Nat.le_refl _, hh.dom b l hl, l, hl, rfl⟩
                refine roundIn_of_wpIn (F := Fence.wide) trivial ?_
                refine wpIn_mono (hC _ _ _ _ hst _ e6 w D ι _ (some l) hF0) ?_
                rintro x a1 w1 ⟨D1, ι1, x1, f1, x2, x3, x4, x5, x6⟩
                cases x with
                | exit id => exact x1.elim
                | goto id => exact x1.elim
                | ret => exact x1.elim
                | panic ch => exact x1.elim
                | outgrown => exact x1.elim
                | normal =>
                  have hl1 : ι1 b = some l := x3 b l (hh.dom b l hl) hl
                  obtain ⟨L1, hL1, s1, s2, s3, s4, s5, s6, s7, s8, s9⟩ := f1.s.h.loop hR1 hl1
                  obtain ⟨t1, t2⟩ := f1.s.h.turn (R' := { R1 with state := .busy }) (L' := { L1 with state := .busy }) hR1 hl1 hL1 ⟨rfl, rfl, rfl, rfl, rfl⟩ ⟨rfl, rfl, rfl, rfl⟩ rfl s2
                  refine ⟨{ w1 with heap := w1.heap.setIfInBounds l (.loop { L1 with state := .busy }) }, ?_, ?_⟩
                  · simp only [Instr.beginRound, Sem.run_bind, run_getLoop hL1, Result.andThen_ok, run_setLoop hL1, s1.trans hready]
                    rfl
                  · have f2 := f1.change t2 (fun _ _ h => h) t1 (by rw [List.length_set]; exact f1.base)
                    refine wpIn_mono (hC _ _ _ _ hst2 _ e7 _ D1 ι1 a1 (some l) f2) ?_
                    rintro x a2 w2 ⟨D2, ι2, y1, f3, y2, y3, y4, y5, y6⟩
                    have hbase : st.base = H.length := x4
                    have hl2 : ι2 b = some l := y3 b l (by rw [show ({ st with H := st.H.set b (AB.loop { R1 with state := .busy }) } : ASt).base = st.base from rfl, hbase]; exact hh.dom b l hl) hl1
                    obtain ⟨L2, hL2, z1, z2, z3, z4, z5, z6, z7, z8, z9⟩ := f3.s.h.loop hR2 hl2
                    have hub : ∀ (c k : Nat), ι c = some k → ι2 c = some k := fun c k hc => y3 c k (by show c < st.base; rw [hbase]; exact hh.dom c k hc) (x3 c k (hh.dom c k hc) hc)
                    have hlen : H.length ≤ st2.H.length := by
                      have h1 := f3.base
                      have h2 : st2.base = st.base := y4
                      omega
                    have fin : ∀ (j : Option AJ) (s : LoopState), (j.isNone = true → s = .ready) → (j.isNone = false → s = .done) →
                        ∃ v w', (Instr.endRound l (j.map AJ.code)).run P w2 = .ok v w' ∧ CallPost P w D ι H (.ret (.bool j.isNone)) (st2.H.set b (.loop { R2 with state := s, pend := j })) (.returned v) w' := fun j s h1 h2 => by
                      obtain ⟨u1, u2⟩ := f3.s.h.turn (R' := { R2 with state := s, pend := j }) (L' := { L2 with state := s, pending := j.map AJ.code }) hR2 hl2 hL2 ⟨rfl, rfl, rfl, rfl, rfl⟩ ⟨rfl, rfl, rfl, rfl⟩ rfl rfl
                      refine ⟨.bool j.isNone, { w2 with heap := w2.heap.setIfInBounds l (.loop { L2 with state := s, pending := j.map AJ.code }) }, ?_, D2, ι2, .bool _, u1, ((x2.trans t2).trans y2).trans u2, hub, by rw [List.length_set]; exact hlen⟩
                      cases j with
                      | none => simp only [Instr.endRound, Sem.run_bind, run_getLoop hL2, Result.andThen_ok, run_setLoop hL2, h1 rfl]; rfl
                      | some j => simp only [Instr.endRound, Sem.run_bind, run_getLoop hL2, Result.andThen_ok, run_setLoop hL2, h2 rfl]; rfl
                    cases e with
                    | normal =>
                      cases h
                      cases x with
                      | normal => exact fin none .ready (fun _ => rfl) (fun h => by cases h)
                      | exit id => exact y1.elim
                      | goto id => exact y1.elim
                      | ret => exact y1.elim
                      | panic ch => exact y1.elim
                      | outgrown => exact y1.elim
                    | ret =>
                      cases h
                      cases x with
                      | ret => exact fin (some .ret) .done (fun h => by cases h) (fun _ => rfl)
                      | exit id => exact y1.elim
                      | goto id => exact y1.elim
                      | normal => exact y1.elim
                      | panic ch => exact y1.elim
                      | outgrown => exact y1.elim
                    | exit id =>
                      cases h
                      cases x with
                      | exit id' =>
                        have : id = id' := y1
                        subst this
                        exact fin (some (.exit id)) .done (fun h => by cases h) (fun _ => rfl)
                      | ret => exact y1.elim
                      | goto id => exact y1.elim
                      | normal => exact y1.elim
                      | panic ch => exact y1.elim
                      | outgrown => exact y1.elim
                    | panic v => cases h
              · cases h
            · cases h
          · cases h
        · cases h
      · cases h
    · cases h
  · cases h

end
end Go.Abs
end

section
/- One operation of a region, calls and panics among them. Conditions: none. -/
namespace Go.Abs

section
variable {P : Program} {T : Tab} {S : Sems} {w w' : World} {D D' : Nat → Prop} {ι ι' : Nat → Option Nat} {H : List AB} {st st' st1 : ASt} {a a' : Act} {r : Option Nat}

/-- A function of Go's own, that a call enters. -/
def Enters (P : Program) (f : Nat) : Prop := ∃ (fn : Func) (c : Code), P.funcs[f]? = some fn ∧ fn.body = some c ∧ (fn.name == "runtime.NumGoroutine") = false

/-- What is asked of the table, ahead of its functions' bodies. -/
structure TabOK (P : Program) (T : Tab) : Prop where
  fn : ∀ f F, T.fn f = some F → Enters P f
  prim : ∀ f xs v, T.prim f xs = some v → Enters P f
  primOK : PrimOK P T
  meth : ∀ t m k d, T.meth t m = some (k, d) → match d with
    | none => ∀ v w, (method (P.types.size + Made.depth) t v m).run P w = .ok (k, v) w
    | some (g, n) => ∃ ty, aggT P ty = some g ∧ sizeT P ty = some n ∧ ∀ p w x, (loadVar ty p).run P w = .ok x w → (method (P.types.size + Made.depth) t (.pointer (some p)) m).run P w = .ok (k, x) w

/-- What is asked of the runs with less fuel. -/
structure SemsOK (P : Program) (T : Tab) (S : Sems) : Prop where
  ent : ∀ f xs H q, S.call f xs H = some q → Enters P f
  call : CallOK P T S
  code : CodeOK P T S

/-- What a step within a frame must come to. -/
def SPost (P : Program) (T : Tab) (w : World) (D : Nat → Prop) (ι : Nat → Option Nat) (st : ASt) (r : Option Nat) (st1 : ASt) (a' : Act) (w' : World) : Prop :=
  ∃ D' ι', FRel P T st1 D' ι' a' w' r ∧ Ext w D (Live ι st.H) w' D' (Live ι' st1.H) ∧ (∀ (b k : Nat), ι b = some k → ι' b = some k) ∧ st1.base = st.base ∧ st1.nt = st.nt ∧ st1.ro = st.ro ∧ st.H.length ≤ st1.H.length

/-- ... if it panics. -/
def PPost (P : Program) (T : Tab) (w : World) (D : Nat → Prop) (ι : Nat → Option Nat) (st : ASt) (r : Option Nat) (v : AV) (st1 : ASt) (ch : List PanicEntry) (a' : Act) (w' : World) : Prop :=
  ∃ D' ι', (∃ x, ch = [{ v := x, recovered := false }] ∧ VRel w' D' ι' v x) ∧ FRel P T st1 D' ι' a' w' r ∧ Ext w D (Live ι st.H) w' D' (Live ι' st1.H) ∧ (∀ (b k : Nat), ι b = some k → ι' b = some k) ∧ st1.base = st.base ∧ st1.nt = st.nt ∧ st1.ro = st.ro ∧ st.H.length ≤ st1.H.length

/-- Whatever a step comes to is taken in. -/
def Goes (P : Program) (T : Tab) (w : World) (D : Nat → Prop) (ι : Nat → Option Nat) (st : ASt) (r : Option Nat) (next : Act → World → Prop) (Q : Exit → Act → World → Prop) : AStep → Prop
  | .next st1 => ∀ a' w', SPost P T w D ι st r st1 a' w' → next a' w'
  | .out (.panic v) st1 => ∀ ch a' w', PPost P T w D ι st r v st1 ch a' w' → Q (.panic ch) a' w'
  | .out _ _ => False

theorem fin_ok {f : Nat} {ys : List AV} {q : AEnd × List AB} {s : AStep} {o : Oper} {args : Array Value} {next : Act → World → Prop} {Q : Exit → Act → World → Prop} (hF : FRel P T st D ι a w r) (hT : Told P T f ys st.H q.1 q.2) (hx : VRels w D ι ys args)
    (hs : finO o.dst st q = some s) (hG : Goes P T w D ι st r next Q s) (hrun : (o.semAt r a.eval).run P w = .ok (.enter f args) w) : o.uponIn (Fw r) 0 P a next Q ((o.semAt r a.eval).run P w) := by
  rw [hrun, Oper.uponIn_enter]
  refine And.intro (fun h => by simp [Fw, Fence.wide] at h) ?_
  have hc : CallsIn (Fw r) 0 P f args w (CallPost P w D ι st.H q.1 q.2) := hT w D ι args hF.s.h hF.s.gl hx
  refine hc.mono ?_
  rintro e w' ⟨D', ι', h1, h2, h3, h4, h5⟩
  obtain ⟨q, H'⟩ := q
  have hbase : st.base ≤ H'.length := Nat.le_trans hF.base h5
  have hch := hF.change h3 h4 h2 hbase
  cases q with
  | ret v =>
    cases e with
    | returned x =>
      simp only [finO, Option.map_eq_some_iff] at hs
      obtain ⟨st1, hp, rfl⟩ := hs
      obtain ⟨p1, p2, p3, p4, p5⟩ := put_same hp
      exact hG _ _ ⟨D', ι', hch.put h1 hp, by rw [p1]; exact h3, h4, p3, p4, p5, by rw [p1]; exact h5⟩
    | panicked ch => exact h1.elim
    | outgrown => exact h1.elim
  | pan v =>
    cases e with
    | returned x => exact h1.elim
    | outgrown => exact h1.elim
    | panicked ch =>
      simp only [finO, Option.some.injEq] at hs
      subst hs
      exact hG _ _ _ ⟨D', ι', h1, hch, h3, h4, rfl, rfl, rfl, h5⟩

theorem run_callFunc {f : Nat} {args : Array Value} (h : Enters P f) : (callFunc f args).run P w = .ok (.enter f args) w := by
  obtain ⟨fn, c, h1, h2, h3⟩ := h
  have h4 : ¬ fn.name = "runtime.NumGoroutine" := by simpa using h3
  simp [callFunc, h1, h2, h4]

theorem enters_of_enter (hS : SemsOK P T S) (hT : TabOK P T) {m f : Nat} {xs : List AV} {q : AEnd × List AB} (h : enter T S m f xs H = some q) : Enters P f := by
  unfold enter at h
  split at h
  · rename_i v hv; exact hT.prim f xs v hv
  · split at h
    · exact hS.ent _ _ _ _ h
    · simp only [Option.bind_eq_some_iff] at h
      obtain ⟨ys, _, r0, hc, _⟩ := h
      exact hS.ent _ _ _ _ hc

theorem fn_inv {f : Fn} {x y : List AV} {z : Value} (h : VRel w D ι (.fn f x y) z) : ∃ xs ys, z = .func f xs ys ∧ VRels w D ι x xs ∧ VRels w D ι y ys := by
  cases h with
  | fn a b c d => exact ⟨_, _, rfl, ⟨a, c⟩, ⟨b, d⟩⟩

theorem yld_inv {b : Nat} {z : Value} (h : VRel w D ι (.yld b) z) : ∃ k, ι b = some k ∧ z = .func (.yield k) #[] #[] := by
  cases h with
  | yld h => exact ⟨_, h, rfl⟩

theorem VRels.append {x y : List AV} {xs ys : Array Value} (h : VRels w D ι x xs) (g : VRels w D ι y ys) : VRels w D ι (x ++ y) (xs ++ ys) := by
  refine ⟨by simp [h.1, g.1], fun j v z hj hz => ?_⟩
  by_cases hlt : j < x.length
  · rw [List.getElem?_append_left hlt] at hj
    rw [Array.getElem?_append_left (by rw [h.1]; exact hlt)] at hz
    exact h.2 j v z hj hz
  · rw [List.getElem?_append_right (by omega)] at hj
    rw [Array.getElem?_append_right (by rw [h.1]; omega), h.1] at hz
    exact g.2 _ v z hj hz

theorem VRels.cons {v : AV} {x : List AV} {z : Value} {xs : Array Value} (h : VRel w D ι v z) (g : VRels w D ι x xs) : VRels w D ι (v :: x) (#[z] ++ xs) :=
  VRels.append (x := [v]) (xs := #[z]) ⟨rfl, fun j u y a b => by
    cases j with
    | zero => simp at a b; subst a b; exact h
    | succ j => simp at a⟩ g

theorem VRels.nil_inv {xs : Array Value} (h : VRels w D ι [] xs) : xs = #[] := Array.size_eq_zero_iff.1 h.1

/-- A call of a function value, or of a loop's round. -/
theorem call_step (hS : SemsOK P T S) (hT : TabOK P T) {o : Oper} {c : Call} {f0 : Operand} {f : Opd} {m : Nat} {xs : List Opd} {s : AStep} {next : Act → World → Prop} {Q : Exit → Act → World → Prop} (hF : FRel P T st D ι a w r) (ho : o.op = .call c) (hcal : c.callee = .value f0)
    (hf : compO f0 = some f) (hxs : compOs c.args.toList = some xs) {fv : AV} {vs : List AV} (hfv : val T st.env f = some fv) (hvs : optAll (val T st.env) xs = some vs)
    (hs : (invoke T S m fv vs st.H).bind (finO o.dst st) = some s) (hG : Goes P T w D ι st r next Q s) : o.uponIn (Fw r) 0 P a next Q ((o.semAt r a.eval).run P w) := by
  have hsem : o.semAt r a.eval = execOp a.eval o := Oper.semAt_eq r _ o fun c h => by rw [ho] at h; cases h
  have hV := opd_ok hF.s hf hfv
  have hX := opds_ok hF.s hxs hvs
  have hargs : (c.args.toList.map a.eval).toArray = c.args.map a.eval := by apply Array.ext'; simp
  rw [hargs] at hX
  simp only [Option.bind_eq_some_iff] at hs
  obtain ⟨q, hq, hs⟩ := hs
  unfold invoke at hq
  split at hq
  · rename_i k caps
    obtain ⟨first, captured, e1, e2, e3⟩ := fn_inv hV
    cases e2.nil_inv
    refine fin_ok hF (enter_ok hS.call hT.primOK hq) (hX.append e3) hs hG ?_
    rw [hsem]
    simp [execOp, ho, resolve, hcal, e1, Deferred.ofValue, Go.invoke, run_callFunc (enters_of_enter hS hT hq)]
  · rename_i b
    obtain ⟨l, hl, e1⟩ := yld_inv hV
    obtain ⟨L, hL, hsz, hround⟩ := round_ok hS.code hq hl hF.s.h hF.s.gl hX
    have hrun : (o.semAt r a.eval).run P w = .ok (.round l L.fn ((L.params.zip (c.args.map a.eval)).foldl (fun tmps (t, a) => tmps.setIfInBounds t a) L.tmps) L.assign L.body) w := by
      rw [hsem]
      simp only [execOp, ho, resolve, hcal, e1, Deferred.ofValue, Go.invoke, Instr.yield, Sem.run_bind, Sem.run_pure, Result.andThen_ok, Array.empty_append, run_getLoop hL]
      rw [if_neg (by simpa using hsz)]
      rfl
    rw [hrun, Oper.uponIn_round]
    refine And.intro (fun h => by simp [Fw, Fence.wide] at h) ?_
    have hround' : RoundIn (Fw r) 0 P l L.fn ((L.params.zip (c.args.map a.eval)).foldl (fun tmps (t, a) => tmps.setIfInBounds t a) L.tmps) L.assign L.body w (CallPost P w D ι st.H q.1 q.2) := hround
    refine hround'.mono ?_
    rintro e w' ⟨D', ι', h1, h2, h3, h4, h5⟩
    obtain ⟨q, H'⟩ := q
    have hch := hF.change h3 h4 h2 (Nat.le_trans hF.base h5)
    cases q with
    | ret v =>
      cases e with
      | returned x =>
        simp only [finO, Option.map_eq_some_iff] at hs
        obtain ⟨st1, hp, rfl⟩ := hs
        obtain ⟨p1, p2, p3, p4, p5⟩ := put_same hp
        exact hG _ _ ⟨D', ι', hch.put h1 hp, by rw [p1]; exact h3, h4, p3, p4, p5, by rw [p1]; exact h5⟩
      | panicked ch => exact h1.elim
      | outgrown => exact h1.elim
    | pan v =>
      cases e with
      | returned x => exact h1.elim
      | outgrown => exact h1.elim
      | panicked ch =>
        simp only [finO, Option.some.injEq] at hs
        subst hs
        exact hG _ _ _ ⟨D', ι', h1, hch, h3, h4, rfl, rfl, rfl, h5⟩
  · cases hq

end
end Go.Abs
end

section
/- Methods, deferred calls, panics: any operation of a region, let by or not. Conditions: none. -/
namespace Go.Abs

section
variable {P : Program} {T : Tab} {S : Sems} {w w' : World} {D D' : Nat → Prop} {ι ι' : Nat → Option Nat} {H : List AB} {st st' st1 : ASt} {a a' : Act} {r : Option Nat}

theorem iface_inv {t : TypeId} {v : AV} {z : Value} (h : VRel w D ι (.iface t v) z) : ∃ x, z = .iface t x ∧ VRel w D ι v x := by
  cases h with
  | iface h => exact ⟨_, rfl, h⟩

theorem inv_step (hS : SemsOK P T S) (hT : TabOK P T) {o : Oper} {c : Call} {r0 : Operand} {rv : Opd} {md : Nat} {m : String} {xs : List Opd} {s : AStep} {next : Act → World → Prop} {Q : Exit → Act → World → Prop} {ao : AO} (hd : ao.dst = o.dst) (hao : ao.op = .inv md rv m xs)
    (hF : FRel P T st D ι a w r) (ho : o.op = .call c) (hcal : c.callee = .invoke r0 m) (hr : compO r0 = some rv) (hxs : compOs c.args.toList = some xs) (hs : stepO T S ao st = some s) (hG : Goes P T w D ι st r next Q s) :
    o.uponIn (Fw r) 0 P a next Q ((o.semAt r a.eval).run P w) := by
  have hsem : o.semAt r a.eval = execOp a.eval o := Oper.semAt_eq r _ o fun c h => by rw [ho] at h; cases h
  simp only [stepO, hao, Option.bind_eq_some_iff] at hs
  obtain ⟨u, hu, vs, hvs, hs⟩ := hs
  have hV := opd_ok hF.s hr hu
  have hX := opds_ok hF.s hxs hvs
  have hargs : (c.args.toList.map a.eval).toArray = c.args.map a.eval := by apply Array.ext'; simp
  rw [hargs] at hX
  have hext : ∀ (z : Value) (A : Array Value), (#[z] ++ A).extract 1 (#[z] ++ A).size = A := fun z A => by
    apply Array.ext'
    simp [List.take_of_length_le]
  have h0 : ∀ (z : Value) (A : Array Value), (#[z] ++ A)[0]? = some z := fun z A => by simp [Array.getElem?_append]
  have go : ∀ (k : Nat) (t : TypeId) (x rcv : Value) (v : AV), a.eval r0 = .iface t x → Enters P k → (method (P.types.size + Made.depth) t x m).run P w = .ok (k, rcv) w → VRel w D ι v rcv → (enter T S md k (v :: vs) st.H).bind (finO ao.dst st) = some s →
      o.uponIn (Fw r) 0 P a next Q ((o.semAt r a.eval).run P w) := fun k t x rcv v e1 he hm hv hq => by
    simp only [Option.bind_eq_some_iff] at hq
    obtain ⟨q, hq, hs⟩ := hq
    rw [hd] at hs
    refine fin_ok hF (enter_ok hS.call hT.primOK hq) (VRels.cons hv hX) hs hG ?_
    rw [hsem]
    simp only [execOp, ho, resolve, hcal, Sem.run_bind, Sem.run_pure, Result.andThen_ok, Go.invoke, h0, hext, e1, callMethod, run_program, hm]
    exact run_callFunc he
  split at hs
  · rename_i t v
    obtain ⟨x, e1, hvx⟩ := iface_inv hV
    simp only [Option.bind_eq_some_iff] at hs
    obtain ⟨⟨k, d⟩, hq, hs⟩ := hs
    have hm := hT.meth t m k d hq
    cases d with
    | none =>
      simp only at hs hm
      have hs' := hs
      simp only [Option.bind_eq_some_iff] at hs'
      obtain ⟨q, hen, _⟩ := hs'
      exact go k t x x v e1 (enters_of_enter hS hT hen) (hm x w) hvx hs
    | some gn =>
      obtain ⟨g, n⟩ := gn
      obtain ⟨ty, hg, hn, hload⟩ := hm
      simp only at hs
      split at hs
      · rename_i b off
        split at hs
        · rename_i cs hrow
          have hs' := hs
          simp only [Option.bind_eq_some_iff] at hs hs'
          obtain ⟨z, hz, hs⟩ := hs
          obtain ⟨kk, hk, e2⟩ := hvx.ptr_inv
          obtain ⟨y, y1, y2⟩ := run_loadVar (P := P) hg hn hz (hF.s.h.cells (off := off) hrow hk)
          have hs0 := hs
          obtain ⟨q, hen, _⟩ := hs0
          exact go k t x y z e1 (enters_of_enter hS hT hen) (by rw [e2]; exact hload _ w y y1) y2 (by simp only [Option.bind_eq_some_iff]; exact hs)
        · cases hs
      · rename_i cs
        simp only [Option.bind_eq_some_iff] at hs
        obtain ⟨z, hz, hs⟩ := hs
        obtain ⟨b, off, e2, hD, hc⟩ := hvx.cptr_inv
        obtain ⟨y, y1, y2⟩ := run_loadVar (P := P) hg hn hz hc
        have hs0 := hs
        obtain ⟨q, hen, _⟩ := hs0
        exact go k t x y z e1 (enters_of_enter hS hT hen) (by rw [e2]; exact hload _ w y y1) y2 (by simp only [Option.bind_eq_some_iff]; exact hs)
      · cases hs
  · cases hs

theorem aop_pan {ρ : Opd → Option AV} {rd : Nat → Option AB} {n : Nat} {op : AOp} {v : AV} (ht : op.tame = true) (hv : aop ρ rd n op = some (.pan v)) : False := by
  cases op <;> simp [AOp.tame] at ht <;> simp only [aop] at hv
  all_goals
    repeat' first
      | (rw [Option.bind_eq_some_iff] at hv; obtain ⟨_, _, hv⟩ := hv)
      | (rw [Option.map_eq_some_iff] at hv; obtain ⟨_, _, hv⟩ := hv)
      | (injection hv with hv; injection hv; done)
      | split at hv
      | (injection hv with hv; done)
      | (cases hv; done)

theorem tame_step {o : Oper} {op : AOp} {s : AStep} {next : Act → World → Prop} {Q : Exit → Act → World → Prop} (hF : FRel P T st D ι a w r) (hc : compOp P o = some op) (ht : op.tame = true)
    (hs : (match aop (val T st.env) (st.H[·]?) st.H.length op with
      | some (.val v e) => (({ st with H := e.at st.H } : ASt).put o.dst v).map AStep.next
      | some (.pan v) => some (.out (.panic v) st)
      | none => none) = some s) (hnd : ∀ c, o.op ≠ .defer c) (hG : Goes P T w D ι st r next Q s) : o.uponIn (Fw r) 0 P a next Q ((o.semAt r a.eval).run P w) := by
  have hsem : o.semAt r a.eval = execOp a.eval o := Oper.semAt_eq r _ o hnd
  have hfree : ι st.H.length = none := by
    cases h : ι st.H.length with
    | none => rfl
    | some k => have := hF.s.h.dom _ k h; omega
  split at hs
  · rename_i v e hv
    obtain ⟨nx, x, w', ι', h1, h2, h3, h4, h5, h6, _⟩ := op_ok hF.s hc ht _ hfree v e hv
    rw [AEff.atn_len] at h3 h5
    simp only [Option.map_eq_some_iff] at hs
    obtain ⟨st1, hp, rfl⟩ := hs
    obtain ⟨p1, p2, p3, p4, p5⟩ := put_same hp
    have hlen : st.H.length ≤ (e.at st.H).length := by cases e <;> simp [AEff.at]
    have hch := hF.change h5 h6 h3 (Nat.le_trans hF.base hlen)
    have hpost : SPost P T w D ι st r st1 (a.put o.dst x) w' := ⟨D, ι', hch.put h4 hp, by rw [p1]; exact h5, h6, p3, p4, p5, by rw [p1]; exact hlen⟩
    rw [hsem, h1]
    rcases h2 with rfl | ⟨rfl, rfl⟩
    · rw [Oper.uponIn_value]; exact hG _ _ hpost
    · rw [Oper.uponIn_skip]; exact hG _ _ hpost
  · rename_i v hv
    exact (aop_pan ht hv).elim
  · cases hs

theorem compEq_tame {neg c : Bool} {t : TypeId} {x y : Opd} {op : AOp} (h : compEq P neg c t x y = some op) : op.tame = true := by
  unfold compEq at h
  repeat' first
    | (rw [Option.bind_eq_some_iff] at h; obtain ⟨_, _, h⟩ := h)
    | (rw [Option.map_eq_some_iff] at h; obtain ⟨_, _, h⟩ := h)
    | (injection h with h; subst h; rfl)
    | split at h
    | (subst h; rfl)
    | (cases h; done)

theorem comp_tame {o : Oper} {op : AOp} (h : compOp P o = some op) (h1 : ∀ c, o.op ≠ .call c) (h2 : ∀ c, o.op ≠ .defer c) (h3 : ∀ x, o.op ≠ .panic x) : op.tame = true := by
  unfold compOp at h
  split at h
  all_goals first
    | (rename_i hx; exact absurd hx (h1 _))
    | (rename_i hx; exact absurd hx (h2 _))
    | (rename_i hx; exact absurd hx (h3 _))
    | skip
  all_goals
    repeat' first
      | (rw [Option.bind_eq_some_iff] at h; obtain ⟨_, _, h⟩ := h)
      | (rw [Option.map_eq_some_iff] at h; obtain ⟨_, _, h⟩ := h)
      | (injection h with h; subst h; rfl)
      | (exact compEq_tame h)
      | split at h
      | (subst h; rfl)
      | (cases h; done)

end
end Go.Abs
end

section
/- Any operation of a region, let by or not; a region in the text's order. Conditions: none. -/
namespace Go.Abs

section
variable {P : Program} {T : Tab} {S : Sems} {w w' : World} {D D' : Nat → Prop} {ι ι' : Nat → Option Nat} {H : List AB} {st st' st1 : ASt} {a a' : Act} {r : Option Nat}

theorem erase_call {op : AOp} {f : Opd} {xs : List Opd} (h : op.erase = .call 0 f xs) : ∃ m, op = .call m f xs := by
  cases op <;> simp [AOp.erase] at h
  obtain ⟨rfl, rfl⟩ := h
  exact ⟨_, rfl⟩

theorem erase_inv {op : AOp} {f : Opd} {n : String} {xs : List Opd} (h : op.erase = .inv 0 f n xs) : ∃ m, op = .inv m f n xs := by
  cases op <;> simp [AOp.erase] at h
  obtain ⟨rfl, rfl, rfl⟩ := h
  exact ⟨_, rfl⟩

theorem erase_tame {op : AOp} (h : op.erase.tame = true) : op.erase = op := by
  cases op <;> first | rfl | simp [AOp.erase, AOp.tame] at h

theorem stepO_tame {ao : AO} (h : ao.op.tame = true) : stepO T S ao st = (match aop (val T st.env) (st.H[·]?) st.H.length ao.op with
      | some (.val v e) => (({ st with H := e.at st.H } : ASt).put ao.dst v).map AStep.next
      | some (.pan v) => some (.out (.panic v) st)
      | none => none) := by
  unfold stepO
  cases ho : ao.op <;> first | rfl | (rw [ho] at h; simp [AOp.tame] at h)

theorem compCall_tame {c : Call} {b : Builtin} {op : AOp} (hc : c.callee = .builtin b) (hb : b ≠ .recover) (h : compCall P c = some op) : op.tame = true := by
  unfold compCall at h
  rw [hc] at h
  split at h
  · rename_i h1; cases h1
  · rename_i h1; cases h1
  · rename_i h1; cases h1; exact absurd rfl hb
  · repeat' first
      | (rw [Option.bind_eq_some_iff] at h; obtain ⟨_, _, h⟩ := h)
      | (rw [Option.map_eq_some_iff] at h; obtain ⟨_, _, h⟩ := h)
      | (injection h with h; subst h; rfl)
      | split at h
      | (subst h; rfl)
      | (cases h; done)

theorem step_ok (hS : SemsOK P T S) (hT : TabOK P T) {o : Oper} {ao : AO} {s : AStep} {next : Act → World → Prop} {Q : Exit → Act → World → Prop} (hd : ao.dst = o.dst) (hc : compOp P o = some ao.op.erase) (hF : FRel P T st D ι a w r) (hs : stepO T S ao st = some s)
    (hG : Goes P T w D ι st r next Q s) : o.uponIn (Fw r) 0 P a next Q ((o.semAt r a.eval).run P w) := by
  have tame : ao.op.erase.tame = true → (∀ c, o.op ≠ .defer c) → o.uponIn (Fw r) 0 P a next Q ((o.semAt r a.eval).run P w) := fun ht hnd => by
    have he := erase_tame ht
    rw [he] at ht hc
    rw [stepO_tame ht, hd] at hs
    exact tame_step hF hc ht hs hnd hG
  by_cases h1 : ∃ c, o.op = .call c
  · obtain ⟨c, ho⟩ := h1
    have hnd : ∀ c, o.op ≠ .defer c := fun c h => by rw [ho] at h; cases h
    have hcc : compCall P c = some ao.op.erase := by
      have := hc
      unfold compOp at this
      rw [ho] at this
      exact this
    cases hcal : c.callee with
    | value f0 =>
      have := hcc
      unfold compCall at this
      rw [hcal] at this
      simp only [Option.bind_eq_some_iff, Option.map_eq_some_iff] at this
      obtain ⟨f, hf, xs, hxs, he⟩ := this
      obtain ⟨m, hm⟩ := erase_call he.symm
      simp only [stepO, hm, Option.bind_eq_some_iff] at hs
      obtain ⟨fv, hfv, vs, hvs, hs⟩ := hs
      rw [hd] at hs
      exact call_step hS hT hF ho hcal hf hxs hfv hvs (by simp only [Option.bind_eq_some_iff]; exact hs) hG
    | invoke r0 m =>
      have := hcc
      unfold compCall at this
      rw [hcal] at this
      simp only [Option.bind_eq_some_iff, Option.map_eq_some_iff] at this
      obtain ⟨f, hf, xs, hxs, he⟩ := this
      obtain ⟨md, hm⟩ := erase_inv he.symm
      exact inv_step hS hT hd hm hF ho hcal hf hxs hs hG
    | builtin b =>
      by_cases hb : b = .recover
      · subst hb
        have := hcc
        unfold compCall at this
        rw [hcal] at this
        simp only [Option.some.injEq] at this
        have hr : ao.op = .rcv := by
          cases hx : ao.op <;> rw [hx] at this <;> simp [AOp.erase] at this
        simp [stepO, hr] at hs
      · exact tame (compCall_tame hcal hb hcc) hnd
  · by_cases h2 : ∃ c, o.op = .defer c
    · obtain ⟨c, ho⟩ := h2
      have := hc
      unfold compOp at this
      rw [ho] at this
      simp only at this
      split at this
      · rename_i f0 hcal
        simp only [Option.bind_eq_some_iff, Option.map_eq_some_iff] at this
        obtain ⟨f, hf, xs, hxs, he⟩ := this
        have hm : ao.op = .dfr f xs := by
          cases hx : ao.op <;> rw [hx] at he <;> simp [AOp.erase] at he
          obtain ⟨rfl, rfl⟩ := he; rfl
        simp only [stepO, hm, Option.bind_eq_some_iff] at hs
        obtain ⟨fv, hfv, vs, hvs, hs⟩ := hs
        have hV := opd_ok hF.s hf hfv
        have hX := opds_ok hF.s hxs hvs
        have hargs : (c.args.toList.map a.eval).toArray = c.args.map a.eval := by apply Array.ext'; simp
        rw [hargs] at hX
        split at hs
        · rename_i k caps hro hdst
          cases hs
          obtain ⟨first, captured, e1, e2, e3⟩ := fn_inv hV
          cases e2.nil_inv
          have hrn : r = none := by have := hF.ro; rw [hro] at this; exact this
          subst hrn
          have hrun : (o.semAt none a.eval).run P w = .ok (.defer { target := .fn (.func k) captured, args := c.args.map a.eval }) w := by
            rw [Oper.semAt_none]
            simp [execOp, ho, resolve, hcal, e1, Deferred.ofValue]
          rw [hrun, Oper.uponIn_defer]
          refine hG _ _ ⟨D, ι, ?_, Ext.refl _ _ _, fun _ _ h => h, rfl, rfl, rfl, Nat.le_refl _⟩
          rw [← hd, hdst]
          exact ⟨⟨hF.s.h, hF.s.nt, hF.s.env, hF.s.gl⟩, ⟨⟨captured, rfl, hX.append e3⟩, hF.d⟩, hF.base, hF.ro⟩
        · cases hs
      · cases this
    · by_cases h3 : ∃ x, o.op = .panic x
      · obtain ⟨x, ho⟩ := h3
        have hsem : o.semAt r a.eval = execOp a.eval o := Oper.semAt_eq r _ o fun c h => by rw [ho] at h; cases h
        have := hc
        unfold compOp at this
        rw [ho] at this
        simp only [Option.map_eq_some_iff] at this
        obtain ⟨y, hy, he⟩ := this
        have hm : ao.op = .pan y := by
          cases hx : ao.op <;> rw [hx] at he <;> simp [AOp.erase] at he
          rw [he]
        simp only [stepO, hm] at hs
        split at hs
        · rename_i v e hv
          simp only [aop] at hv
          split at hv
          · injection hv with hv; injection hv
          · cases hv
        · rename_i v hv
          cases hs
          simp only [aop] at hv
          split at hv
          · rename_i t u hu
            injection hv with hv
            injection hv with hv
            subst hv
            obtain ⟨z, e1, hz⟩ := iface_inv (opd_ok hF.s hy hu)
            have hrun : (o.semAt r a.eval).run P w = .halt (.panic (.iface t z)) w := by
              rw [hsem]
              simp [execOp, ho, e1, Instr.panic]
            rw [hrun, Oper.uponIn_panic]
            exact hG _ _ _ ⟨D, ι, ⟨_, rfl, .iface hz⟩, hF, Ext.refl _ _ _, fun _ _ h => h, rfl, rfl, rfl, Nat.le_refl _⟩
          · cases hv
        · cases hs
      · exact tame (comp_tame hc (fun c h => h1 ⟨c, h⟩) (fun c h => h2 ⟨c, h⟩) (fun x h => h3 ⟨x, h⟩)) (fun c h => h2 ⟨c, h⟩)

/-- Is an operation let by? -/
theorem guard_ok {ops : Array Oper} {o : Oper} {ao : AO} {b : Bool} (hF : FRel P T st D ι a w r) (hg : compGuard ops o.guard = some ao.guard) (h : guardO ao st = some b) : Region.wanted o (yielded ops a.tmps) = b := by
  unfold compGuard at hg
  unfold Region.wanted
  split at hg
  · rename_i hn
    rw [hn]
    simp only [Option.some.injEq] at hg
    simp only [guardO, ← hg, Option.some.injEq] at h
    rw [← h]
  · rename_i j want hn
    rw [hn]
    simp only [Option.map_eq_some_iff] at hg
    obtain ⟨t, ht, hg⟩ := hg
    simp only [guardO, ← hg] at h
    split at h
    · rename_i c hc
      cases h
      obtain ⟨x, h1, h2⟩ := hF.s.env _ _ hc
      cases h2
      simp [yielded, ht, h1]
    · rename_i hc
      cases h
      obtain ⟨x, h1, h2⟩ := hF.s.env _ _ hc
      cases h2
      simp [yielded, ht, h1]
    · cases h

theorem compAO_get {ops : Array Oper} : ∀ {os : List Oper} {l : List AO}, compAO P ops os = some l → l.length = os.length ∧ ∀ (j : Nat) (o : Oper) (ao : AO), os[j]? = some o → l[j]? = some ao → compGuard ops o.guard = some ao.guard ∧ compOp P o = some ao.op ∧ ao.dst = o.dst
  | [], l, h => by cases h; exact ⟨rfl, fun j o ao h => by simp at h⟩
  | o :: os, l, h => by
    simp only [compAO, Option.bind_eq_some_iff, Option.map_eq_some_iff] at h
    obtain ⟨g, hg, x, hx, s, hs, rfl⟩ := h
    obtain ⟨h1, h2⟩ := compAO_get hs
    refine ⟨by simp [h1], fun j o' ao hj ha => ?_⟩
    cases j with
    | zero => simp at hj ha; subst hj ha; exact ⟨hg, hx, rfl⟩
    | succ j => exact h2 j o' ao (by simpa using hj) (by simpa using ha)

/-- What a region's operations are in the walk's own code, hints and all. -/
theorem compL_get {ops : Array Oper} {l : List AO} (h : compAO P ops ops.toList = some (l.map fun o => { o with op := o.op.erase })) : l.length = ops.size ∧
    ∀ (j : Nat) (o : Oper) (ao : AO), ops[j]? = some o → l[j]? = some ao → compGuard ops o.guard = some ao.guard ∧ compOp P o = some ao.op.erase ∧ ao.dst = o.dst := by
  obtain ⟨h1, h2⟩ := compAO_get h
  refine ⟨by simpa using h1, fun j o ao hj ha => ?_⟩
  exact h2 j o { ao with op := ao.op.erase } (by simpa using hj) (by simp [ha])

theorem SPost.refl (hF : FRel P T st D ι a w r) : SPost P T w D ι st r st a w := ⟨D, ι, hF, Ext.refl _ _ _, fun _ _ h => h, rfl, rfl, rfl, Nat.le_refl _⟩

/-- A region's operations in the order of its text. -/
theorem ops_ok (hS : SemsOK P T S) (hT : TabOK P T) {ops : Array Oper} {Q : Exit → Act → World → Prop} : ∀ (l : List AO) (i : Nat) {st : ASt} {D : Nat → Prop} {ι : Nat → Option Nat} {a : Act} {w : World} {s : AStep}, i + l.length = ops.size →
    (∀ (j : Nat) (o : Oper) (ao : AO), ops[i + j]? = some o → l[j]? = some ao → compGuard ops o.guard = some ao.guard ∧ compOp P o = some ao.op.erase ∧ ao.dst = o.dst) → FRel P T st D ι a w r → runOps T S l st = some s →
    Goes P T w D ι st r (Q .normal) Q s → wpOpsIn (Fw r) 0 P ops Q (List.range' i l.length) a w
  | [], i, st, D, ι, a, w, s, hl, hc, hF, hs, hG => by
    cases hs
    exact hG a w (SPost.refl hF)
  | ao :: l, i, st, D, ι, a, w, s, hl, hc, hF, hs, hG => by
    have hlt : i < ops.size := by simp at hl; omega
    have ho : ops[i]? = some ops[i] := Array.getElem?_eq_getElem hlt
    obtain ⟨c1, c2, c3⟩ := hc 0 ops[i] ao ho rfl
    have rest : ∀ (st1 : ASt) (s : AStep), runOps T S l st1 = some s → (∀ a' w' , SPost P T w D ι st r st1 a' w' → Goes P T w D ι st r (Q .normal) Q s → wpOpsIn (Fw r) 0 P ops Q (List.range' (i + 1) l.length) a' w') := fun st1 s hs a' w' hp hG => by
      obtain ⟨D', ι', f1, x1, x2, x3, x4, x5, x6⟩ := hp
      refine ops_ok hS hT l (i + 1) (by simp at hl; omega) (fun j o ao hj ha => hc (j + 1) o ao (by rw [← hj]; congr 1; omega) (by simpa using ha)) f1 hs ?_
      cases s with
      | next st2 =>
        rintro a2 w2 ⟨D2, ι2, f2, y1, y2, y3, y4, y5, y6⟩
        exact hG a2 w2 ⟨D2, ι2, f2, x1.trans y1, fun b k h => y2 b k (x2 b k h), y3.trans x3, y4.trans x4, y5.trans x5, Nat.le_trans x6 y6⟩
      | out e st2 =>
        cases e with
        | panic v =>
          rintro ch a2 w2 ⟨D2, ι2, f0, f2, y1, y2, y3, y4, y5, y6⟩
          exact hG ch a2 w2 ⟨D2, ι2, f0, f2, x1.trans y1, fun b k h => y2 b k (x2 b k h), y3.trans x3, y4.trans x4, y5.trans x5, Nat.le_trans x6 y6⟩
        | normal => exact hG
        | ret => exact hG
        | exit id => exact hG
    rw [List.length_cons, List.range'_succ]
    simp only [wpOpsIn, ho]
    simp only [runOps] at hs
    split at hs
    · rename_i hgd
      rw [if_pos (guard_ok hF c1 hgd)]
      refine ⟨fun f _ => trivial, ?_⟩
      cases hst : stepO T S ao st with
      | none => rw [hst] at hs; cases hs
      | some x =>
        rw [hst] at hs
        cases x with
        | next st1 => exact step_ok hS hT c3 c2 hF hst fun a' w' hp => rest st1 s hs a' w' hp hG
        | out e st1 =>
          simp only [Option.some.injEq] at hs
          subst hs
          cases e with
          | panic v => exact step_ok hS hT c3 c2 hF hst (show Goes P T w D ι st r _ Q (.out (.panic v) st1) from hG)
          | normal => exact hG.elim
          | ret => exact hG.elim
          | exit id => exact hG.elim
    · rename_i hgd
      rw [if_neg (by rw [guard_ok hF c1 hgd]; simp)]
      refine ⟨fun f _ => trivial, ?_⟩
      simp only [Option.bind_eq_some_iff] at hs
      obtain ⟨st1, hsk, hs⟩ := hs
      unfold skipO at hsk
      obtain ⟨p1, p2, p3, p4, p5⟩ := put_same hsk
      have hput := hF.put (x := undef) (.tup rfl fun j v x h => by simp at h) hsk
      rw [c3] at hput
      exact rest st1 s hs _ _ ⟨D, ι, hput, by rw [p1]; exact Ext.refl _ _ _, fun _ _ h => h, p3, p4, p5, by rw [p1]; exact Nat.le_refl _⟩ hG
    · cases hs

end
end Go.Abs
end

section
/- The walk's own book between two regions: what is forgotten, renumbered, told as unwritten from now on. Conditions: none. -/
namespace Go.Abs

section
variable {P : Program} {T : Tab} {S : Sems} {w w' : World} {D D' : Nat → Prop} {ι ι' : Nat → Option Nat} {H : List AB} {st st' st1 : ASt} {a a' : Act} {r : Option Nat}

theorem keep_get : ∀ {ts : List Nat} {e : Env} {t : Nat} {v : AV}, Env.get (Env.keep e ts) t = some v → e.get t = some v
  | [], e, t, v, h => by simp [Env.keep, Env.get] at h
  | u :: ts, e, t, v, h => by
    simp only [Env.keep] at h
    split at h
    · rename_i x hx
      simp only [Env.get] at h
      split at h
      · rename_i he; cases h; subst he; exact hx
      · exact keep_get h
    · exact keep_get h

/-- What a hint must come to: the world stays. -/
def HPost (P : Program) (T : Tab) (w : World) (D : Nat → Prop) (ι : Nat → Option Nat) (st : ASt) (r : Option Nat) (st1 : ASt) (a : Act) : Prop :=
  ∃ D' ι', FRel P T st1 D' ι' a w r ∧ Ext w D (Live ι st.H) w D' (Live ι' st1.H) ∧ (∀ (b k : Nat), b < st.base → ι b = some k → ι' b = some k) ∧ st1.base = st.base ∧ st1.nt = st.nt ∧ st1.ro = st.ro

theorem FRel.keep (hF : FRel P T st D ι a w r) (ts : List Nat) : FRel P T { st with env := st.env.keep ts } D ι a w r :=
  ⟨⟨hF.s.h, hF.s.nt, fun t v ht => hF.s.env t v (keep_get ht), hF.s.gl⟩, hF.d, hF.base, hF.ro⟩

/-- Blocks shut, in a frame. -/
theorem FRel.shut (hF : FRel P T st D ι a w r) (ks : List Nat) : FRel P T { st with H := killAll st.H ks } (fun k => D k ∨ Shut ι st.H ks k) ι a w r ∧ Ext w D (Live ι st.H) w (fun k => D k ∨ Shut ι st.H ks k) (Live ι (killAll st.H ks)) := by
  obtain ⟨h1, h2⟩ := hrel_shut hF.s.h ks
  exact ⟨hF.change h2 (fun _ _ h => h) h1 (by rw [killAll_len]; exact hF.base), h2⟩

/-- A value of a temporary told anew. -/
theorem FRel.retell (hF : FRel P T st D ι a w r) {t : Nat} {v : AV} {x : Value} (hx : a.tmps[t]? = some x) (hv : VRel w D ι v x) : FRel P T { st with env := (t, v) :: st.env } D ι a w r :=
  ⟨⟨hF.s.h, hF.s.nt, fun u y hu => by
    simp only [Env.get] at hu
    split at hu
    · rename_i e; cases hu; subst e; exact ⟨x, hx, hv⟩
    · exact hF.s.env u y hu, hF.s.gl⟩, hF.d, hF.base, hF.ro⟩

/-- A cell of a living row told anew. -/
theorem HRel.recell (h : HRel P w D ι H) {b k : Nat} {cs cs' : List AV} (hb : H[b]? = some (.row cs)) (hk : ι b = some k) (hl : cs'.length = cs.length) (hcs : ∀ (j : Nat) (v : AV) (x : Value), cs'[j]? = some v → w.cell? ⟨k, j, none⟩ = some x → VRel w D ι v x) :
    HRel P w D ι (H.set b (.row cs')) where
  dom c j hc := by have := h.dom c j hc; simpa using this
  dlt := h.dlt
  ilt := h.ilt
  blk c C j h1 h2 h3 := by
    rw [List.getElem?_set] at h1
    split at h1
    · rename_i he
      subst he
      split at h1
      · cases h1
        rw [hk] at h3; cases h3
        obtain ⟨g1, c, e, g2, g3, g4⟩ := h.blk b _ k hb rfl hk
        refine ⟨g1, c, e, g2, by omega, fun i v x hi hx => hcs i v x hi ?_⟩
        simp [World.cell?, g2, hx]
      · cases h1
    · exact h.blk c C j h1 h2 h3
  inj c c' C C' j h1 h2 h3 h4 h5 h6 := by
    have key : ∀ (d : Nat) (E : AB), (H.set b (.row cs'))[d]? = some E → E.isDead = false → ∃ E', H[d]? = some E' ∧ E'.isDead = false := fun d E he hE => by
      rw [List.getElem?_set] at he
      split at he
      · rename_i hd; subst hd; exact ⟨_, hb, rfl⟩
      · exact ⟨E, he, hE⟩
    obtain ⟨E1, a1, a2⟩ := key c C h1 h2
    obtain ⟨E2, b1, b2⟩ := key c' C' h3 h4
    exact h.inj c c' E1 E2 j a1 a2 b1 b2 h5 h6

theorem visit_inv (H : List AB) (base : Nat) : ∀ (n : Nat) (l seen : List Nat), seen.Nodup → (∀ b ∈ seen, base ≤ b) → (visit H base n l seen).Nodup ∧ ∀ b ∈ visit H base n l seen, base ≤ b
  | 0, _, seen, h1, h2 => by simp only [visit]; exact ⟨h1, h2⟩
  | n + 1, [], seen, h1, h2 => by simp only [visit]; exact ⟨h1, h2⟩
  | n + 1, b :: r, seen, h1, h2 => by
    simp only [visit]
    split
    · exact visit_inv H base n r seen h1 h2
    · rename_i hc
      simp only [Bool.or_eq_true, decide_eq_true_eq, List.contains_eq_mem, not_or] at hc
      refine visit_inv H base n _ _ ?_ ?_
      · rw [List.nodup_append]
        refine ⟨h1, by simp, fun x hx y hy => ?_⟩
        simp only [List.mem_singleton] at hy
        subst hy
        exact fun e => hc.2 (e ▸ hx)
      · intro x hx
        rcases List.mem_append.1 hx with hx | hx
        · exact h2 x hx
        · simp only [List.mem_singleton] at hx; omega

/-- The numbers of blocks anew: those below base stay; the others as they stand in seen. -/
def renum (base : Nat) (seen : List Nat) (b : Nat) : Option Nat := if b < base then some b else (seen.findIdx? (· == b)).map (· + base)
def back (ι : Nat → Option Nat) (base : Nat) (seen : List Nat) (b : Nat) : Option Nat := if b < base then ι b else (seen[b - base]?).bind ι

theorem renum_back {base : Nat} {seen : List Nat} {b b' k : Nat} (h : renum base seen b = some b') (hk : ι b = some k) : back ι base seen b' = some k := by
  unfold renum at h
  split at h
  · rename_i hlt; cases h; unfold back; rw [if_pos hlt]; exact hk
  · simp only [Option.map_eq_some_iff] at h
    obtain ⟨i, hi, rfl⟩ := h
    unfold back
    rw [if_neg (by omega), Nat.add_sub_cancel]
    rw [List.findIdx?_eq_some_iff_getElem] at hi
    obtain ⟨hlt, he, _⟩ := hi
    rw [List.getElem?_eq_getElem hlt]
    simp at he
    rw [he]; exact hk

/-- Blocks by other numbers, in a frame. -/
theorem norm_ok (hF : FRel P T st D ι a w r) (hn : norm st = some st1) : HPost P T w D ι st r st1 a := by
  unfold norm at hn
  split at hn
  · cases hn
    exact ⟨D, ι, hF, Ext.refl _ _ _, fun _ _ _ h => h, rfl, rfl, rfl⟩
  · rename_i hbase
    simp only at hn
    generalize hsn : visit st.H st.base (2 * (st.H.length + (idsP (st.env.map (·.2)) ++ (st.H.take st.base).flatMap AB.ids ++ st.dfs.flatMap fun d => match d with | .mark b => [b] | .call _ xs => idsP xs).length) + 100)
      (idsP (st.env.map (·.2)) ++ (st.H.take st.base).flatMap AB.ids ++ st.dfs.flatMap fun d => match d with | .mark b => [b] | .call _ xs => idsP xs) [] = seen at hn
    have hinv := visit_inv st.H st.base (2 * (st.H.length + (idsP (st.env.map (·.2)) ++ (st.H.take st.base).flatMap AB.ids ++ st.dfs.flatMap fun d => match d with | .mark b => [b] | .call _ xs => idsP xs).length) + 100)
      (idsP (st.env.map (·.2)) ++ (st.H.take st.base).flatMap AB.ids ++ st.dfs.flatMap fun d => match d with | .mark b => [b] | .call _ xs => idsP xs) [] (by simp) (by simp)
    rw [hsn] at hinv
    simp only [Option.bind_eq_some_iff, Option.map_eq_some_iff] at hn
    obtain ⟨vs, hvs, H', hH', ds, hds, rfl⟩ := hn
    have hvs' : rensP (renum st.base seen) (st.env.map (·.2)) = some vs := hvs
    have hH'' : optAll (renB (renum st.base seen)) (st.H.take st.base ++ seen.map fun b => (st.H[b]?).getD .dead) = some H' := hH'
    obtain ⟨hl, hg⟩ := optAll_get hH''
    have hrb : ∀ (b b' k : Nat), renum st.base seen b = some b' → ι b = some k → back ι st.base seen b' = some k := fun b b' k h1 h2 => renum_back h1 h2
    have htk : (st.H.take st.base).length = st.base := by simp; omega
    -- where a block comes from
    have from' : ∀ (b : Nat) (B : AB) (k : Nat), H'[b]? = some B → B.isDead = false → back ι st.base seen b = some k → ∃ c B0, st.H[c]? = some B0 ∧ B0.isDead = false ∧ ι c = some k ∧ renB (renum st.base seen) B0 = some B ∧ ((b < st.base ∧ c = b) ∨ (st.base ≤ b ∧ seen[b - st.base]? = some c)) := fun b B k h1 h2 h3 => by
      obtain ⟨B0, h4, h5⟩ := hg b B h1
      have hd0 : B0.isDead = false := (renB_dead h5).symm.trans h2
      unfold back at h3
      by_cases hlt : b < st.base
      · rw [if_pos hlt] at h3
        rw [List.getElem?_append_left (by omega), List.getElem?_take_of_lt hlt] at h4
        exact ⟨b, B0, h4, hd0, h3, h5, .inl ⟨hlt, rfl⟩⟩
      · rw [if_neg hlt] at h3
        rw [List.getElem?_append_right (by omega), htk, List.getElem?_map, Option.map_eq_some_iff] at h4
        obtain ⟨c, hc, hB⟩ := h4
        rw [hc] at h3
        cases hcc : st.H[c]? with
        | none => rw [hcc] at hB; simp at hB; subst hB; simp [AB.isDead] at hd0
        | some C => rw [hcc] at hB; simp at hB; subst hB; exact ⟨c, C, hcc, hd0, h3, h5, .inr ⟨by omega, hc⟩⟩
    have hv : ∀ v v' x, VRel w D ι v x → v.renP (renum st.base seen) = some v' → VRel w D (back ι st.base seen) v' x := fun v v' x hv hr => hv.renP hrb hr
    refine ⟨D, back ι st.base seen, ⟨⟨⟨fun b k hb => ?_, hF.s.h.dlt, fun b k hb => ?_, fun b B k h1 h2 h3 => ?_, fun b b' B B' k h1 h2 h3 h4 h5 h6 => ?_⟩, hF.s.nt, fun t v' ht => ?_, hF.s.gl⟩, ?_, ?_, ?_⟩,
      ⟨rfl, rfl, rfl, Nat.le_refl _, fun _ _ _ => rfl, fun k ⟨b, B, h1, h2, h3⟩ => ?_, fun _ h => h, fun _ h => .inl h, fun _ c _ f h _ => ⟨c, f, h, rfl⟩⟩, fun b k hb hk => ?_, rfl, rfl, rfl⟩
    · unfold back at hb
      rw [hl, List.length_append, htk, List.length_map]
      split at hb
      · omega
      · simp only [Option.bind_eq_some_iff] at hb
        obtain ⟨c, hc, _⟩ := hb
        have := (List.getElem?_eq_some_iff.1 hc).1
        omega
    · unfold back at hb
      split at hb
      · exact hF.s.h.ilt b k hb
      · simp only [Option.bind_eq_some_iff] at hb
        obtain ⟨c, hc, hk⟩ := hb
        exact hF.s.h.ilt c k hk
    · obtain ⟨c, B0, g1, g2, g3, g4, _⟩ := from' b B k h1 h2 h3
      obtain ⟨q1, q2⟩ := hF.s.h.blk c B0 k g1 g2 g3
      exact ⟨q1, bren q2 g4 fun v v' x _ hvx hr => hv v v' x hvx hr⟩
    · obtain ⟨c, B0, g1, g2, g3, _, g4⟩ := from' b B k h1 h2 h5
      obtain ⟨c', B0', g1', g2', g3', _, g4'⟩ := from' b' B' k h3 h4 h6
      have hcc := hF.s.h.inj c c' B0 B0' k g1 g2 g1' g2' g3 g3'
      subst hcc
      rcases g4 with ⟨a1, a2⟩ | ⟨a1, a2⟩ <;> rcases g4' with ⟨b1, b2⟩ | ⟨b1, b2⟩
      · omega
      · have := hinv.2 c (List.mem_of_getElem? b2); omega
      · have := hinv.2 c (List.mem_of_getElem? a2); omega
      · have hlt := (List.getElem?_eq_some_iff.1 a2).1
        have := (List.getElem?_inj hlt hinv.1).1 (a2.trans b2.symm)
        omega
    · obtain ⟨v, g1, _, g3⟩ := env_ren hvs' ht
      obtain ⟨x, x1, x2⟩ := hF.s.env t v g1
      exact ⟨x, x1, hv v v' x x2 g3⟩
    · -- deferred calls
      have key : ∀ (ds ds' : List ADf) (es : List Deferred), optAll (fun d => match d with | .mark b => (renum st.base seen b).map ADf.mark | .call k xs => (rensP (renum st.base seen) xs).map (ADf.call k)) ds = some ds' → DRel w D ι ds es → DRel w D (back ι st.base seen) ds' es := by
        intro ds
        induction ds with
        | nil => intro ds' es h1 h2; cases h1; cases es with | nil => trivial | cons => exact h2.elim
        | cons d ds ih =>
          intro ds' es h1 h2
          simp only [optAll, Option.bind_eq_some_iff, Option.map_eq_some_iff] at h1
          obtain ⟨d', hd', r', hr', rfl⟩ := h1
          cases es with
          | nil => cases d <;> exact h2.elim
          | cons e es =>
            cases d with
            | mark b =>
              obtain ⟨⟨k, k1, k2⟩, h3⟩ := h2
              simp only [Option.map_eq_some_iff] at hd'
              obtain ⟨b', hb', rfl⟩ := hd'
              exact ⟨⟨k, hrb _ _ _ hb' k1, k2⟩, ih _ _ hr' h3⟩
            | call f xs =>
              obtain ⟨⟨cap, k1, k2⟩, h3⟩ := h2
              simp only [Option.map_eq_some_iff] at hd'
              obtain ⟨xs', hxs', rfl⟩ := hd'
              obtain ⟨q1, q2⟩ := rensP_get hxs'
              refine ⟨⟨cap, k1, k2.1.trans q1.symm, fun j v' x hj hx => ?_⟩, ih _ _ hr' h3⟩
              obtain ⟨v, v1, v2⟩ := q2 j v' hj
              exact hv v v' x (k2.2 j v x v1 hx) v2
      exact key st.dfs ds a.defers hds hF.d
    · show st.base ≤ H'.length
      rw [hl, List.length_append, htk]; omega
    · have := hF.ro
      revert this
      show (match st.ro with | none => r = none | some b => b < st.base ∧ ∃ l, ι b = some l ∧ r = some l) → (match st.ro with | none => r = none | some b => b < st.base ∧ ∃ l, back ι st.base seen b = some l ∧ r = some l)
      cases st.ro with
      | none => exact id
      | some b => exact fun ⟨h1, l, h2, h3⟩ => ⟨h1, l, by unfold back; rw [if_pos h1]; exact h2, h3⟩
    · obtain ⟨c, B0, g1, g2, g3, _, _⟩ := from' b B k h1 h2 h3
      exact .inl ⟨c, B0, g1, g2, g3⟩
    · unfold back; rw [if_pos hb]; exact hk

theorem killAll_keep : ∀ (ks : List Nat) {H : List AB} {b : Nat} {B : AB}, H[b]? = some B → b ∉ ks → (killAll H ks)[b]? = some B
  | [], H, b, B, h, _ => h
  | c :: ks, H, b, B, h, hn => by
    simp only [List.mem_cons, not_or] at hn
    exact killAll_keep ks (H := H.set c .dead) (by rw [List.getElem?_set, if_neg (fun e => hn.1 e.symm)]; exact h) hn.2

theorem killAll_set : ∀ (ks : List Nat) (H : List AB) (b : Nat) (B : AB), killAll (H.set b B) ks = if b ∈ ks then killAll H ks else (killAll H ks).set b B
  | [], H, b, B => rfl
  | c :: ks, H, b, B => by
    show killAll ((H.set b B).set c .dead) ks = if b ∈ c :: ks then killAll (H.set c .dead) ks else (killAll (H.set c .dead) ks).set b B
    by_cases hc : b = c
    · subst hc
      rw [List.set_set, if_pos (by simp)]
    · rw [List.set_comm _ _ hc, killAll_set ks (H.set c .dead) b B]
      by_cases hm : b ∈ ks
      · rw [if_pos hm, if_pos (by simp [hm])]
      · rw [if_neg hm, if_neg (by simp [hc, hm])]

theorem hint_ok (hF : FRel P T st D ι a w r) {h : Hint} (hh : doHint h st = some st1) : HPost P T w D ι st r st1 a := by
  cases h with
  | keep ts => cases hh; exact ⟨D, ι, hF.keep ts, Ext.refl _ _ _, fun _ _ _ h => h, rfl, rfl, rfl⟩
  | norm => exact norm_ok hF hh
  | fz t =>
    simp only [doHint] at hh
    split at hh
    · rename_i v hv
      split at hh
      · cases hh; exact ⟨D, ι, hF, Ext.refl _ _ _, fun _ _ _ h => h, rfl, rfl, rfl⟩
      · simp only [Option.map_eq_some_iff] at hh
        obtain ⟨u, hu, rfl⟩ := hh
        obtain ⟨x, hx, hvx⟩ := hF.s.env t v hv
        obtain ⟨s1, s2⟩ := hF.shut (kil st.H depthF v)
        obtain ⟨f1, f2⟩ := frz_ok (D' := fun k => D k ∨ Shut ι st.H (kil st.H depthF v) k) hF.s.h false (fun k hk => .inl hk) depthF v u x hu hvx (fun k hk => .inr hk)
        exact ⟨_, ι, s1.retell hx f1, s2, fun _ _ _ h => h, rfl, rfl, rfl⟩
    · cases hh; exact ⟨D, ι, hF, Ext.refl _ _ _, fun _ _ _ h => h, rfl, rfl, rfl⟩
  | fzc t off =>
    simp only [doHint] at hh
    split at hh
    · rename_i b o hbo
      split at hh
      · rename_i cs hrow
        split at hh
        · rename_i v hv
          split at hh
          · cases hh; exact ⟨D, ι, hF, Ext.refl _ _ _, fun _ _ _ h => h, rfl, rfl, rfl⟩
          · simp only [Option.map_eq_some_iff] at hh
            obtain ⟨u, hu, hh⟩ := hh
            subst hh
            obtain ⟨x, _, hx⟩ := hF.s.env t _ hbo
            obtain ⟨k, hk, _⟩ := hx.ptr_inv
            obtain ⟨s1, s2⟩ := hF.shut (kil st.H depthF v)
            have he : (kil st.H depthF v).foldl (fun H b => H.set b .dead) (st.H.set b (.row (cs.set (o + off) u))) = if b ∈ kil st.H depthF v then killAll st.H (kil st.H depthF v) else (killAll st.H (kil st.H depthF v)).set b (.row (cs.set (o + off) u)) := killAll_set _ _ _ _
            rw [he]
            split
            · exact ⟨_, ι, s1, s2, fun _ _ _ h => h, rfl, rfl, rfl⟩
            · rename_i hnm
              have hrow' := killAll_keep (kil st.H depthF v) hrow hnm
              obtain ⟨c, e, g1, g2, g3⟩ := (hF.s.h.blk b _ k hrow rfl hk).2
              have hlt := (List.getElem?_eq_some_iff.1 hv).1
              obtain ⟨f1, f2⟩ := frz_ok (D' := fun k => D k ∨ Shut ι st.H (kil st.H depthF v) k) hF.s.h false (fun k hk => .inl hk) depthF v u c[o + off] hu (g3 _ v _ hv (Array.getElem?_eq_getElem (by omega))) (fun k hk => .inr hk)
              have hr := s1.s.h.recell (cs' := cs.set (o + off) u) hrow' hk (by simp) (fun j y z hj hz => by
                have hz' : c[j]? = some z := by simpa [World.cell?, g1] using hz
                rw [List.getElem?_set] at hj
                split at hj
                · rename_i e1
                  subst e1
                  rw [Array.getElem?_eq_getElem (by omega)] at hz'
                  cases hz'
                  cases hj; exact f1
                · exact (g3 j y z hj hz').mono (Keeps.refl _ _) (fun k hk => .inl hk) fun b k hb => ⟨hb, hF.s.h.ilt b k hb⟩)
              refine ⟨_, ι, ⟨⟨hr, s1.s.nt, s1.s.env, s1.s.gl⟩, s1.d, by show st.base ≤ _; rw [List.length_set, killAll_len]; exact hF.base, s1.ro⟩, ?_, fun _ _ _ h => h, rfl, rfl, rfl⟩
              refine ⟨rfl, rfl, rfl, Nat.le_refl _, fun _ _ _ => rfl, fun j hj => ?_, s2.dmono, s2.dnew, fun _ c _ f h _ => ⟨c, f, h, rfl⟩⟩
              rcases live_set hj with h | ⟨h, _⟩
              · exact s2.live j h
              · exact .inl ⟨b, _, hrow, rfl, h⟩
        · cases hh
      · cases hh
    · cases hh

end
end Go.Abs
end

section
/- Code, whole: every construct but the range over a function and the regions whose order Go leaves open. Conditions: none. -/
namespace Go.Abs

section
variable {P : Program} {T : Tab} {S : Sems} {w w' : World} {D D' : Nat → Prop} {ι ι' : Nat → Option Nat} {H : List AB} {st st' st1 : ASt} {a a' : Act} {r : Option Nat}

theorem CPost.trans {w1 : World} {D1 : Nat → Prop} {ι1 : Nat → Option Nat} {e : AExit} {x : Exit} (hx : Ext w D (Live ι st.H) w1 D1 (Live ι1 st1.H)) (hι : ∀ (b k : Nat), b < st.base → ι b = some k → ι1 b = some k) (h1 : st1.base = st.base) (h2 : st1.nt = st.nt) (h3 : st1.ro = st.ro)
    (h : CPost P T w1 D1 ι1 st1 r e st' x a' w') : CPost P T w D ι st r e st' x a' w' := by
  obtain ⟨D2, ι2, g1, g2, g3, g4, g5, g6, g7⟩ := h
  exact ⟨D2, ι2, g1, g2, hx.trans g3, fun b k hb hk => g4 b k (by rw [h1]; exact hb) (hι b k hb hk), g5.trans h1, g6.trans h2, g7.trans h3⟩

/-- A loop, from its body on. -/
def LTold (P : Program) (T : Tab) (c : AC) (st : ASt) (e : AExit) (st' : ASt) : Prop :=
  ∀ code, comp P code = some c.erase → ∀ (w : World) (D : Nat → Prop) (ι : Nat → Option Nat) (a : Act) (r : Option Nat), FRel P T st D ι a w r →
    ∀ (b : Frame) (k : List Item) (cs : List Frame), b.roundOf = r → ∃ e' a' w', CPost P T w D ι st r e st' e' a' w' ∧ ArrivesIn (Machine.fenced P (Fw r)) P (lone (b.atR a (.code code :: .inLoop code :: k)) cs w) b k cs e' a' w'

theorem room_w (r : Option Nat) (n : Nat) : (Fw r).room n := fun d h => by simp [Fw, Fence.wide] at h

theorem calm_w {fr : Frame} {cs : List Frame} {w : World} (r : Option Nat) : (lone fr cs w).fenced P (Fw r) := fenced_wide P _

theorem comp_loop {code : Code} {b : AC} (h : comp P code = some (.loop b)) : ∃ body, code = .loop body ∧ comp P body = some b := by
  cases code <;> simp only [comp] at h
  case loop body =>
    simp only [Option.map_eq_some_iff] at h
    obtain ⟨b', hb, he⟩ := h
    cases he
    exact ⟨body, rfl, hb⟩
  all_goals
    exfalso
    repeat' first
      | (rw [Option.bind_eq_some_iff] at h; obtain ⟨_, _, h⟩ := h)
      | (rw [Option.map_eq_some_iff] at h; obtain ⟨_, _, h⟩ := h)
      | (injection h with h; injection h; done)
      | (injection h; done)
      | split at h
      | (cases h; done)

theorem comp_seq {code : Code} {x y : AC} (h : comp P code = some (.seq x y)) : ∃ p q, code = .seq p q ∧ comp P p = some x ∧ comp P q = some y := by
  cases code <;> simp only [comp] at h
  case seq p q =>
    simp only [Option.bind_eq_some_iff, Option.map_eq_some_iff] at h
    obtain ⟨x', hx, y', hy, he⟩ := h
    cases he
    exact ⟨p, q, rfl, hx, hy⟩
  all_goals
    exfalso
    repeat' first
      | (rw [Option.bind_eq_some_iff] at h; obtain ⟨_, _, h⟩ := h)
      | (rw [Option.map_eq_some_iff] at h; obtain ⟨_, _, h⟩ := h)
      | (injection h with h; injection h; done)
      | (injection h; done)
      | split at h
      | (cases h; done)

theorem comp_block {code : Code} {id : Nat} {x : AC} (h : comp P code = some (.block id x)) : ∃ p, code = .block id p ∧ comp P p = some x := by
  cases code <;> simp only [comp] at h
  case block id p =>
    simp only [Option.map_eq_some_iff] at h
    obtain ⟨x', hx, he⟩ := h
    cases he
    exact ⟨p, rfl, hx⟩
  all_goals
    exfalso
    repeat' first
      | (rw [Option.bind_eq_some_iff] at h; obtain ⟨_, _, h⟩ := h)
      | (rw [Option.map_eq_some_iff] at h; obtain ⟨_, _, h⟩ := h)
      | (injection h with h; injection h; done)
      | (injection h; done)
      | split at h
      | (cases h; done)

theorem comp_cond {code : Code} {c : Opd} {x y : AC} (h : comp P code = some (.cond c x y)) : ∃ c0 p q, code = .cond c0 p q ∧ compO c0 = some c ∧ comp P p = some x ∧ comp P q = some y := by
  cases code <;> simp only [comp] at h
  case cond c0 p q =>
    simp only [Option.bind_eq_some_iff, Option.map_eq_some_iff] at h
    obtain ⟨c', hc, x', hx, y', hy, he⟩ := h
    cases he
    exact ⟨c0, p, q, rfl, hc, hx, hy⟩
  all_goals
    exfalso
    repeat' first
      | (rw [Option.bind_eq_some_iff] at h; obtain ⟨_, _, h⟩ := h)
      | (rw [Option.map_eq_some_iff] at h; obtain ⟨_, _, h⟩ := h)
      | (injection h with h; injection h; done)
      | (injection h; done)
      | split at h
      | (cases h; done)

theorem comp_exit {code : Code} {id : Nat} (h : comp P code = some (.exit id)) : code = .exit id := by
  cases code <;> simp only [comp] at h
  case exit id => cases h; rfl
  all_goals
    exfalso
    repeat' first
      | (rw [Option.bind_eq_some_iff] at h; obtain ⟨_, _, h⟩ := h)
      | (rw [Option.map_eq_some_iff] at h; obtain ⟨_, _, h⟩ := h)
      | (injection h with h; injection h; done)
      | (injection h; done)
      | split at h
      | (cases h; done)

theorem comp_ret {code : Code} (h : comp P code = some .ret) : code = .ret := by
  cases code <;> simp only [comp] at h
  case ret => rfl
  all_goals
    exfalso
    repeat' first
      | (rw [Option.bind_eq_some_iff] at h; obtain ⟨_, _, h⟩ := h)
      | (rw [Option.map_eq_some_iff] at h; obtain ⟨_, _, h⟩ := h)
      | (injection h with h; injection h; done)
      | (injection h; done)
      | split at h
      | (cases h; done)

theorem comp_skip {code : Code} (h : comp P code = some .skip) : code = .skip := by
  cases code <;> simp only [comp] at h
  case skip => rfl
  all_goals
    exfalso
    repeat' first
      | (rw [Option.bind_eq_some_iff] at h; obtain ⟨_, _, h⟩ := h)
      | (rw [Option.map_eq_some_iff] at h; obtain ⟨_, _, h⟩ := h)
      | (injection h with h; injection h; done)
      | (injection h; done)
      | split at h
      | (cases h; done)

theorem comp_rng {code : Code} {f : Opd} {ps : List Nat} {x y : AC} (h : comp P code = some (.rng f ps x y)) : ∃ f0 qs p q, code = .rangeFunc f0 qs p q ∧ compO f0 = some f ∧ qs.toList = ps ∧ ps.Nodup ∧ comp P p = some x ∧ comp P q = some y := by
  cases code <;> simp only [comp] at h
  case rangeFunc f0 qs p q =>
    split at h
    · cases h
    · rename_i hnd
      simp only [Option.bind_eq_some_iff, Option.map_eq_some_iff] at h
      obtain ⟨f', hf, x', hx, y', hy, he⟩ := h
      cases he
      exact ⟨f0, qs, p, q, rfl, hf, rfl, Decidable.not_not.1 hnd, hx, hy⟩
  all_goals
    exfalso
    repeat' first
      | (rw [Option.bind_eq_some_iff] at h; obtain ⟨_, _, h⟩ := h)
      | (rw [Option.map_eq_some_iff] at h; obtain ⟨_, _, h⟩ := h)
      | (injection h with h; injection h; done)
      | (injection h; done)
      | split at h
      | (cases h; done)

theorem comp_ops {code : Code} {l : List AO} {d : Option (List (Nat × Nat))} (h : comp P code = some (.ops l d)) : ∃ id ops draw, code = .region id ops draw ∧ compAO P ops ops.toList = some l ∧ (if draw then drawOk (P.follows .mixedOrders) ops l = true ∧ d = some (loose ops l) else d = none) := by
  cases code <;> simp only [comp] at h
  case region id ops draw =>
    simp only [Option.bind_eq_some_iff] at h
    obtain ⟨l', hl, h⟩ := h
    cases draw with
    | false => simp at h; obtain ⟨rfl, rfl⟩ := h; exact ⟨id, ops, false, rfl, hl, by simp⟩
    | true =>
      simp only [if_true] at h
      split at h
      · rename_i hd; cases h; exact ⟨id, ops, true, rfl, hl, by simp [hd]⟩
      · cases h
  all_goals
    exfalso
    repeat' first
      | (rw [Option.bind_eq_some_iff] at h; obtain ⟨_, _, h⟩ := h)
      | (rw [Option.map_eq_some_iff] at h; obtain ⟨_, _, h⟩ := h)
      | (injection h with h; injection h; done)
      | (injection h; done)
      | split at h
      | (cases h; done)

/-- A loop from before its first round. -/
theorem loop_told {c : AC} {e : AExit} (h : LTold P T c st e st') : CTold P T (.loop c) st e st' := by
  intro code hc w D ι a r hF
  obtain ⟨body, rfl, hb⟩ := comp_loop hc
  intro b k cs hro hb' hr
  obtain ⟨e', a', w', h1, h2⟩ := h body hb w D ι a r hF b k cs hro
  exact ⟨e', a', w', h1, .of_steps (.one (calm_w r) stepR_loop) h2⟩

end
end Go.Abs
end

section
/- Code, whole. Conditions: none. -/
namespace Go.Abs

section
variable {P : Program} {T : Tab} {S : Sems} {w w' : World} {D D' : Nat → Prop} {ι ι' : Nat → Option Nat} {H : List AB} {st st' st1 : ASt} {a a' : Act} {r : Option Nat}

theorem CPost.normal {x : Exit} {e : AExit} (h : CPost P T w D ι st r e st' x a' w') (he : e = .normal) : x = .normal := by
  subst he
  obtain ⟨_, _, h, _⟩ := h
  cases x <;> first | rfl | exact h.elim

/-- Code that is left otherwise than at its end. -/
theorem CPost.not_normal {e : AExit} (h : CPost P T w D ι st r e st' .normal a' w') : e = .normal := by
  obtain ⟨_, _, h, _⟩ := h
  cases e <;> first | rfl | exact h.elim

theorem stepO_out {o : AO} {e : AExit} {st1 : ASt} (h : stepO T S o st = some (.out e st1)) : ∃ v, e = .panic v := by
  have fin : ∀ {d : Option Nat} {q : AEnd × List AB}, finO d st q = some (.out e st1) → ∃ v, e = .panic v := fun {d q} h => by
    obtain ⟨q, H⟩ := q
    cases q with
    | ret v => simp [finO, Option.map_eq_some_iff] at h
    | pan v => simp only [finO, Option.some.injEq, AStep.out.injEq] at h; exact ⟨v, h.1.symm⟩
  have bnd : ∀ {q : Option (AEnd × List AB)} {d : Option Nat}, q.bind (finO d st) = some (.out e st1) → ∃ v, e = .panic v := fun {q d} h => by
    simp only [Option.bind_eq_some_iff] at h
    obtain ⟨q, _, h⟩ := h
    exact fin h
  unfold stepO at h
  simp only at h
  split at h
  all_goals
    repeat' first
      | exact bnd h
      | (rw [Option.bind_eq_some_iff] at h; obtain ⟨_, _, h⟩ := h)
      | (rw [Option.map_eq_some_iff] at h; obtain ⟨_, _, h⟩ := h)
      | (injection h with h; injection h with h1 h2; exact ⟨_, h1.symm⟩)
      | (injection h with h; injection h; done)
      | split at h
      | (injection h; done)
      | (cases h; done)

theorem runOps_out {e : AExit} {st1 : ASt} : ∀ {l : List AO} {st : ASt}, (∀ v, e ≠ .panic v) → runOps T S l st ≠ some (.out e st1)
  | [], st, _, h => by simp [runOps] at h
  | o :: l, st, he, h => by
    simp only [runOps] at h
    split at h
    · cases hs : stepO T S o st with
      | none => rw [hs] at h; cases h
      | some x =>
        rw [hs] at h
        cases x with
        | next st2 => exact runOps_out he h
        | out e2 st2 =>
          cases h
          obtain ⟨v, hv⟩ := stepO_out hs
          exact he v hv
    · simp only [Option.bind_eq_some_iff] at h
      obtain ⟨st2, _, h⟩ := h
      exact runOps_out he h
    · cases h

theorem code_all (hS : SemsOK P T S) (hT : TabOK P T) (hL : ∀ b st e st', S.code (.loop b) st = some (e, st') → LTold P T b st e st')
    (hDr : ∀ l inc st e st', code T S (.ops l (some inc)) st = some (e, st') → CTold P T (.ops l (some inc)) st e st') (hR : ∀ f ps x y st e st', code T S (.rng f ps x y) st = some (e, st') → CTold P T (.rng f ps x y) st e st') :
    ∀ (c : AC) (st : ASt) (e : AExit) (st' : ASt), code T S c st = some (e, st') → CTold P T c st e st' ∧ (∀ b, c = .loop b → LTold P T b st e st') := by
  intro c
  induction c with
  | skip =>
    intro st e st' h
    cases h
    refine ⟨fun cd hc w D ι a r hF => ?_, fun b h => by cases h⟩
    cases comp_skip hc
    exact wpIn_skip ⟨D, ι, trivial, hF, Ext.refl _ _ _, fun _ _ _ h => h, rfl, rfl, rfl⟩
  | exit id =>
    intro st e st' h
    cases h
    refine ⟨fun cd hc w D ι a r hF => ?_, fun b h => by cases h⟩
    cases comp_exit hc
    exact wpIn_exit ⟨D, ι, rfl, hF, Ext.refl _ _ _, fun _ _ _ h => h, rfl, rfl, rfl⟩
  | ret =>
    intro st e st' h
    cases h
    refine ⟨fun cd hc w D ι a r hF => ?_, fun b h => by cases h⟩
    cases comp_ret hc
    exact wpIn_ret ⟨D, ι, trivial, hF, Ext.refl _ _ _, fun _ _ _ h => h, rfl, rfl, rfl⟩
  | rng f ps x y _ _ => exact fun st e st' h => ⟨hR f ps x y st e st' h, fun b h => by cases h⟩
  | ops l d =>
    intro st e st' h
    refine ⟨?_, fun b h => by cases h⟩
    cases d with
    | some inc => exact hDr l inc st e st' h
    | none =>
      intro cd hc w D ι a r hF
      obtain ⟨id, ops, draw, rfl, hl, hd⟩ := comp_ops hc
      cases draw with
      | true => simp at hd
      | false =>
        obtain ⟨c1, c2⟩ := compL_get hl
        refine wpIn_region ?_
        rw [List.range_eq_range', ← c1]
        simp only [code] at h
        cases hs : runOps T S l st with
        | none => rw [hs] at h; cases h
        | some s =>
          rw [hs] at h
          refine ops_ok hS hT l 0 (by rw [c1]; omega) (fun j o ao hj ha => c2 j o ao (by simpa using hj) ha) hF hs ?_
          cases s with
          | next st1 =>
            cases h
            rintro a' w' ⟨D', ι', f1, x1, x2, x3, x4, x5, x6⟩
            exact ⟨D', ι', trivial, f1, x1, fun b k _ hk => x2 b k hk, x3, x4, x5⟩
          | out e1 st1 =>
            cases h
            -- only a panic leaves a region
            cases e with
            | panic v =>
              rintro ch a' w' ⟨D', ι', f0, f1, x1, x2, x3, x4, x5, x6⟩
              exact ⟨D', ι', f0, f1, x1, fun b k _ hk => x2 b k hk, x3, x4, x5⟩
            | normal => exact absurd hs (runOps_out (by simp))
            | ret => exact absurd hs (runOps_out (by simp))
            | exit id => exact absurd hs (runOps_out (by simp))
  | seq x y ihx ihy =>
    intro st e st' h
    refine ⟨fun cd hc w D ι a r hF => ?_, fun b h => by cases h⟩
    obtain ⟨p, q, rfl, hp, hq⟩ := comp_seq hc
    simp only [code] at h
    refine wpIn_seq ?_
    cases hx : code T S x st with
    | none => rw [hx] at h; cases h
    | some es =>
      obtain ⟨e1, st1⟩ := es
      rw [hx] at h
      refine wpIn_mono ((ihx st e1 st1 hx).1 p hp w D ι a r hF) ?_
      intro x' a1 w1 hpost
      cases x' with
      | normal =>
        have := hpost.not_normal
        subst this
        obtain ⟨D1, ι1, _, f1, x1, x2, x3, x4, x5⟩ := hpost
        exact wpIn_mono ((ihy st1 e st' h).1 q hq w1 D1 ι1 a1 r f1) fun x2' a2 w2 hp2 => CPost.trans x1 x2 x3 x4 x5 hp2
      | exit id => cases e1 <;> first | (cases h; exact hpost) | (obtain ⟨_, _, hh, _⟩ := hpost; exact hh.elim)
      | goto id => cases e1 <;> first | (cases h; exact hpost) | (obtain ⟨_, _, hh, _⟩ := hpost; exact hh.elim)
      | ret => cases e1 <;> first | (cases h; exact hpost) | (obtain ⟨_, _, hh, _⟩ := hpost; exact hh.elim)
      | panic ch => cases e1 <;> first | (cases h; exact hpost) | (obtain ⟨_, _, hh, _⟩ := hpost; exact hh.elim)
      | outgrown => cases e1 <;> first | (cases h; exact hpost) | (obtain ⟨_, _, hh, _⟩ := hpost; exact hh.elim)
  | cond c x y ihx ihy =>
    intro st e st' h
    refine ⟨fun cd hc w D ι a r hF => ?_, fun b h => by cases h⟩
    obtain ⟨c0, p, q, rfl, hcc, hp, hq⟩ := comp_cond hc
    simp only [code] at h
    split at h
    · rename_i t ht
      have hv := (opd_ok hF.s hcc ht).bool_inv
      refine wpIn_cond hv ?_
      cases t with
      | true => exact (ihx st e st' h).1 p hp w D ι a r hF
      | false => exact (ihy st e st' h).1 q hq w D ι a r hF
    · cases h
  | block id x ih =>
    intro st e st' h
    refine ⟨fun cd hc w D ι a r hF => ?_, fun b h => by cases h⟩
    obtain ⟨p, rfl, hp⟩ := comp_block hc
    simp only [code] at h
    refine wpIn_block ?_
    cases hx : code T S x st with
    | none => rw [hx] at h; cases h
    | some es =>
      obtain ⟨e1, st1⟩ := es
      rw [hx] at h
      refine wpIn_mono ((ih st e1 st1 hx).1 p hp w D ι a r hF) ?_
      intro x' a1 w1 hpost
      cases e1 with
      | exit id' =>
        obtain ⟨D1, ι1, hx1, rest⟩ := hpost
        cases x' with
        | exit id'' =>
          have : id' = id'' := hx1
          subst this
          simp only at h
          split at h
          · rename_i he
            cases h
            show if id' = id then CPost P T w D ι st r AExit.normal st' Exit.normal a1 w1 else CPost P T w D ι st r AExit.normal st' (Exit.exit id') a1 w1
            rw [if_pos he]
            exact ⟨D1, ι1, trivial, rest⟩
          · rename_i he
            cases h
            show if id' = id then CPost P T w D ι st r (AExit.exit id') st' Exit.normal a1 w1 else CPost P T w D ι st r (AExit.exit id') st' (Exit.exit id') a1 w1
            rw [if_neg he]
            exact ⟨D1, ι1, rfl, rest⟩
        | _ => exact hx1.elim
      | normal =>
        cases h
        obtain ⟨D1, ι1, hx1, rest⟩ := hpost
        cases x' <;> first | exact ⟨D1, ι1, hx1, rest⟩ | exact hx1.elim
      | ret =>
        cases h
        obtain ⟨D1, ι1, hx1, rest⟩ := hpost
        cases x' <;> first | exact ⟨D1, ι1, hx1, rest⟩ | exact hx1.elim
      | panic v =>
        cases h
        obtain ⟨D1, ι1, hx1, rest⟩ := hpost
        cases x' <;> first | exact ⟨D1, ι1, hx1, rest⟩ | exact hx1.elim
  | hint hh c ih =>
    intro st e st' h
    refine ⟨fun cd hc w D ι a r hF => ?_, fun b h => by cases h⟩
    simp only [code] at h
    split at h
    · rename_i st1 hst
      obtain ⟨D1, ι1, f1, x1, x2, x3, x4, x5⟩ := hint_ok hF hst
      exact wpIn_mono ((ih st1 e st' h).1 cd hc w D1 ι1 a r f1) fun x' a2 w2 hp2 => CPost.trans x1 x2 x3 x4 x5 hp2
    · cases h
  | loop x ih =>
    intro st e st' h
    have hl : LTold P T x st e st' := by
      intro cd hc w D ι a r hF b k cs hro
      simp only [code] at h
      cases hx : code T S x st with
      | none => rw [hx] at h; cases h
      | some es =>
        obtain ⟨e1, st1⟩ := es
        rw [hx] at h
        obtain ⟨e', a1, w1, hpost, harr⟩ := (ih st e1 st1 hx).1 cd hc w D ι a r hF b (.inLoop cd :: k) cs hro trivial (room_w r _)
        cases e' with
        | normal =>
          have := hpost.not_normal
          subst this
          obtain ⟨D1, ι1, _, f1, x1, x2, x3, x4, x5⟩ := hpost
          obtain ⟨e2, a2, w2, g1, g2⟩ := hL x st1 e st' h cd hc w1 D1 ι1 a1 r f1 b k cs hro
          exact ⟨e2, a2, w2, CPost.trans x1 x2 x3 x4 x5 g1, .of_steps (StepsIn.trans harr (.one (calm_w r) stepR_inLoop)) g2⟩
        | exit id => cases e1 <;> first | (cases h; exact ⟨_, _, _, hpost, .pass (x := .inLoop cd) rfl (fun _ _ => .inl (by simp)) harr⟩) | (obtain ⟨_, _, hh, _⟩ := hpost; exact hh.elim)
        | goto id => cases e1 <;> first | (cases h; exact ⟨_, _, _, hpost, .pass (x := .inLoop cd) rfl (fun _ _ => .inl (by simp)) harr⟩) | (obtain ⟨_, _, hh, _⟩ := hpost; exact hh.elim)
        | ret => cases e1 <;> first | (cases h; exact ⟨_, _, _, hpost, .pass (x := .inLoop cd) rfl (fun _ _ => .inl (by simp)) harr⟩) | (obtain ⟨_, _, hh, _⟩ := hpost; exact hh.elim)
        | panic ch => cases e1 <;> first | (cases h; exact ⟨_, _, _, hpost, .pass (x := .inLoop cd) rfl (fun _ _ => .inl (by simp)) harr⟩) | (obtain ⟨_, _, hh, _⟩ := hpost; exact hh.elim)
        | outgrown => cases e1 <;> first | (cases h; exact ⟨_, _, _, hpost, .pass (x := .inLoop cd) rfl (fun _ _ => .inl (by simp)) harr⟩) | (obtain ⟨_, _, hh, _⟩ := hpost; exact hh.elim)
    exact ⟨loop_told hl, fun b hb => by cases hb; exact hl⟩

end
end Go.Abs
end

section
/- The statement of a range over a function. Conditions: none. -/
namespace Go.Abs

section
variable {P : Program} {T : Tab} {S : Sems} {w w' : World} {D D' : Nat → Prop} {ι ι' : Nat → Option Nat} {H : List AB} {st st' st1 : ASt} {a a' : Act} {r : Option Nat}

theorem HRel.free (h : HRel P w D ι H) : ι H.length = none := by
  cases hk : ι H.length with
  | none => rfl
  | some k => have := h.dom _ k hk; omega

/-- What is laid ahead of a range over a function: the block for deferred calls, at an outermost loop. -/
theorem mark_ok (fn : FuncId) (ps : Array Tmp) (assign body : Code) (hF : FRel P T st D ι a w r) (hro : ∀ b, st.ro = some b → ∃ R, st.H[b]? = some (.loop R)) :
    ∃ (w1 : World) (ι1 : Nat → Option Nat) (mark : List Deferred) (L : Loop),
      FRel P T { st with H := rngH st, dfs := rngD st } D ι1 { a with defers := mark ++ a.defers } w1 r ∧
      Ext w D (Live ι st.H) w1 D (Live ι1 (rngH st)) ∧ (∀ (b k : Nat), ι b = some k → ι1 b = some k) ∧
      L.state = .ready ∧ L.pending = none ∧ L.tmps = a.tmps ∧ L.params = ps ∧ L.assign = assign ∧ L.body = body ∧
      (Instr.enterLoop fn a.tmps ps assign body r).run P w = .ok (w1.heap.size, mark) { w1 with heap := w1.heap.push (.loop L) } := by
  unfold rngH rngD
  cases h : st.ro with
  | none =>
    have hr : r = none := by have := hF.ro; rw [h] at this; exact this
    subst hr
    have hx := ext_new (.deferred (some [])) w.drawn AB.dfr (w := w) (D := D) (H := st.H) hF.s.h.free
    have hn := hrel_new (o := .deferred (some [])) (d := w.drawn) hF.s.h .dfr hF.s.h.free (by simp [BRel])
    rw [putB_end] at hx hn
    have hch := hF.change hx (ins_mono hF.s.h.free) hn (by simp; exact Nat.le_succ_of_le hF.base)
    refine ⟨_, _, [{ target := .collected w.heap.size, args := #[] }], { state := .ready, pending := none, fn, tmps := a.tmps, params := ps, assign, body, defers := w.heap.size }, ?_, hx, ins_mono hF.s.h.free, rfl, rfl, rfl, rfl, rfl, rfl, ?_⟩
    · exact ⟨⟨hch.s.h, hch.s.nt, hch.s.env, hch.s.gl⟩, ⟨⟨w.heap.size, ins_self _ _ _, rfl⟩, hch.d⟩, hch.base, rfl⟩
    · simp [Instr.enterLoop]
      rfl
  | some b =>
    obtain ⟨R, hR⟩ := hro b h
    have hr := hF.ro
    rw [h] at hr
    obtain ⟨hb, l, hl, rfl⟩ := hr
    obtain ⟨L0, hL0, _⟩ := hF.s.h.loop hR hl
    refine ⟨w, ι, [], { state := .ready, pending := none, fn, tmps := a.tmps, params := ps, assign, body, defers := L0.defers }, ?_, Ext.refl _ _ _, fun _ _ h => h, rfl, rfl, rfl, rfl, rfl, rfl, ?_⟩
    · exact ⟨⟨hF.s.h, hF.s.nt, hF.s.env, hF.s.gl⟩, hF.d, hF.base, hb, l, hl, rfl⟩
    · simp only [Instr.enterLoop, Sem.run_bind, run_getLoop hL0, Sem.run_pure, Result.andThen_ok, run_newObj]

theorem rng_ok (hS : SemsOK P T S) {f : Opd} {ps : List Nat} {x y : AC} {e : AExit} (h : code T S (.rng f ps x y) st = some (e, st')) : CTold P T (.rng f ps x y) st e st' := by
  intro cd hc w D ι a r hF
  obtain ⟨f0, qs, p, q, rfl, hf, hqs, hnd, hp, hq⟩ := comp_rng hc
  simp only [code, Option.bind_eq_some_iff] at h
  obtain ⟨fv, hfv, h⟩ := h
  split at h
  · rename_i hcond
    simp only [rngOk, Bool.and_eq_true] at hcond
    have hro : ∀ b, st.ro = some b → ∃ R, st.H[b]? = some (.loop R) := fun b hb => by
      have := hcond.1
      rw [hb] at this
      simp only at this
      split at this
      · exact ⟨_, by assumption⟩
      · cases this
    have hlt : ∀ t ∈ ps, t < st.nt := fun t ht => by simpa using List.all_eq_true.1 hcond.2 t ht
    refine wpIn_rangeFunc fun fn _ => ?_
    obtain ⟨w1, ι1, mark, L, fA, xA, iA, l1, l2, l3, l4, l5, l6, henter⟩ := mark_ok fn qs p q hF hro
    have hV := opd_ok hF.s hf hfv
    split at h
    · rename_i k caps
      obtain ⟨first, captured, e1, e2, e3⟩ := fn_inv hV
      cases e2.nil_inv
      have hfree := fA.s.h.free
      have hfree' : ι1 (rngH st).length = none := hfree
      have hx2 := ext_new (.loop L) w1.drawn (AB.loop ⟨.ready, none, st.env, st.nt, ps, x, y⟩) (w := w1) (D := D) (H := rngH st) hfree'
      have hn2 := hrel_new (o := .loop L) (d := w1.drawn) fA.s.h (.loop ⟨.ready, none, st.env, st.nt, ps, x, y⟩) hfree'
        ⟨L, by simp, l1, by rw [l2]; rfl, by rw [l3]; exact hF.s.nt, by rw [l3]; exact fA.s.h.env hx2 (ins_mono hfree') fA.s.env, by rw [l4]; exact hqs, by rw [l5]; exact hp, by rw [l6]; exact hq, hnd, hlt⟩
      have hn2' : HRel P { w1 with heap := w1.heap.push (.loop L) } D (ins ι1 (rngH st).length w1.heap.size) (rngH st ++ [.loop ⟨.ready, none, st.env, st.nt, ps, x, y⟩]) := by
        have := hn2; rwa [show putB (rngH st) (rngH st).length (AB.loop ⟨.ready, none, st.env, st.nt, ps, x, y⟩) = rngH st ++ [.loop ⟨.ready, none, st.env, st.nt, ps, x, y⟩] from putB_end _ _] at this
      have hx2' : Ext w1 D (Live ι1 (rngH st)) { w1 with heap := w1.heap.push (.loop L) } D (Live (ins ι1 (rngH st).length w1.heap.size) (rngH st ++ [.loop ⟨.ready, none, st.env, st.nt, ps, x, y⟩])) := by
        have := hx2; rwa [show putB (rngH st) (rngH st).length (AB.loop ⟨.ready, none, st.env, st.nt, ps, x, y⟩) = rngH st ++ [.loop ⟨.ready, none, st.env, st.nt, ps, x, y⟩] from putB_end _ _] at this
      have fB := fA.change hx2' (ins_mono hfree') hn2' (by have := fA.base; simp; exact Nat.le_succ_of_le this)
      have hcapv : VRels { w1 with heap := w1.heap.push (.loop L) } D (ins ι1 (rngH st).length w1.heap.size) caps captured :=
        ⟨e3.1, fun j v z h1 h2 => fA.s.h.vrel hx2' (ins_mono hfree') (hF.s.h.vrel xA iA (e3.2 j v z h1 h2))⟩
      cases hcall : S.call k (.yld (rngH st).length :: caps) (rngH st ++ [AB.loop ⟨.ready, none, st.env, st.nt, ps, x, y⟩]) with
      | none => rw [hcall] at h; cases h
      | some qq =>
        obtain ⟨qe, H3⟩ := qq
        rw [hcall] at h
        refine ⟨w1.heap.size, mark, { w1 with heap := w1.heap.push (.loop L) }, { target := .fn (.func k) captured, args := #[.func (.yield w1.heap.size) #[] #[]] }, { w1 with heap := w1.heap.push (.loop L) }, k, #[.func (.yield w1.heap.size) #[] #[]] ++ captured, { w1 with heap := w1.heap.push (.loop L) }, henter, ?_, fun _ _ => trivial, (by simp only [Go.invoke]; exact run_callFunc (hS.ent _ _ _ _ hcall)), fun h => by simp [Fw, Fence.wide] at h, ?_⟩
        · simp [resolve, e1, Deferred.ofValue]
          rfl
        · have hcl : CallsIn (Fw r) 0 P k (#[.func (.yield w1.heap.size) #[] #[]] ++ captured) { w1 with heap := w1.heap.push (.loop L) } _ := hS.call _ _ _ _ _ hcall _ D _ _ hn2' fB.s.gl (VRels.cons (.yld (ins_self _ _ _)) hcapv)
          refine hcl.mono ?_
          rintro e' w3 ⟨D3, ι3, er, h3, x3, i3, len3⟩
          have hxx : Ext w D (Live ι st.H) w3 D3 (Live ι3 H3) := (xA.trans hx2').trans x3
          have hlen : (rngH st).length < H3.length := by have := len3; simp at this; omega
          have hιι : ∀ (b k : Nat), ι b = some k → ι3 b = some k := fun b k hb => i3 b k (ins_mono hfree' b k (iA b k hb))
          have fC := (fB.change x3 i3 h3 (Nat.le_trans fA.base (Nat.le_of_lt hlen)))
          cases qe with
          | pan v =>
            cases e' with
            | panicked ch => cases h; exact ⟨D3, ι3, er, fC, hxx, fun b k _ hk => hιι b k hk, rfl, rfl, rfl⟩
            | returned z => exact er.elim
            | outgrown => exact er.elim
          | ret v =>
            cases e' with
            | panicked ch => exact er.elim
            | outgrown => exact er.elim
            | returned z =>
              simp only at h
              split at h
              · rename_i R hR
                have hl3 : ι3 (rngH st).length = some w1.heap.size := i3 _ _ (ins_self _ _ _)
                obtain ⟨L3, hL3, s1, s2, _⟩ := h3.loop hR hl3
                split at h
                · cases h
                · rename_i hbusy
                  obtain ⟨t1, t2⟩ := h3.turn (R' := { R with state := .exhausted }) (L' := { L3 with state := .exhausted }) hR hl3 hL3 ⟨rfl, rfl, rfl, rfl, rfl⟩ ⟨rfl, rfl, rfl, rfl⟩ rfl s2
                  have t3 := hrel_kill t1 (rngH st).length
                  have t4 := t2.trans (ext_kill _ D3 ι3 _ (rngH st).length)
                  rw [List.set_set] at t3 t4
                  have fD := fC.change (w' := { w3 with heap := w3.heap.setIfInBounds w1.heap.size (.loop { L3 with state := .exhausted }) }) t4 (fun _ _ h => h) t3 (by rw [List.length_set]; exact Nat.le_trans fA.base (Nat.le_of_lt hlen))
                  have hend : (Instr.endLoop w1.heap.size).run P w3 = .ok (R.pend.map AJ.code) { w3 with heap := w3.heap.setIfInBounds w1.heap.size (.loop { L3 with state := .exhausted }) } := by
                    have hnb : (L3.state == LoopState.busy) = false := by
                      rw [s1]; cases hq : R.state <;> first | rfl | exact absurd hq hbusy
                    simp only [Instr.endLoop, Sem.run_bind, run_getLoop hL3, Result.andThen_ok, hnb, Bool.false_eq_true, if_false, run_setLoop hL3, s2, Sem.run_pure]
                  have hpost : ∀ (e0 : AExit) (x0 : Exit), XRel { w3 with heap := w3.heap.setIfInBounds w1.heap.size (.loop { L3 with state := .exhausted }) } D3 ι3 e0 x0 →
                      CPost P T w D ι st r e0 { st with H := H3.set (rngH st).length .dead, dfs := rngD st } x0 { a with defers := mark ++ a.defers } { w3 with heap := w3.heap.setIfInBounds w1.heap.size (.loop { L3 with state := .exhausted }) } := fun e0 x0 h0 =>
                    ⟨D3, ι3, h0, fD, hxx.trans t4, fun b k _ hk => hιι b k hk, rfl, rfl, rfl⟩
                  refine ⟨R.pend.map AJ.code, _, hend, ?_⟩
                  cases hpd : R.pend with
                  | none => rw [hpd] at h; cases h; exact hpost _ _ trivial
                  | some j =>
                    rw [hpd] at h
                    cases j with
                    | ret => cases h; exact wpIn_ret (hpost _ _ trivial)
                    | exit id => cases h; exact wpIn_exit (hpost _ _ rfl)
              · cases h
    · cases h
  · cases h

end
end Go.Abs
end

section
/- How a function's results are read. Conditions: none. -/
namespace Go.Abs

section
variable {P : Program} {T : Tab} {S : Sems} {w w' : World} {D D' : Nat → Prop} {ι ι' : Nat → Option Nat} {H : List AB} {st st' st1 : ASt} {a a' : Act} {r : Option Nat}

/-- A function's results, as the walk's table has them. -/
def ResOK (P : Program) : List ResultVar → List ARs → Prop
  | [], [] => True
  | .tmp t :: rs, .t n :: qs => t = n ∧ ResOK P rs qs
  | .cell t ty :: rs, .cell g n m :: qs => t = m ∧ aggT P ty = some g ∧ sizeT P ty = some n ∧ ResOK P rs qs
  | _, _ => False

theorem res_list (hs : SRel P T st D ι a w) : ∀ {rs : List ResultVar} {qs : List ARs} {l : List AV}, ResOK P rs qs → optAll (fun q => match q with
    | .t n => st.env.get n
    | .cell g n t => match st.env.get t with
      | some (.ptr b off) => match st.H[b]? with
        | some (.row cs) => takeV g n (cs.drop off)
        | _ => none
      | _ => none) qs = some l →
    ∃ xs : List Value, (rs.mapM fun q => (match q with
      | .tmp t => pure (a.tmps.getD t undef)
      | .cell x t => do loadVar t (← asAddr (a.tmps.getD x undef)) : Sem Value)).run P w = .ok xs w ∧ VRels w D ι l xs.toArray
  | [], [], l, _, h => by cases h; exact ⟨[], rfl, VRels.nil⟩
  | .tmp t :: rs, .t n :: qs, l, hr, h => by
    obtain ⟨rfl, hr⟩ := hr
    simp only [optAll, Option.bind_eq_some_iff, Option.map_eq_some_iff] at h
    obtain ⟨v, hv, s, hs', rfl⟩ := h
    obtain ⟨xs, h1, h2⟩ := res_list hs hr hs'
    obtain ⟨x, x1, x2⟩ := hs.env _ _ hv
    refine ⟨x :: xs, ?_, ?_⟩
    · simp only [List.mapM_cons, Sem.run_bind, Sem.run_pure, Result.andThen_ok, h1]
      simp [x1]
    · have := VRels.cons x2 h2
      simpa using this
  | .cell t ty :: rs, .cell g n m :: qs, l, hr, h => by
    obtain ⟨rfl, hg, hn, hr⟩ := hr
    simp only [optAll, Option.bind_eq_some_iff, Option.map_eq_some_iff] at h
    obtain ⟨v, hv, s, hs', rfl⟩ := h
    obtain ⟨xs, h1, h2⟩ := res_list hs hr hs'
    split at hv
    · rename_i b off hb
      split at hv
      · rename_i cs hrow
        obtain ⟨x, x1, x2⟩ := hs.env _ _ hb
        obtain ⟨k, hk, rfl⟩ := x2.ptr_inv
        obtain ⟨y, y1, y2⟩ := run_loadVar (P := P) hg hn hv (hs.h.cells (off := off) hrow hk)
        refine ⟨y :: xs, ?_, ?_⟩
        · have hd : a.tmps.getD t undef = .pointer (some ⟨k, off, none⟩) := by simp [x1]
          have ha : (asAddr (a.tmps.getD t undef)).run P w = .ok ⟨k, off, none⟩ w := by rw [hd]; rfl
          simp only [List.mapM_cons, Sem.run_bind, Sem.run_pure, Result.andThen_ok, h1, ha, y1]
        · have := VRels.cons y2 h2
          simpa using this
      · cases hv
    · cases hv
  | .tmp _ :: _, .cell _ _ _ :: _, _, hr, _ => hr.elim
  | .cell _ _ :: _, .t _ :: _, _, hr, _ => hr.elim
  | [], _ :: _, _, hr, _ => hr.elim
  | .tmp _ :: _, [], _, hr, _ => hr.elim
  | .cell _ _ :: _, [], _, hr, _ => hr.elim

theorem results_ok {fn : Func} {rs : List ARs} {v : AV} (hs : SRel P T st D ι a w) (hr : ResOK P fn.results.toList rs) (h : results st rs = some v) : ∃ x, (Go.results fn a.tmps).run P w = .ok x w ∧ VRel w D ι v x := by
  simp only [results, Option.map_eq_some_iff] at h
  obtain ⟨l, hl, hv⟩ := h
  obtain ⟨xs, h1, h2⟩ := res_list hs hr hl
  have hm : (fn.results.mapM fun q => (match q with
      | .tmp t => pure (a.tmps.getD t undef)
      | .cell x t => do loadVar t (← asAddr (a.tmps.getD x undef)) : Sem Value)).run P w = .ok xs.toArray w := by
    rw [Array.mapM_eq_mapM_toList]
    rw [Sem.run_map, h1]
    rfl
  have hvs : (Go.results fn a.tmps).run P w = .ok (if h : xs.toArray.size = 1 then xs.toArray[0] else .tuple xs.toArray) w := by
    unfold Go.results
    simp only [Sem.run_bind]
    exact (congrArg (fun r : Result (Array Value) => r.andThen fun a w' => Sem.run P (pure (if h : a.size = 1 then a[0] else Value.tuple a)) w') hm).trans rfl
  refine ⟨_, hvs, ?_⟩
  have hsz := h2.1
  match l, hv, h2, hsz with
  | [u], hv, h2, hsz =>
    simp only at hv
    subst hv
    rw [dif_pos (by simpa using hsz)]
    exact h2.2 0 u _ rfl (Array.getElem?_eq_getElem _)
  | [], hv, h2, hsz =>
    simp only at hv
    subst hv
    rw [dif_neg (by rw [hsz]; simp)]
    exact .tup h2.1 h2.2
  | u :: u2 :: l, hv, h2, hsz =>
    simp only at hv
    subst hv
    rw [dif_neg (by rw [hsz]; simp)]
    exact .tup h2.1 h2.2

end
end Go.Abs
end

section
/- What an operation reads and touches. Conditions: none. -/
namespace Go.Abs

/-- A living block. -/
def lv : Option AB → Option AB
  | some .dead => none
  | x => x

theorem lv_cases {x y : Option AB} (h : lv x = lv y) : x = y ∨ ((x = none ∨ x = some .dead) ∧ (y = none ∨ y = some .dead)) := by
  cases x with
  | none => cases y with
    | none => exact .inl rfl
    | some B => cases B <;> simp [lv] at h ⊢
  | some A => cases y with
    | none => cases A <;> simp [lv] at h ⊢
    | some B => cases A <;> cases B <;> simp_all [lv]

theorem lv_some {x : Option AB} {B : AB} (h : x = some B) (hd : B.isDead = false) : lv x = some B := by
  subst h
  cases B <;> first | rfl | simp [AB.isDead] at hd

theorem of_lv {x : Option AB} {B : AB} (h : lv x = some B) : x = some B ∧ B.isDead = false := by
  cases x with
  | none => simp [lv] at h
  | some A => cases A <;> simp [lv] at h <;> subst h <;> exact ⟨rfl, rfl⟩

/-- The operations that read no memory and touch none. -/
def AOp.wl : AOp → Bool
  | .mv _ | .pick _ _ _ | .fld _ _ | .ext _ _ | .bin _ _ _ | .eqb _ _ _ | .eqf _ _ _ _ | .eqn _ _ _ _ | .un _ _ | .conv _ _ | .len _ | .lent _ | .cvs _ | .idxs _ _ _ | .idxa _ _ _ _ | .fldv _ _ _ _ | .build _ _ | .mkfn _ _ _ | .mkif _ _ | .nilc _ => true
  | _ => false

section
variable {P : Program} {T : Tab} {w w' : World} {D D' : Nat → Prop} {ι ι' : Nat → Option Nat} {H H' : List AB}

/-- The blocks by another list, alike where the machine has them. -/
theorem HRel.agree (h : HRel P w D ι H) (hs : ∀ b k, ι b = some k → lv H'[b]? = lv H[b]?) (hd : ∀ b k, ι b = some k → b < H'.length) : HRel P w D ι H' := by
  have back : ∀ {b k : Nat} {B : AB}, H'[b]? = some B → B.isDead = false → ι b = some k → H[b]? = some B := fun {b k B} h1 h2 h3 => by
    have := hs b k h3
    rw [lv_some h1 h2] at this
    exact (of_lv this.symm).1
  exact ⟨hd, h.dlt, h.ilt, fun b B k h1 h2 h3 => h.blk b B k (back h1 h2 h3) h2 h3, fun b b' B B' k h1 h2 h3 h4 h5 h6 => h.inj b b' B B' k (back h1 h2 h5) h2 (back h3 h4 h6) h4 h5 h6⟩

theorem Live.agree (hs : ∀ b k, ι b = some k → lv H'[b]? = lv H[b]?) : Live ι H' = Live ι H := by
  funext k
  refine propext ⟨fun ⟨b, B, h1, h2, h3⟩ => ⟨b, B, ?_, h2, h3⟩, fun ⟨b, B, h1, h2, h3⟩ => ⟨b, B, ?_, h2, h3⟩⟩
  · have := hs b k h3
    rw [lv_some h1 h2] at this
    exact (of_lv this.symm).1
  · have := hs b k h3
    rw [lv_some h1 h2] at this
    exact (of_lv this).1

theorem optAll_same {α β : Type} {f g : α → Option β} : ∀ {l : List α}, (∀ x ∈ l, f x = g x) → optAll f l = optAll g l
  | [], _ => rfl
  | x :: l, h => by simp only [optAll]; rw [h x (by simp), optAll_same (fun y hy => h y (by simp [hy]))]

theorem parts_same {ρ ρ' : Opd → Option AV} {l : List (Nat × Nat × Opd)} (h : ∀ x ∈ l.map (·.2.2), ρ x = ρ' x) : parts ρ l = parts ρ' l := by
  unfold parts
  exact optAll_same fun x hx => by rw [h x.2.2 (List.mem_map.2 ⟨x, hx, rfl⟩)]

theorem bound_same {ρ ρ' : Opd → Option AV} {o : Option Opd} {d : Int} (h : ∀ x ∈ o.toList, ρ x = ρ' x) : bound ρ o d = bound ρ' o d := by
  cases o with
  | none => rfl
  | some o => simp only [bound]; rw [h o (by simp)]

theorem srcOf_same {rd rd' : Nat → Option AB} {w : Nat} {v : AV} (h : ∀ b ∈ topB v, lv (rd b) = lv (rd' b)) : srcOf rd w v = srcOf rd' w v := by
  cases v <;> try rfl
  · rename_i b off len cap
    have := lv_cases (h b (by simp [topB]))
    simp only [srcOf]
    rcases this with e | ⟨e | e, f | f⟩ <;> first | (rw [e]; done) | rw [e, f]
  · rename_i b len d
    have := lv_cases (h b (by simp [topB]))
    simp only [srcOf]
    rcases this with e | ⟨e | e, f | f⟩ <;> first | (rw [e]; done) | rw [e, f]

/-- An operation by other operands and blocks, alike where it looks. -/
theorem aop_opds {ρ ρ' : Opd → Option AV} {rd : Nat → Option AB} {n : Nat} {op : AOp} (h : ∀ o ∈ op.opds, ρ o = ρ' o) : aop ρ rd n op = aop ρ' rd n op := by
  cases op <;> simp only [AOp.opds, List.mem_cons, List.mem_append, List.not_mem_nil, or_false, forall_eq_or_imp, forall_eq] at h <;> simp only [aop]
  case build => rw [parts_same h]
  case bsl => rw [parts_same h]
  case mkfn => rw [optAll_same (fun x hx => h x (.inl hx)), optAll_same (fun x hx => h x (.inr hx))]
  case mx => rw [optAll_same h]
  case mn => rw [optAll_same h]
  case slc x lo hi =>
    have e1 : ∀ d, bound ρ lo d = bound ρ' lo d := fun d => bound_same (fun x hx => h.2 x (.inl hx))
    have e2 : ∀ d, bound ρ hi d = bound ρ' hi d := fun d => bound_same (fun x hx => h.2 x (.inr hx))
    simp only [h.1, e1, e2]
  case slcs x lo hi =>
    have e1 : ∀ d, bound ρ lo d = bound ρ' lo d := fun d => bound_same (fun x hx => h.2 x (.inl hx))
    have e2 : ∀ d, bound ρ hi d = bound ρ' hi d := fun d => bound_same (fun x hx => h.2 x (.inr hx))
    simp only [h.1, e1, e2]
  case slca x lo hi =>
    have e1 : ∀ d, bound ρ lo d = bound ρ' lo d := fun d => bound_same (fun x hx => h.2 x (.inl hx))
    have e2 : ∀ d, bound ρ hi d = bound ρ' hi d := fun d => bound_same (fun x hx => h.2 x (.inr hx))
    simp only [h.1, e1, e2]
  all_goals first | rfl | rw [h] | rw [h.1, h.2] | rw [h.1, h.2.1, h.2.2]

theorem row_same {α : Type} {rd rd' : Nat → Option AB} {b : Nat} (h : lv (rd b) = lv (rd' b)) {f : List AV → Option α} {g : List (AV × AV) → Option α} :
    (match rd b with | some (.row cs) => f cs | some (.map es) => g es | _ => none) = (match rd' b with | some (.row cs) => f cs | some (.map es) => g es | _ => none) := by
  rcases lv_cases h with e | ⟨e | e, f | f⟩ <;> first | (rw [e]; done) | rw [e, f]

theorem srcOfS_same {rd rd' : Nat → Option AB} {v : AV} (h : ∀ b ∈ topB v, lv (rd b) = lv (rd' b)) : srcOfS rd v = srcOfS rd' v := by
  cases v <;> first | rfl | exact srcOf_same h

theorem aop_wl {ρ : Opd → Option AV} {rd rd' : Nat → Option AB} {n : Nat} {op : AOp} (h : op.wl = true) : aop ρ rd n op = aop ρ rd' n op := by
  cases op <;> first | rfl | simp [AOp.wl] at h

theorem aop_rd {ρ : Opd → Option AV} {rd rd' : Nat → Option AB} {n : Nat} {op : AOp} (h : ∀ o ∈ op.opds, ∀ v, ρ o = some v → ∀ b ∈ topB v, lv (rd b) = lv (rd' b)) : aop ρ rd n op = aop ρ rd' n op := by
  cases op <;> simp only [AOp.opds, List.mem_cons, List.mem_append, List.not_mem_nil, or_false, forall_eq_or_imp, forall_eq] at h <;> try rfl
  case load agg k a =>
    simp only [aop]
    cases hx : ρ a with
    | none => rfl
    | some v =>
      cases v <;> try rfl
      rename_i b off
      rcases lv_cases (h _ hx b (by simp [topB])) with e | ⟨e | e, f | f⟩ <;> first | (simp only [e]; done) | simp only [e, f]
  case store k a x =>
    simp only [aop]
    cases hx : ρ a with
    | none => rfl
    | some v =>
      cases v <;> try rfl
      rename_i b off
      cases hy : ρ x <;> try rfl
      all_goals rcases lv_cases (h.1 _ hx b (by simp [topB])) with e | ⟨e | e, f | f⟩ <;> first | (simp only [e]; done) | simp only [e, f]
  case b2s x =>
    simp only [aop]
    cases hx : ρ x with
    | none => rfl
    | some v => simp only [Option.bind_some]; rw [srcOfS_same (h v hx)]
  case lkp g ks z m k ok =>
    simp only [aop]
    cases hx : ρ m with
    | none => rfl
    | some v =>
      cases v <;> try rfl
      rename_i b
      cases hy : ρ k <;> try rfl
      all_goals rcases lv_cases (h.1 _ hx b (by simp [topB])) with e | ⟨e | e, f | f⟩ <;> first | (simp only [e]; done) | simp only [e, f]
  case mset g ks m k v =>
    simp only [aop]
    cases hx : ρ m with
    | none => rfl
    | some v =>
      cases v <;> try rfl
      rename_i b
      cases hy : ρ k <;> try rfl
      cases hz : ρ v <;> try rfl
      rcases lv_cases (h.1 _ hx b (by simp [topB])) with e | ⟨e | e, f | f⟩ <;> first | (simp only [e]; done) | simp only [e, f]
  case app w bytes s x =>
    simp only [aop]
    cases hs : ρ s with
    | none => rfl
    | some sv =>
      cases hx : ρ x with
      | none => rfl
      | some xv =>
        simp only [Option.bind_some]
        rw [srcOf_same (h.2 xv hx)]
        have hs' := h.1 sv hs
        cases sv <;> try rfl
        · rename_i b off len cap
          rcases lv_cases (hs' b (by simp [topB])) with e | ⟨e | e, f | f⟩ <;> first | (simp only [e]; done) | simp only [e, f]
        · rename_i b len d
          rcases lv_cases (hs' b (by simp [topB])) with e | ⟨e | e, f | f⟩ <;> first | (simp only [e]; done) | simp only [e, f]
  case copy w d s =>
    simp only [aop]
    cases hs : ρ d with
    | none => rfl
    | some sv =>
      cases hx : ρ s with
      | none => rfl
      | some xv =>
        simp only [Option.bind_some]
        rw [srcOf_same (h.2 xv hx)]
        have hs' := h.1 sv hs
        cases sv <;> try rfl
        · rename_i b off len cap
          rcases lv_cases (hs' b (by simp [topB])) with e | ⟨e | e, f | f⟩ <;> first | (simp only [e]; done) | simp only [e, f]
        · rename_i b len d
          rcases lv_cases (hs' b (by simp [topB])) with e | ⟨e | e, f | f⟩ <;> first | (simp only [e]; done) | simp only [e, f]

/-- An operation that neither writes nor makes a block does not. -/
theorem aop_noeff {ρ : Opd → Option AV} {rd : Nat → Option AB} {n : Nat} {op : AOp} {v : AV} {e : AEff} (ht : op.eff = false) (hv : aop ρ rd n op = some (.val v e)) : e = .no := by
  cases op <;> simp [AOp.eff] at ht <;> simp only [aop] at hv
  all_goals
    repeat' first
      | (rw [Option.bind_eq_some_iff] at hv; obtain ⟨_, _, hv⟩ := hv)
      | (rw [Option.map_eq_some_iff] at hv; obtain ⟨_, _, hv⟩ := hv)
      | (injection hv with hv; injection hv with _ hv; exact hv.symm)
      | (injection hv with _ hv; exact hv.symm)
      | (injection hv with hv; injection hv; done)
      | (split at hv)
      | (injection hv with hv; done)
      | (cases hv; done)

/-- What an operation turns was there, and it looked at it. -/
theorem aop_tch {ρ : Opd → Option AV} {rd : Nat → Option AB} {n : Nat} {op : AOp} {v : AV} {e : AEff} (hv : aop ρ rd n op = some (.val v e)) :
    ∀ b B, (e = .upd b B ∨ e = .mv b B) → ∃ C, rd b = some C ∧ C.isDead = false := by
  have go : ∀ {b' : Nat} {B' : AB} {e : AEff} {b : Nat} {B : AB}, (e = .upd b B ∨ e = .mv b B) → (e = .upd b' B' ∨ e = .mv b' B') → b = b' := by
    rintro b' B' e b B (rfl | rfl) (h | h) <;> cases h <;> rfl
  intro b B he
  by_cases hf : op.eff = false
  · have := aop_noeff hf hv
    subst this
    rcases he with h | h <;> cases h
  cases op <;> simp [AOp.eff] at hf <;> simp only [aop] at hv
  all_goals
    repeat' first
      | (rw [Option.bind_eq_some_iff] at hv; obtain ⟨_, _, hv⟩ := hv)
      | (rw [Option.map_eq_some_iff] at hv; obtain ⟨_, _, hv⟩ := hv)
      | (injection hv with hv; injection hv with _ hv; subst hv; rcases he with h | h <;> cases h; done)
      | (injection hv with hv; injection hv with _ hv; subst hv; rcases he with h | h <;> cases h <;> exact ⟨_, by assumption, rfl⟩)
      | (injection hv with _ hv; subst hv; rcases he with h | h <;> cases h; done)
      | (injection hv with _ hv; subst hv; rcases he with h | h <;> cases h <;> exact ⟨_, by assumption, rfl⟩)
      | (split at hv)
      | (injection hv with hv; done)
      | (cases hv; done)

/-- Blocks that an effect does not touch. -/
theorem at_lv {e : AEff} {H : List AB} {b : Nat} (h : b ∉ e.tch H.length) : lv (e.at H)[b]? = lv H[b]? := by
  cases e with
  | no => rfl
  | upd c B => simp only [AEff.tch, List.mem_singleton] at h; simp only [AEff.at, List.getElem?_set, if_neg (Ne.symm h)]
  | new B =>
    simp only [AEff.tch, List.mem_singleton] at h
    simp only [AEff.at]
    by_cases hb : b < H.length
    · rw [List.getElem?_append_left hb]
    · rw [List.getElem?_eq_none (by simp; omega), List.getElem?_eq_none (by omega)]
  | mv c B =>
    simp only [AEff.tch, List.mem_cons, List.not_mem_nil, or_false, not_or] at h
    simp only [AEff.at]
    by_cases hb : b < H.length
    · rw [List.getElem?_append_left (by simpa using hb), List.getElem?_set, if_neg (Ne.symm h.1)]
    · rw [List.getElem?_eq_none (by simp; omega), List.getElem?_eq_none (by omega)]

/-- An effect on blocks alike, its new block under the number that the text gives it. -/
theorem atn_lv {e : AEff} {H H' : List AB} {b : Nat} (hu : ∀ c B, (e = .upd c B ∨ e = .mv c B) → (∃ C, H[c]? = some C ∧ C.isDead = false) ∧ lv H'[c]? = lv H[c]?) : 
    (b ∈ e.tch H.length → lv (e.atn H.length H')[b]? = lv (e.at H)[b]?) ∧ (b ∉ e.tch H.length → lv (e.atn H.length H')[b]? = lv H'[b]?) := by
  have put : ∀ (K : List AB) (B : AB) (b : Nat), b ≠ H.length → lv (putB K H.length B)[b]? = lv K[b]? := fun K B b hb => by
    unfold putB
    split
    · rw [List.getElem?_set, if_neg (fun e => hb e.symm)]
    · rename_i hlt
      by_cases h1 : b < K.length
      · rw [List.append_assoc, List.getElem?_append_left h1]
      · rw [List.append_assoc, List.getElem?_append_right (by omega), List.getElem?_eq_none (l := K) (by omega)]
        by_cases h2 : b < H.length
        · rw [List.getElem?_append_left (by simp; omega), List.getElem?_replicate, if_pos (by omega)]; rfl
        · rw [List.getElem?_append_right (by simp; omega), List.getElem?_eq_none (by simp; omega)]
  cases e with
  | no => exact ⟨fun h => by simp [AEff.tch] at h, fun _ => rfl⟩
  | upd c B =>
    obtain ⟨⟨C, h1, h2⟩, h3⟩ := hu c B (.inl rfl)
    rw [lv_some h1 h2] at h3
    have l1 := (List.getElem?_eq_some_iff.1 h1).1
    have l2 := (List.getElem?_eq_some_iff.1 (of_lv h3).1).1
    refine ⟨fun h => ?_, fun h => ?_⟩
    · simp only [AEff.tch, List.mem_singleton] at h
      subst h
      simp only [AEff.atn, AEff.at]
      rw [List.getElem?_set_self l1, List.getElem?_set_self l2]
    · simp only [AEff.tch, List.mem_singleton] at h
      simp only [AEff.atn, List.getElem?_set, if_neg (Ne.symm h)]
  | new B =>
    refine ⟨fun h => ?_, fun h => ?_⟩
    · simp only [AEff.tch, List.mem_singleton] at h
      subst h
      simp only [AEff.atn, AEff.at]
      rw [putB_self, List.getElem?_append_right (by omega)]; simp
    · simp only [AEff.tch, List.mem_singleton] at h
      exact put _ _ _ h
  | mv c B =>
    obtain ⟨⟨C, h1, h2⟩, h3⟩ := hu c B (.inr rfl)
    rw [lv_some h1 h2] at h3
    have l1 := (List.getElem?_eq_some_iff.1 h1).1
    have l2 := (List.getElem?_eq_some_iff.1 (of_lv h3).1).1
    refine ⟨fun h => ?_, fun h => ?_⟩
    · simp only [AEff.tch, List.mem_cons, List.not_mem_nil, or_false] at h
      simp only [AEff.atn, AEff.at]
      by_cases hb : b = H.length
      · subst hb
        rw [putB_self, List.getElem?_append_right (by simp)]; simp
      · have hc : b = c := h.resolve_right hb
        subst hc
        rw [put _ _ _ hb, List.getElem?_append_left (by simpa using l1), List.getElem?_set_self l1, List.getElem?_set_self l2]
    · simp only [AEff.tch, List.mem_cons, List.not_mem_nil, or_false, not_or] at h
      simp only [AEff.atn]
      rw [put _ _ _ h.2, List.getElem?_set, if_neg (Ne.symm h.1)]

end
end Go.Abs
end

section
/- One operation of a region that draws its order, done where others have been done or not. Conditions: none. -/
namespace Go.Abs

section
variable {P : Program} {T : Tab} {S : Sems} {w w' : World} {D D' : Nat → Prop} {ι ι' : Nat → Option Nat} {H H' : List AB} {st st' st1 : ASt} {a a' : Act} {r : Option Nat}

variable (T S) in
/-- One operation, let by or not, that does not panic. -/
def step1 (o : AO) (st : ASt) : Option ASt :=
  match guardO o st with
  | some true => match stepO T S o st with
    | some (.next st1) => some st1
    | _ => none
  | some false => skipO o st
  | none => none

variable (T) in
def tch1 (o : AO) (st st1 : ASt) : Tch :=
  match guardO o st with
  | some true => tchO T o st st1
  | _ => ⟨some [], [], false⟩

def putE (d : Option Nat) (v : AV) (E : Env) : Env := match d with
  | none => E
  | some d => (d, v) :: E

theorem put_eq {d : Option Nat} {v : AV} (h : st.put d v = some st1) : st1 = { st with env := putE d v st.env } ∧ ∀ d', d = some d' → d' < st.nt := by
  unfold ASt.put at h
  cases d with
  | none => cases h; exact ⟨rfl, fun d' h => by cases h⟩
  | some d =>
    simp only at h
    split at h
    · rename_i hlt; cases h; exact ⟨rfl, fun d' h => by cases h; exact hlt⟩
    · cases h

theorem put_of {d : Option Nat} {v : AV} (h : ∀ d', d = some d' → d' < st.nt) : st.put d v = some { st with env := putE d v st.env } := by
  unfold ASt.put
  cases d with
  | none => rfl
  | some d => simp only [if_pos (h d rfl), putE]

/-- A call whose arguments name no block is the same whatever the blocks. -/
theorem enter_pure {f : Nat} {xs : List AV} {v : AV} {H1 : List AB} (hp : AV.pures xs = true) (h : enter T S 0 f xs H = some (.ret v, H1)) : H1 = H ∧ ∀ K, enter T S 0 f xs K = some (.ret v, K) := by
  unfold enter at h ⊢
  cases hq : T.prim f xs with
  | some u => rw [hq] at h; simp only [Option.some.injEq, Prod.mk.injEq, AEnd.ret.injEq] at h; obtain ⟨rfl, rfl⟩ := h; exact ⟨rfl, fun K => rfl⟩
  | none =>
    rw [hq] at h
    have hf : ∀ K : List AB, optAll (frz K true depthF) xs = some xs := fun K => by
      have : ∀ l : List AV, AV.pures l = true → optAll (frz K true depthF) l = some l := by
        intro l
        induction l with
        | nil => intro _; rfl
        | cons u l ih =>
          intro hl
          simp only [AV.pures, Bool.and_eq_true] at hl
          have hu : frz K true depthF u = some u := by simp [frz, depthF, hl.1]
          simp [optAll, hu, ih hl.2]
      exact this xs hp
    simp only [hf, Option.bind_some, if_neg (show ¬ (0 = 2) by omega), if_neg (show ¬ (0 = 1) by omega), hp, Bool.true_or, if_true] at h ⊢
    cases hc : S.call f xs [] with
    | none => rw [hc] at h; cases h
    | some q =>
      rw [hc] at h
      obtain ⟨q, H2⟩ := q
      cases q with
      | ret u =>
        simp only [Option.bind_some, Option.map_eq_some_iff] at h ⊢
        obtain ⟨z, hz, he⟩ := h
        simp only [Prod.mk.injEq, AEnd.ret.injEq] at he
        obtain ⟨rfl, rfl⟩ := he
        exact ⟨rfl, fun K => ⟨_, hz, rfl⟩⟩
      | pan u =>
        simp only [Option.bind_some, Option.bind_eq_some_iff] at h
        obtain ⟨z, hz, he⟩ := h
        split at he
        · simp only [Option.some.injEq, Prod.mk.injEq] at he; cases he.1
        · cases he

/-- What a call leaves: more blocks; none but shut ones are otherwise. -/
theorem fin_shape {o : Option Nat} {q : AEnd × List AB} (h : finO o st q = some (.next st1)) : ∃ v, q = (.ret v, st1.H) ∧ st1 = { st with H := st1.H, env := putE o v st.env } ∧ ∀ d', o = some d' → d' < st.nt := by
  obtain ⟨q, H⟩ := q
  cases q with
  | pan v => simp [finO] at h
  | ret v =>
    simp only [finO, Option.map_eq_some_iff, AStep.next.injEq] at h
    obtain ⟨s, hs, rfl⟩ := h
    obtain ⟨h1, h2⟩ := put_eq hs
    subst h1
    exact ⟨v, rfl, rfl, h2⟩

theorem killAll_or (ks : List Nat) : ∀ {H : List AB} {b : Nat}, (killAll H ks)[b]? = H[b]? ∨ (killAll H ks)[b]? = some .dead := by
  unfold killAll
  induction ks with
  | nil => intro H b; exact .inl rfl
  | cons k ks ih =>
    intro H b
    rw [List.foldl_cons]
    rcases ih (H := H.set k .dead) (b := b) with h | h
    · rw [h, List.getElem?_set]
      split
      · split
        · exact .inr rfl
        · rename_i h1 h2; subst h1; exact .inl (by rw [List.getElem?_eq_none]; omega)
      · exact .inl rfl
    · exact .inr h

theorem shut_get (H : List AB) (xs : List AV) (b : Nat) : (shut H xs)[b]? = H[b]? ∨ (shut H xs)[b]? = some .dead := killAll_or _

theorem shut_len (H : List AB) (xs : List AV) : (shut H xs).length = H.length := by
  have : ∀ (ks : List Nat) (H : List AB), (ks.foldl (fun H b => H.set b .dead) H).length = H.length := by
    intro ks
    induction ks with
    | nil => intro H; rfl
    | cons k ks ih => intro H; rw [List.foldl_cons, ih]; simp
  exact this _ H

theorem enter_shape {m f : Nat} {xs : List AV} {v : AV} {H1 : List AB} (hm : m < 2) (h : enter T S m f xs H = some (.ret v, H1)) : H.length ≤ H1.length ∧ ∀ b, b < H.length → H1[b]? = H[b]? ∨ H1[b]? = some .dead := by
  unfold enter at h
  split at h
  · simp only [Option.some.injEq, Prod.mk.injEq] at h
    rw [← h.2]
    exact ⟨Nat.le_refl _, fun b _ => .inl rfl⟩
  · rw [if_neg (by omega)] at h
    simp only [Option.bind_eq_some_iff] at h
    obtain ⟨ys, _, q, _, h⟩ := h
    have sh : ∀ (c : Bool) (b : Nat), (if c then H else shut H xs)[b]? = H[b]? ∨ (if c then H else shut H xs)[b]? = some .dead := fun c b => by
      cases c
      · exact shut_get H xs b
      · exact .inl rfl
    have sl : ∀ (c : Bool), (if c then H else shut H xs).length = H.length := fun c => by
      cases c
      · exact shut_len H xs
      · rfl
    split at h
    · split at h
      · simp only [Option.bind_eq_some_iff, Option.map_eq_some_iff, Prod.mk.injEq, AEnd.ret.injEq] at h
        obtain ⟨z, _, Hn, _, _, rfl⟩ := h
        refine ⟨by rw [List.length_append, sl]; omega, fun b hb => ?_⟩
        rw [List.getElem?_append_left (by rw [sl]; exact hb)]
        exact sh _ b
      · simp only [Option.map_eq_some_iff, Prod.mk.injEq, AEnd.ret.injEq] at h
        obtain ⟨z, _, _, rfl⟩ := h
        exact ⟨by rw [sl]; exact Nat.le_refl _, fun b _ => sh _ b⟩
    · simp only [Option.bind_eq_some_iff] at h
      obtain ⟨z, _, h⟩ := h
      split at h
      · simp only [Option.some.injEq, Prod.mk.injEq] at h; cases h.1
      · cases h

end
end Go.Abs
end

section
/- The blocks of the walk grow more, and never fewer than there were when the function began. Conditions: none. -/
namespace Go.Abs

structure SLen (S : Sems) : Prop where
  call : ∀ f xs H q H', S.call f xs H = some (q, H') → H.length ≤ H'.length
  code : ∀ c st e st', S.code c st = some (e, st') → st.base ≤ st.H.length → st'.base = st.base ∧ st.base ≤ st'.H.length

section
variable {T : Tab} {S : Sems} {H H' : List AB} {st st' st1 : ASt}

theorem optAll_len {α β : Type} {f : α → Option β} : ∀ {l : List α} {r : List β}, optAll f l = some r → r.length = l.length
  | [], r, h => by cases h; rfl
  | x :: l, r, h => by
    simp only [optAll, Option.bind_eq_some_iff, Option.map_eq_some_iff] at h
    obtain ⟨y, _, s, hs, rfl⟩ := h
    simp [optAll_len hs]

theorem enter_len (hl : SLen S) {m f : Nat} {xs : List AV} {q : AEnd} (h : enter T S m f xs H = some (q, H')) : H.length ≤ H'.length := by
  by_cases hm : m < 2
  · cases q with
    | ret v => exact (enter_shape hm h).1
    | pan v =>
      unfold enter at h
      split at h
      · cases h
      · rw [if_neg (by omega)] at h
        simp only [Option.bind_eq_some_iff] at h
        obtain ⟨ys, _, q, _, h⟩ := h
        split at h
        · split at h
          · simp only [Option.bind_eq_some_iff, Option.map_eq_some_iff, Prod.mk.injEq] at h
            obtain ⟨z, _, Hn, _, h, _⟩ := h
            cases h
          · simp only [Option.map_eq_some_iff, Prod.mk.injEq] at h
            obtain ⟨z, _, h, _⟩ := h
            cases h
        · simp only [Option.bind_eq_some_iff] at h
          obtain ⟨z, _, h⟩ := h
          split at h
          · simp only [Option.some.injEq, Prod.mk.injEq] at h; rw [← h.2]; exact Nat.le_refl _
          · cases h
  · unfold enter at h
    split at h
    · simp only [Option.some.injEq, Prod.mk.injEq] at h; rw [← h.2]; exact Nat.le_refl _
    · split at h
      · exact hl.call _ _ _ _ _ h
      · simp only [if_neg (show ¬ m = 1 by omega)] at h
        simp only [Option.bind_eq_some_iff] at h
        obtain ⟨ys, _, q, _, h⟩ := h
        have sl : ∀ (c : Bool), (if c then H else shut H xs).length = H.length := fun c => by
          cases c
          · exact shut_len H xs
          · rfl
        split at h
        · simp only [Option.map_eq_some_iff, Prod.mk.injEq] at h
          obtain ⟨z, _, _, rfl⟩ := h
          rw [sl]; exact Nat.le_refl _
        · simp only [Option.bind_eq_some_iff] at h
          obtain ⟨z, _, h⟩ := h
          split at h
          · simp only [Option.some.injEq, Prod.mk.injEq] at h; rw [← h.2]; exact Nat.le_refl _
          · cases h

theorem round_len (hl : SLen S) {b : Nat} {xs : List AV} {q : AEnd} (h : round S b xs H = some (q, H')) : H.length ≤ H'.length := by
  unfold round at h
  split at h
  · split at h
    · split at h
      · rename_i st hst
        have h1 := hl.code _ _ _ _ hst (Nat.le_refl _)
        simp only at h1
        split at h
        · split at h
          · split at h
            · rename_i e st2 hst2
              have h2 := hl.code _ _ _ _ hst2 (by simp only [List.length_set]; rw [h1.1]; exact h1.2)
              simp only at h2
              have h3 : H.length ≤ st2.H.length := by rw [← h1.1]; exact h2.2
              split at h
              · split at h
                · cases h; simpa using h3
                · cases h; simpa using h3
                · cases h; simpa using h3
                · cases h
              · cases h
            · cases h
          · cases h
        · cases h
      · cases h
    · cases h
  · cases h

theorem invoke_len (hl : SLen S) {m : Nat} {f : AV} {xs : List AV} {q : AEnd} (h : invoke T S m f xs H = some (q, H')) : H.length ≤ H'.length := by
  unfold invoke at h
  split at h
  · exact enter_len hl h
  · exact round_len hl h
  · cases h

theorem at_len (e : AEff) (H : List AB) : H.length ≤ (e.at H).length := by cases e <;> simp [AEff.at]

def stOf : AStep → ASt
  | .next st => st
  | .out _ st => st

theorem finO_len {d : Option Nat} {q : AEnd × List AB} {s : AStep} (hq : st.H.length ≤ q.2.length) (h : finO d st q = some s) : (stOf s).base = st.base ∧ st.H.length ≤ (stOf s).H.length := by
  obtain ⟨q, H⟩ := q
  cases q with
  | ret v =>
    simp only [finO, Option.map_eq_some_iff] at h
    obtain ⟨s, hs, rfl⟩ := h
    rw [(put_eq hs).1]
    exact ⟨rfl, hq⟩
  | pan v =>
    simp only [finO, Option.some.injEq] at h
    subst h
    exact ⟨rfl, hq⟩

theorem stepO_len (hl : SLen S) {o : AO} {s : AStep} (h : stepO T S o st = some s) : (stOf s).base = st.base ∧ st.H.length ≤ (stOf s).H.length := by
  have ent : ∀ {m k : Nat} {xs : List AV} {d : Option Nat} {s : AStep}, (enter T S m k xs st.H).bind (finO d st) = some s → (stOf s).base = st.base ∧ st.H.length ≤ (stOf s).H.length := fun {m k xs d s} h => by
    rw [Option.bind_eq_some_iff] at h
    obtain ⟨q, hq, h⟩ := h
    exact finO_len (enter_len hl (q := q.1) (H' := q.2) hq) h
  unfold stepO at h
  simp only at h
  split at h
  · simp only [Option.bind_eq_some_iff] at h
    obtain ⟨f, _, xs, _, q, hq, h⟩ := h
    exact finO_len (invoke_len hl (q := q.1) (H' := q.2) hq) h
  · simp only [Option.bind_eq_some_iff] at h
    obtain ⟨f, _, xs, _, h⟩ := h
    split at h
    · simp only [Option.bind_eq_some_iff] at h
      obtain ⟨q, _, h⟩ := h
      obtain ⟨k, d⟩ := q
      cases d with
      | none => exact ent h
      | some gn =>
        simp only at h
        split at h
        · split at h
          · rw [Option.bind_eq_some_iff] at h
            obtain ⟨v, _, h⟩ := h
            exact ent h
          · cases h
        · rw [Option.bind_eq_some_iff] at h
          obtain ⟨v, _, h⟩ := h
          exact ent h
        · cases h
    · cases h
  · cases h
  · simp only [Option.bind_eq_some_iff] at h
    obtain ⟨f, _, xs, _, h⟩ := h
    split at h
    · cases h; exact ⟨rfl, Nat.le_refl _⟩
    · cases h
  · split at h
    · simp only [Option.map_eq_some_iff] at h
      obtain ⟨s, hs, rfl⟩ := h
      rw [(put_eq hs).1]
      exact ⟨rfl, at_len _ _⟩
    · cases h; exact ⟨rfl, Nat.le_refl _⟩
    · cases h

theorem runOps_len (hl : SLen S) : ∀ {l : List AO} {st : ASt} {s : AStep}, runOps T S l st = some s → (stOf s).base = st.base ∧ st.H.length ≤ (stOf s).H.length
  | [], st, s, h => by cases h; exact ⟨rfl, Nat.le_refl _⟩
  | o :: l, st, s, h => by
    simp only [runOps] at h
    split at h
    · cases hs : stepO T S o st with
      | none => rw [hs] at h; cases h
      | some x =>
        rw [hs] at h
        have h1 := stepO_len hl hs
        cases x with
        | next st1 =>
          have h2 := runOps_len hl h
          exact ⟨h2.1.trans h1.1, Nat.le_trans h1.2 h2.2⟩
        | out e st1 => cases h; exact h1
    · simp only [Option.bind_eq_some_iff] at h
      obtain ⟨st1, hk, h⟩ := h
      have h2 := runOps_len hl h
      unfold skipO at hk
      rw [(put_eq hk).1] at h2
      exact h2
    · cases h

theorem foldl_len (ks : List Nat) : ∀ (H : List AB), (ks.foldl (fun H b => H.set b .dead) H).length = H.length := by
  induction ks with
  | nil => intro H; rfl
  | cons k ks ih => intro H; rw [List.foldl_cons, ih]; simp

theorem hint_len {h : Hint} (hb : st.base ≤ st.H.length) (hh : doHint h st = some st1) : st1.base = st.base ∧ st.base ≤ st1.H.length := by
  unfold doHint at hh
  split at hh
  · cases hh; exact ⟨rfl, hb⟩
  · unfold norm at hh
    split at hh
    · cases hh; exact ⟨rfl, hb⟩
    · simp only [Option.bind_eq_some_iff, Option.map_eq_some_iff] at hh
      obtain ⟨vs, _, H, hH, ds, _, rfl⟩ := hh
      refine ⟨rfl, ?_⟩
      have := optAll_len hH
      simp only [List.length_append, List.length_take] at this
      show st.base ≤ H.length
      omega
  · split at hh
    · split at hh
      · cases hh; exact ⟨rfl, hb⟩
      · simp only [Option.map_eq_some_iff] at hh
        obtain ⟨w, _, rfl⟩ := hh
        exact ⟨rfl, by simp only [foldl_len]; exact hb⟩
    · cases hh; exact ⟨rfl, hb⟩
  · split at hh
    · split at hh
      · split at hh
        · split at hh
          · cases hh; exact ⟨rfl, hb⟩
          · simp only [Option.map_eq_some_iff] at hh
            obtain ⟨w, _, rfl⟩ := hh
            exact ⟨rfl, by simp only [foldl_len, List.length_set]; exact hb⟩
        · cases hh
      · cases hh
    · cases hh

theorem code_len (hl : SLen S) : ∀ {c : AC} {st : ASt} {e : AExit} {st' : ASt}, code T S c st = some (e, st') → st.base ≤ st.H.length → st'.base = st.base ∧ st.base ≤ st'.H.length := by
  intro c
  induction c with
  | skip => intro st e st' h hb; cases h; exact ⟨rfl, hb⟩
  | exit id => intro st e st' h hb; cases h; exact ⟨rfl, hb⟩
  | ret => intro st e st' h hb; cases h; exact ⟨rfl, hb⟩
  | ops l d =>
    intro st e st' h hb
    simp only [code] at h
    split at h
    · rename_i st1 hr
      have h1 := runOps_len hl hr
      simp only [stOf] at h1
      split at h
      · cases h; exact ⟨h1.1, by omega⟩
      · split at h
        · cases h; exact ⟨h1.1, by omega⟩
        · cases h
    · rename_i e1 st1 hr
      have h1 := runOps_len hl hr
      simp only [stOf] at h1
      split at h
      · cases h; exact ⟨h1.1, by omega⟩
      · cases h
    · cases h
  | seq x y ihx ihy =>
    intro st e st' h hb
    simp only [code] at h
    split at h
    · rename_i st1 hx
      have h1 := ihx hx hb
      have h2 := ihy h (by rw [h1.1]; exact h1.2)
      exact ⟨h2.1.trans h1.1, by rw [← h1.1]; exact h2.2⟩
    · exact ihx h hb
  | cond c x y ihx ihy =>
    intro st e st' h hb
    simp only [code] at h
    split at h
    · split at h
      · exact ihx h hb
      · exact ihy h hb
    · cases h
  | block id x ih =>
    intro st e st' h hb
    simp only [code] at h
    split at h
    · rename_i id' st1 hx
      have h1 := ih hx hb
      split at h
      · cases h; exact h1
      · cases h; exact h1
    · exact ih h hb
  | loop x ih =>
    intro st e st' h hb
    simp only [code] at h
    split at h
    · rename_i st1 hx
      have h1 := ih hx hb
      have h2 := hl.code _ _ _ _ h (by rw [h1.1]; exact h1.2)
      exact ⟨h2.1.trans h1.1, by rw [← h1.1]; exact h2.2⟩
    · exact ih h hb
  | hint hh c ih =>
    intro st e st' h hb
    simp only [code] at h
    split at h
    · rename_i st1 hk
      have h1 := hint_len hb hk
      have h2 := ih h (by rw [h1.1]; exact h1.2)
      exact ⟨h2.1.trans h1.1, by rw [← h1.1]; exact h2.2⟩
    · cases h
  | rng f ps x y _ _ =>
    intro st e st' h hb
    have hr : st.H.length ≤ (rngH st).length := by unfold rngH; split <;> simp
    simp only [code, Option.bind_eq_some_iff] at h
    obtain ⟨f, _, h⟩ := h
    split at h
    · split at h
      · split at h
        · rename_i v H3 hc
          have h3 := hl.call _ _ _ _ _ hc
          simp only [List.length_append, List.length_cons, List.length_nil] at h3
          split at h
          · split at h
            · cases h
            · split at h
              · cases h; exact ⟨rfl, by simp only [List.length_set]; omega⟩
              · cases h; exact ⟨rfl, by simp only [List.length_set]; omega⟩
              · cases h; exact ⟨rfl, by simp only [List.length_set]; omega⟩
          · cases h
        · rename_i v H3 hc
          have h3 := hl.call _ _ _ _ _ hc
          simp only [List.length_append, List.length_cons, List.length_nil] at h3
          cases h; exact ⟨rfl, by show st.base ≤ H3.length; omega⟩
        · cases h
      · cases h
    · cases h

theorem leave_len (hl : SLen S) {F : AFun} : ∀ {ds : List ADf} {ch : Option AV} {st : ASt} {q : AEnd} {H' : List AB}, leave T S F ds ch st = some (q, H') → st.H.length ≤ H'.length
  | [], none, st, q, H', h => by
    simp only [leave, Option.map_eq_some_iff, Prod.mk.injEq] at h
    obtain ⟨v, _, _, rfl⟩ := h; exact Nat.le_refl _
  | [], some v, st, q, H', h => by
    simp only [leave, Option.some.injEq, Prod.mk.injEq] at h
    rw [← h.2]; exact Nat.le_refl _
  | .mark b :: ds, ch, st, q, H', h => by
    simp only [leave] at h
    split at h
    · have := leave_len hl h
      simpa using this
    · cases h
  | .call k xs :: ds, ch, st, q, H', h => by
    simp only [leave, Option.bind_eq_some_iff] at h
    obtain ⟨H1, h1, h⟩ := h
    have h2 := leave_len hl h
    refine Nat.le_trans ?_ h2
    unfold dcall at h1
    split at h1
    · split at h1
      · split at h1
        · rename_i s hc
          have := code_len hl hc (Nat.le_refl _)
          split at h1
          · cases h1; exact this.2
          · cases h1
        · rename_i s hc
          have := code_len hl hc (Nat.le_refl _)
          split at h1
          · cases h1; exact this.2
          · cases h1
        · cases h1
      · cases h1
    · cases h1

theorem call_len (hl : SLen S) {f : Nat} {xs : List AV} {q : AEnd} (h : call T S f xs H = some (q, H')) : H.length ≤ H'.length := by
  unfold call at h
  split at h
  · cases h
  · split at h
    · split at h
      · rename_i s hc
        exact Nat.le_trans (code_len hl hc (Nat.le_refl _)).2 (leave_len hl h)
      · rename_i s hc
        exact Nat.le_trans (code_len hl hc (Nat.le_refl _)).2 (leave_len hl h)
      · rename_i s hc
        exact Nat.le_trans (code_len hl hc (Nat.le_refl _)).2 (leave_len hl h)
      · cases h
    · cases h

theorem sems_len (T : Tab) : ∀ n, SLen (sems T n)
  | 0 => ⟨fun _ _ _ _ _ h => (by cases h), fun _ _ _ _ h => (by cases h)⟩
  | n + 1 => ⟨fun _ _ _ _ _ h => call_len (sems_len T n) h, fun _ _ _ _ h hb => code_len (sems_len T n) h hb⟩

end
end Go.Abs
end

section
/- What one operation of a region does, told by what it looks at and touches. Conditions: none. -/
namespace Go.Abs

section
variable {P : Program} {T : Tab} {S : Sems} {w w' : World} {D D' : Nat → Prop} {ι ι' : Nat → Option Nat} {H H' : List AB} {st st' st1 : ASt} {a a' : Act} {r : Option Nat}

theorem dead_lv {x : Option AB} : dead? x = true ↔ lv x = none := by
  cases x with
  | none => simp [dead?, lv]
  | some B => cases B <;> simp [dead?, lv]

/-- What one operation touches. -/
structure Shape (T : Tab) (o : AO) (st st1 : ASt) : Prop where
  out : ∃ v, st1 = { st with H := st1.H, env := putE o.dst v st.env }
  nt : ∀ d', o.dst = some d' → d' < st.nt
  len : st.H.length ≤ st1.H.length
  tau : ∀ τ, (tch1 T o st st1).tau = some τ → (∀ b, b ∉ τ → lv st1.H[b]? = lv st.H[b]?) ∧ ∀ b, st.H.length ≤ b → b < st1.H.length → b ∈ τ
  noeff : o.op.eff = false → (tch1 T o st st1).tau = some [] ∧ (tch1 T o st st1).rigid = false
  any : (tch1 T o st st1).tau = none → (tch1 T o st st1).rigid = true

theorem shutBy_shape (hlen : st.H.length ≤ st1.H.length) (h : ∀ b, b < st.H.length → st1.H[b]? = st.H[b]? ∨ st1.H[b]? = some .dead) : (∀ b, b ∉ shutBy st st1 → lv st1.H[b]? = lv st.H[b]?) ∧ ∀ b, st.H.length ≤ b → b < st1.H.length → b ∈ shutBy st st1 := by
  refine ⟨fun b hb => ?_, fun b h1 h2 => ?_⟩
  · simp only [shutBy, List.mem_filter, List.mem_range, Bool.or_eq_true, decide_eq_true_eq, Bool.and_eq_true, Bool.not_eq_true', not_and, not_or] at hb
    by_cases hlt : b < st.H.length
    · obtain ⟨h1, h2⟩ := hb (by omega)
      rcases h b hlt with e | e
      · rw [e]
      · rw [e]
        have : dead? st1.H[b]? = true := by rw [e]; rfl
        have h3 : dead? st.H[b]? = true := by
          cases hd : dead? st.H[b]? with
          | true => rfl
          | false => exact absurd this (h2 hd)
        rw [dead_lv.1 h3]; rfl
    · have : ¬ b < st1.H.length := fun hh => (hb hh).1 (by omega)
      rw [List.getElem?_eq_none (by omega), List.getElem?_eq_none (by omega)]
  · simp only [shutBy, List.mem_filter, List.mem_range, Bool.or_eq_true, decide_eq_true_eq]
    exact ⟨h2, .inl h1⟩

theorem skip_shape {o : AO} (hg : guardO o st = some false) (h : skipO o st = some st1) : Shape T o st st1 := by
  obtain ⟨h1, h2⟩ := put_eq (show st.put o.dst (.tup []) = some st1 from h)
  subst h1
  have ht : tch1 T o st { st with env := putE o.dst (.tup []) st.env } = ⟨some [], [], false⟩ := by simp [tch1, hg]
  exact ⟨⟨_, rfl⟩, h2, Nat.le_refl _, fun τ hτ => ⟨fun _ _ => rfl, fun b h1 h2 => absurd h2 (Nat.not_lt.2 h1)⟩, fun _ => by rw [ht]; exact ⟨rfl, rfl⟩, fun h => by rw [ht] at h; cases h⟩

theorem tame_of {op : AOp} (hc : op.calm = true) (h : ∀ m f xs, op ≠ .call m f xs) (h' : ∀ m r n xs, op ≠ .inv m r n xs) : op.tame = true := by
  cases op <;> first | rfl | exact absurd rfl (h _ _ _) | exact absurd rfl (h' _ _ _ _) | (simp [AOp.calm] at hc)

theorem step1_shape (hl : SLen S) {o : AO} (hc : o.op.calm = true) (h : step1 T S o st = some st1) : Shape T o st st1 := by
  unfold step1 at h
  split at h
  · rename_i hg
    split at h
    · rename_i st2 hs
      cases h
      have hlen := (stepO_len hl hs).2
      simp only [stOf] at hlen
      have ht : tch1 T o st st1 = tchO T o st st1 := by simp [tch1, hg]
      by_cases h1 : ∃ m f xs, o.op = .call m f xs
      · obtain ⟨m, f, xs, ho⟩ := h1
        simp only [stepO, ho, Option.bind_eq_some_iff] at hs
        obtain ⟨fv, hf, vs, hvs, q, hq, hfin⟩ := hs
        obtain ⟨v, rfl, hst, hnt⟩ := fin_shape hfin
        by_cases hp : pureCall T o st = true
        · have htc : tchO T o st st1 = ⟨some [], [], false⟩ := by simp [tchO, ho, hp]
          -- nothing is touched
          have hH : st1.H = st.H := by
            unfold pureCall at hp
            simp only [ho] at hp
            split at hp
            · rename_i f' xs' hop
              cases hop
              rw [hf, hvs] at hp
              split at hp
              · rename_i h1 h2
                cases h1; cases h2
                simp only [invoke] at hq
                exact (enter_pure hp hq).1
              · cases hp
            · cases hp
          refine ⟨⟨v, hst⟩, hnt, hlen, fun τ hτ => ?_, fun _ => by rw [ht, htc]; exact ⟨rfl, rfl⟩, fun h => by rw [ht, htc] at h; cases h⟩
          rw [ht, htc] at hτ
          cases hτ
          exact ⟨fun b _ => by rw [hH], fun b h1 h2 => by rw [hH] at h2; omega⟩
        · have htc : tchO T o st st1 = (match val T st.env f with
            | some (.yld _) => ⟨none, [], true⟩
            | _ => if m < 2 then ⟨some (shutBy st st1), [], true⟩ else ⟨none, [], true⟩) := by simp only [tchO, ho, hp]; rfl
          rw [hf] at htc
          refine ⟨⟨v, hst⟩, hnt, hlen, fun τ hτ => ?_, fun h => by rw [ho] at h; simp [AOp.eff] at h, fun h => ?_⟩
          · rw [ht, htc] at hτ
            unfold invoke at hq
            split at hq
            · split at hτ
              · rename_i h1; cases h1
              · split at hτ
                · rename_i hm
                  cases hτ
                  exact shutBy_shape hlen (enter_shape hm hq).2
                · cases hτ
            · cases hτ
            · cases hq
          · rw [ht, htc]
            split
            · rfl
            · split <;> rfl
      · by_cases h2 : ∃ m r n xs, o.op = .inv m r n xs
        · obtain ⟨m, rv, n, xs, ho⟩ := h2
          have htc : tchO T o st st1 = (if m < 2 then ⟨some (shutBy st st1), [], true⟩ else ⟨none, [], true⟩) := by simp only [tchO, ho]
          simp only [stepO, ho, Option.bind_eq_some_iff] at hs
          obtain ⟨rcv, hr, vs, hvs, hs⟩ := hs
          have ent : ∀ {k : Nat} {ys : List AV}, (enter T S m k ys st.H).bind (finO o.dst st) = some (.next st1) → Shape T o st st1 := fun {k ys} h => by
            rw [Option.bind_eq_some_iff] at h
            obtain ⟨q, hq, hfin⟩ := h
            obtain ⟨v, rfl, hst, hnt⟩ := fin_shape hfin
            refine ⟨⟨v, hst⟩, hnt, hlen, fun τ hτ => ?_, fun h => by rw [ho] at h; simp [AOp.eff] at h, fun h => ?_⟩
            · rw [ht, htc] at hτ
              split at hτ
              · rename_i hm
                cases hτ
                exact shutBy_shape hlen (enter_shape hm hq).2
              · cases hτ
            · rw [ht, htc]
              split <;> rfl
          split at hs
          · simp only [Option.bind_eq_some_iff] at hs
            obtain ⟨q, _, hs⟩ := hs
            obtain ⟨k, d⟩ := q
            cases d with
            | none => exact ent hs
            | some gn =>
              simp only at hs
              split at hs
              · split at hs
                · rw [Option.bind_eq_some_iff] at hs
                  obtain ⟨v, _, hs⟩ := hs
                  exact ent hs
                · cases hs
              · rw [Option.bind_eq_some_iff] at hs
                obtain ⟨v, _, hs⟩ := hs
                exact ent hs
              · cases hs
          · cases hs
        · have hta : o.op.tame = true := tame_of hc (fun m f xs h => h1 ⟨m, f, xs, h⟩) (fun m r n xs h => h2 ⟨m, r, n, xs, h⟩)
          rw [stepO_tame hta] at hs
          split at hs
          · rename_i v e hv
            simp only [Option.map_eq_some_iff, AStep.next.injEq] at hs
            obtain ⟨s, hs, rfl⟩ := hs
            obtain ⟨p1, p2⟩ := put_eq hs
            have htc : tchO T o st s = ⟨some (e.tch st.H.length), accO T st.env o.op, false⟩ := by
              unfold tchO
              cases hop : o.op <;> first
                | (rw [hop] at hta; simp [AOp.tame] at hta; done)
                | (rw [hop] at hv; simp only [hv])
            have hH : s.H = e.at st.H := by rw [p1]
            refine ⟨⟨v, by rw [p1]⟩, p2, hlen, fun τ hτ => ?_, fun hne => ?_, fun h => ?_⟩
            · rw [ht, htc] at hτ
              cases hτ
              refine ⟨fun b hb => by rw [hH]; exact at_lv hb, fun b h1 h2 => ?_⟩
              rw [hH] at h2
              cases e <;> simp [AEff.at, AEff.tch] at h2 ⊢ <;> omega
            · rw [ht, htc]
              rw [aop_noeff hne hv]
              exact ⟨rfl, rfl⟩
            · rw [ht, htc] at h; cases h
          · cases hs
          · cases hs
    · cases h
  · rename_i hg
    exact skip_shape hg h
  · cases h

end
end Go.Abs
end

section
/- One operation of a region that draws its order, where others have been done or not. Conditions: none. -/
namespace Go.Abs

section
variable {P : Program} {T : Tab} {S : Sems} {w w' : World} {D D' : Nat → Prop} {ι ι' : Nat → Option Nat} {H H' : List AB} {s s1 st st' st1 : ASt} {a a' : Act} {r : Option Nat} {E : Env}

theorem val_same {o : Opd} (h : ∀ t, o = .t t → E.get t = s.env.get t) : val T E o = val T s.env o := by
  cases o with
  | t n => exact h n rfl
  | c v => rfl
  | g n => rfl

theorem guard_same {o : AO} (h : ∀ t b, o.guard = some (t, b) → E.get t = s.env.get t) (H : List AB) : guardO o { s with env := E, H := H } = guardO o s := by
  unfold guardO
  split
  · rfl
  · rename_i t want hn
    simp only [h t want hn]

theorem finO_move {d : Option Nat} {q : AEnd × List AB} (h : finO d s q = some (.next s1)) : ∃ v, s1 = { s with H := s1.H, env := putE d v s.env } ∧ q = (.ret v, s1.H) ∧ ∀ H, finO d { s with env := E, H := H } q = some (.next { s with H := s1.H, env := putE d v E }) := by
  obtain ⟨v, rfl, h1, h2⟩ := fin_shape h
  refine ⟨v, h1, rfl, fun H => ?_⟩
  simp only [finO]
  rw [put_of (by exact h2)]
  rfl

/-- A call with the same operands over the same blocks. -/
theorem stepO_move {o : AO} (hc : (∃ m f xs, o.op = .call m f xs) ∨ ∃ m v n xs, o.op = .inv m v n xs) (hE : ∀ x ∈ o.op.opds, val T E x = val T s.env x) (h : stepO T S o s = some (.next s1)) :
    ∃ v, s1 = { s with H := s1.H, env := putE o.dst v s.env } ∧ stepO T S o { s with env := E } = some (.next { s with H := s1.H, env := putE o.dst v E }) := by
  rcases hc with ⟨m, f, xs, ho⟩ | ⟨m, rv, n, xs, ho⟩
  · rw [ho] at hE
    simp only [AOp.opds, List.mem_cons, forall_eq_or_imp] at hE
    simp only [stepO, ho, Option.bind_eq_some_iff] at h
    obtain ⟨fv, hf, vs, hvs, q, hq, hfin⟩ := h
    obtain ⟨v, h1, h2, h3⟩ := finO_move (E := E) hfin
    refine ⟨v, h1, ?_⟩
    simp only [stepO, ho]
    rw [hE.1, hf, optAll_same hE.2, hvs]
    simp only [Option.bind_some]
    rw [hq]
    exact h3 s.H
  · rw [ho] at hE
    simp only [AOp.opds, List.mem_cons, forall_eq_or_imp] at hE
    simp only [stepO, ho, Option.bind_eq_some_iff] at h
    obtain ⟨rcv, hr, vs, hvs, h⟩ := h
    have ent : ∀ {k : Nat} {ys : List AV}, (enter T S m k ys s.H).bind (finO o.dst s) = some (.next s1) → ∃ v, s1 = { s with H := s1.H, env := putE o.dst v s.env } ∧ (enter T S m k ys s.H).bind (finO o.dst { s with env := E }) = some (.next { s with H := s1.H, env := putE o.dst v E }) := fun {k ys} h => by
      rw [Option.bind_eq_some_iff] at h
      obtain ⟨q, hq, hfin⟩ := h
      obtain ⟨v, h1, h2, h3⟩ := finO_move (E := E) hfin
      exact ⟨v, h1, by rw [hq]; exact h3 s.H⟩
    simp only [stepO, ho]
    rw [hE.1, hr, optAll_same hE.2, hvs]
    simp only [Option.bind_some]
    split at h
    · rename_i t u
      simp only [Option.bind_eq_some_iff] at h
      obtain ⟨q, hq, h⟩ := h
      obtain ⟨k, d⟩ := q
      simp only [hq, Option.bind_some]
      cases d with
      | none => exact ent h
      | some gn =>
        obtain ⟨g, n⟩ := gn
        simp only at h ⊢
        split at h
        · split at h
          · rename_i hrow
            rw [Option.bind_eq_some_iff] at h
            obtain ⟨z, hz, h⟩ := h
            simp only [hz, Option.bind_some]
            exact ent h
          · cases h
        · rw [Option.bind_eq_some_iff] at h
          obtain ⟨z, hz, h⟩ := h
          simp only [hz, Option.bind_some]
          exact ent h
        · cases h
    · cases h

/-- A call whose arguments name no block, in any frame. -/
theorem pure_call (hS : SemsOK P T S) (hT : TabOK P T) (hF : FRel P T st D ι a w r) {f : Nat} {xs : List AV} {v : AV} (hp : AV.pures xs = true) (hen : enter T S 0 f xs [] = some (.ret v, [])) {args : Array Value} (hx : VRels w D ι xs args) :
    CallsIn (Fw r) 0 P f args w fun e w' => ∃ D' x, e = .returned x ∧ VRel w' D' ι v x ∧ FRel P T st D' ι a w' r ∧ Ext w D (Live ι st.H) w' D' (Live ι st.H) := by
  have hc : CallsIn (Fw r) 0 P f args w (CallPost P w D (fun _ => none) [] (.ret v) []) := enter_ok hS.call hT.primOK hen w D (fun _ => none) args (hrel_nil hF.s.h.dlt) hF.s.gl
    ⟨hx.1, fun j v x h1 h2 => (hx.2 j v x h1 h2).pure_names _ (AV.pures_iff.1 hp v (List.mem_of_getElem? h1))⟩
  refine hc.mono ?_
  rintro e w' ⟨D', ι', h1, h2, h3, _, _⟩
  have hno : ∀ b k, ι' b = some k → False := fun b k h => by have := h2.dom b k h; simp at this
  have hl0 : ∀ k, ¬ Live ι' [] k := fun k ⟨b, B, h, _, _⟩ => by simp at h
  have hsame : ∀ k, k < w.heap.size → w'.heap[k]? = w.heap[k]? := fun k hk => h3.keep k hk (live_nil k)
  obtain ⟨g1, g2⟩ := frame (D' := D') hF.s.h hsame h3.size h3.dmono h2.dlt fun k hk hd => by
    obtain ⟨b, B, e1, e2, e3⟩ := hk
    have hlt := hF.s.h.ilt b k e3
    rcases h3.dnew k hd with h | h | h
    · exact (hF.s.h.blk b B k e1 e2 e3).1 h
    · exact live_nil k h
    · omega
  have hext : Ext w D (Live ι st.H) w' D' (Live ι st.H) := ⟨h3.os, h3.tape, h3.output, h3.size, fun k hk _ => hsame k hk, fun k hk => .inl hk, h3.dmono, fun k hk => by
    rcases h3.dnew k hk with h | h | h
    · exact .inl h
    · exact absurd h (live_nil k)
    · exact .inr (.inr h), h3.shape⟩
  have hfr : FRel P T st D' ι a w' r := by
    have := hF.change hext (fun _ _ h => h) g1 hF.base
    exact this
  cases e with
  | returned x => exact ⟨D', x, rfl, VRel.mono (Keeps.refl D' w') (fun _ h => h) (fun b k h => (hno b k h).elim) h1, hfr, hext⟩
  | panicked ch => exact h1.elim
  | outgrown => exact h1.elim

/-- What one operation must come to, where others have been done or not. -/
def DPost (P : Program) (T : Tab) (ao : AO) (s s1 : ASt) (E : Env) (H : List AB) (w : World) (D : Nat → Prop) (ι : Nat → Option Nat) (r : Option Nat) (a' : Act) (w' : World) : Prop :=
  ∃ D' ι' H' v, s1.env = putE ao.dst v s.env ∧ FRel P T { s with env := putE ao.dst v E, H := H' } D' ι' a' w' r ∧ Ext w D (Live ι H) w' D' (Live ι' H') ∧ (∀ b k, ι b = some k → ι' b = some k) ∧
    (∀ b, (∀ τ, (tch1 T ao s s1).tau = some τ → b ∈ τ) → lv H'[b]? = lv s1.H[b]?) ∧ (∀ b τ, (tch1 T ao s s1).tau = some τ → b ∉ τ → lv H'[b]? = lv H[b]?) ∧
    ∀ b k, ι' b = some k → ι b = some k ∨ (s.H.length ≤ b ∧ b < s1.H.length) ∨ ((tch1 T ao s s1).rigid = true ∧ b < s.H.length)

/-- A pure call: what it is. -/
theorem pure_inv {o : AO} (hE : ∀ x ∈ o.op.opds, val T E x = val T s.env x) (hp : pureCall T o s = true) (h : stepO T S o s = some (.next s1)) :
    ∃ f xs k caps vs v, o.op = .call 0 f xs ∧ val T E f = some (.fn (.func k) [] caps) ∧ optAll (val T E) xs = some vs ∧ AV.pures (vs ++ caps) = true ∧ enter T S 0 k (vs ++ caps) [] = some (.ret v, []) ∧
      s1 = { s with env := putE o.dst v s.env } ∧ ∀ d', o.dst = some d' → d' < s.nt := by
  unfold pureCall at hp
  split at hp
  · rename_i f xs ho
    rw [ho] at hE
    simp only [AOp.opds, List.mem_cons, forall_eq_or_imp] at hE
    simp only [stepO, ho, Option.bind_eq_some_iff] at h
    obtain ⟨fv, hf, vs, hvs, q, hq, hfin⟩ := h
    rw [hf, hvs] at hp
    split at hp
    · rename_i h1 h2
      cases h1; cases h2
      obtain ⟨v, rfl, h1, h2⟩ := fin_shape hfin
      simp only [invoke] at hq
      obtain ⟨g1, g2⟩ := enter_pure hp hq
      refine ⟨f, xs, _, _, _, v, ho, by rw [hE.1, hf], by rw [optAll_same hE.2, hvs], hp, g2 [], ?_, h2⟩
      rw [g1] at h1
      exact h1
    · cases hp
  · cases hp

theorem pure_step (hS : SemsOK P T S) (hT : TabOK P T) {o : Oper} {ao : AO} {f : Opd} {xs : List Opd} {k : Nat} {caps vs : List AV} {v : AV} (hd : ao.dst = o.dst) (hc : compOp P o = some ao.op.erase) (hF : FRel P T st D ι a w r) (ho : ao.op = .call 0 f xs) (hf : val T st.env f = some (.fn (.func k) [] caps))
    (hvs : optAll (val T st.env) xs = some vs) (hp : AV.pures (vs ++ caps) = true) (hen : enter T S 0 k (vs ++ caps) [] = some (.ret v, [])) (hnt : ∀ d', ao.dst = some d' → d' < st.nt) {next : Act → World → Prop} {Q : Exit → Act → World → Prop}
    (hN : ∀ D' a' w', FRel P T { st with env := putE ao.dst v st.env } D' ι a' w' r → Ext w D (Live ι st.H) w' D' (Live ι st.H) → next a' w') : o.uponIn (Fw r) 0 P a next Q ((o.semAt r a.eval).run P w) := by
  rw [ho] at hc
  have hnd : ∀ c, o.op ≠ .defer c := fun c h => by
    unfold compOp at hc
    rw [h] at hc
    simp only at hc
    split at hc
    · simp only [Option.bind_eq_some_iff, Option.map_eq_some_iff] at hc
      obtain ⟨_, _, _, _, hc⟩ := hc
      simp [AOp.erase] at hc
    · cases hc
  by_cases h1 : ∃ c, o.op = .call c
  · obtain ⟨c, hoc⟩ := h1
    have hcc : compCall P c = some (AOp.call 0 f xs) := by
      have := hc
      unfold compOp at this
      rw [hoc] at this
      exact this
    cases hcal : c.callee with
    | value f0 =>
      have := hcc
      unfold compCall at this
      rw [hcal] at this
      simp only [Option.bind_eq_some_iff, Option.map_eq_some_iff] at this
      obtain ⟨f', hf', xs', hxs, he⟩ := this
      injection he with _ e1 e2
      subst e1 e2
      have hsem : o.semAt r a.eval = execOp a.eval o := Oper.semAt_eq r _ o hnd
      have hV := opd_ok hF.s hf' hf
      have hX := opds_ok hF.s hxs hvs
      have hargs : (c.args.toList.map a.eval).toArray = c.args.map a.eval := by apply Array.ext'; simp
      rw [hargs] at hX
      obtain ⟨first, captured, e1, e2, e3⟩ := fn_inv hV
      cases e2.nil_inv
      have hrun : (o.semAt r a.eval).run P w = .ok (.enter k (c.args.map a.eval ++ captured)) w := by
        rw [hsem]
        simp [execOp, hoc, resolve, hcal, e1, Deferred.ofValue, Go.invoke, run_callFunc (enters_of_enter hS hT hen)]
      rw [hrun, Oper.uponIn_enter]
      refine And.intro (fun h => by simp [Fw, Fence.wide] at h) ?_
      refine (pure_call hS hT hF hp hen (hX.append e3)).mono ?_
      rintro e w' ⟨D', x, rfl, hv, hf1, hx1⟩
      refine hN D' _ w' ?_ hx1
      rw [← hd]
      exact hf1.put hv (put_of hnt)
    | invoke r0 m =>
      have := hcc
      unfold compCall at this
      rw [hcal] at this
      simp only [Option.bind_eq_some_iff, Option.map_eq_some_iff] at this
      obtain ⟨_, _, _, _, he⟩ := this
      cases he
    | builtin b =>
      by_cases hb : b = .recover
      · subst hb
        unfold compCall at hcc
        rw [hcal] at hcc
        simp at hcc
      · have := compCall_tame hcal hb hcc
        simp [AOp.tame] at this
  · by_cases h3 : ∃ x, o.op = .panic x
    · obtain ⟨x, hox⟩ := h3
      unfold compOp at hc
      rw [hox] at hc
      simp only [Option.map_eq_some_iff] at hc
      obtain ⟨y, _, hc⟩ := hc
      simp [AOp.erase] at hc
    · have := comp_tame hc (fun c h => h1 ⟨c, h⟩) hnd (fun x h => h3 ⟨x, h⟩)
      simp [AOp.tame, AOp.erase] at this

end
end Go.Abs
end

section
/- One operation of a region that draws its order, where others have been done or not: what it comes to. Conditions: none. -/
namespace Go.Abs

section
variable {P : Program} {T : Tab} {S : Sems} {w w' : World} {D D' : Nat → Prop} {ι ι' : Nat → Option Nat} {H H' : List AB} {s s1 st st' st1 : ASt} {a a' : Act} {r : Option Nat} {E : Env}

theorem rigid_call {o : AO} (hc : (∃ m f xs, o.op = .call m f xs) ∨ ∃ m v n xs, o.op = .inv m v n xs) (hp : pureCall T o s = false) : (tchO T o s s1).rigid = true := by
  rcases hc with ⟨m, f, xs, ho⟩ | ⟨m, rv, n, xs, ho⟩
  · unfold tchO
    rw [ho]
    simp only [hp]
    simp only [Bool.false_eq_true, if_false]
    split
    · rfl
    · split <;> rfl
  · unfold tchO
    rw [ho]
    simp only
    split <;> rfl

/-- An operation that makes no block asks for no number. -/
theorem aop_n {ρ : Opd → Option AV} {rd : Nat → Option AB} {n : Nat} {op : AOp} {v : AV} {e : AEff} (he : e = .no ∨ ∃ b B, e = .upd b B) (hv : aop ρ rd n op = some (.val v e)) (n' : Nat) : aop ρ rd n' op = some (.val v e) := by
  have bad : ∀ {B : AB}, e = .new B → False := fun h => by
    rcases he with h' | ⟨b, C, h'⟩ <;> rw [h] at h' <;> cases h'
  have bad' : ∀ {b : Nat} {B : AB}, e = .mv b B → False := fun h => by
    rcases he with h' | ⟨b, C, h'⟩ <;> rw [h] at h' <;> cases h'
  cases op <;> try exact hv
  case alloc z => simp only [aop] at hv; injection hv with hv; injection hv with _ hv; exact (bad hv.symm).elim
  case mkmap => simp only [aop] at hv; injection hv with hv; injection hv with _ hv; exact (bad hv.symm).elim
  case box x =>
    simp only [aop, Option.map_eq_some_iff] at hv
    obtain ⟨_, _, hv⟩ := hv
    injection hv with _ hv; exact (bad hv.symm).elim
  case bsl len z ps =>
    simp only [aop, Option.map_eq_some_iff, Option.bind_eq_some_iff] at hv
    obtain ⟨_, _, _, _, hv⟩ := hv
    injection hv with _ hv; exact (bad hv.symm).elim
  case mksl z b l c =>
    simp only [aop] at hv
    split at hv
    · split at hv
      · injection hv with hv; injection hv with _ hv; exact (bad hv.symm).elim
      · cases hv
    · cases hv
  case app w b s x =>
    simp only [aop] at hv ⊢
    cases hs : ρ s with
    | none => rw [hs] at hv; cases hv
    | some sv =>
      cases hx : ρ x with
      | none => rw [hs, hx] at hv; cases hv
      | some xv =>
        rw [hs, hx] at hv
        simp only [Option.bind_some] at hv ⊢
        cases hp : srcOf rd w xv with
        | none => rw [hp] at hv; cases hv
        | some p =>
          rw [hp] at hv
          simp only [Option.bind_some] at hv ⊢
          cases sv <;> try exact hv
          case nils =>
            simp only at hv ⊢
            split at hv
            · rename_i h; rw [if_pos h]; exact hv
            · split at hv
              · injection hv with hv; injection hv with _ hv; exact (bad hv.symm).elim
              · cases hv
          case csl =>
            simp only at hv ⊢
            split at hv
            · rename_i h; rw [if_pos h]; exact hv
            · split at hv
              · split at hv
                · injection hv with hv; injection hv with _ hv; exact (bad hv.symm).elim
                · cases hv
              · cases hv
          case msl b off len cap =>
            simp only at hv ⊢
            cases hr : rd b with
            | none => rw [hr] at hv; cases hv
            | some B =>
              rw [hr] at hv
              cases B <;> try exact hv
              simp only at hv ⊢
              split at hv
              · rename_i h1
                rw [if_pos h1]
                split at hv
                · rename_i h2; rw [if_pos h2]; exact hv
                · split at hv
                  · injection hv with hv; injection hv with _ hv; exact (bad hv.symm).elim
                  · cases hv
              · cases hv
          case gsl b len d =>
            simp only at hv ⊢
            cases hr : rd b with
            | none => rw [hr] at hv; cases hv
            | some B =>
              rw [hr] at hv
              cases B <;> try exact hv
              simp only at hv ⊢
              split at hv
              · injection hv with hv; injection hv with _ hv; exact (bad' hv.symm).elim
              · cases hv

theorem replay (hS : SemsOK P T S) (hT : TabOK P T) (hl : SLen S) {ops : Array Oper} {o : Oper} {ao : AO} (hd : ao.dst = o.dst) (hg : compGuard ops o.guard = some ao.guard) (hc : compOp P o = some ao.op.erase) (hcalm : ao.op.calm = true) (h1 : step1 T S ao s = some s1) (hb : s.base ≤ s.H.length)
    (hF : FRel P T { s with env := E, H := H } D ι a w r) (hE : ∀ t, (.t t ∈ ao.op.opds ∨ ∃ b, ao.guard = some (t, b)) → E.get t = s.env.get t)
    (hB : (tch1 T ao s s1).rigid = false → ∀ b : Nat, (ao.op.wl = false ∧ b ∈ (tch1 T ao s s1).acc) ∨ (∃ τ, (tch1 T ao s s1).tau = some τ ∧ b ∈ τ) → lv H[b]? = lv s.H[b]?)
    (hR : (tch1 T ao s s1).rigid = true → (∀ b : Nat, lv H[b]? = lv s.H[b]?) ∧ ∀ b k, ι b = some k → b < s.H.length)
    (hN : ∀ b : Nat, s.H.length ≤ b → b < s1.H.length → ι b = none) {Q : Exit → Act → World → Prop} {K : Act → World → Prop} (hK : ∀ a' w', DPost P T ao s s1 E H w D ι r a' w' → K a' w') :
    if Region.wanted o (yielded ops a.tmps) = true then o.wpIn (Fw r) 0 P a w K Q else (∀ f, o.about P w a.eval = some f → (Fw r).fn f) ∧ K (a.put o.dst undef) w := by
  have hval : ∀ x ∈ ao.op.opds, val T E x = val T s.env x := fun x hx => val_same fun t e => hE t (.inl (e ▸ hx))
  have hgs := guard_same (s := s) (o := ao) (E := E) (fun t b e => hE t (.inr ⟨b, e⟩)) H
  have hsh := step1_shape hl hcalm h1
  have h1' := h1
  unfold step1 at h1
  cases hgd : guardO ao s with
  | none => rw [hgd] at h1; cases h1
  | some b =>
    rw [hgd] at h1 hgs
    have hw := guard_ok hF hg hgs
    cases b with
    | false =>
      rw [if_neg (by rw [hw]; simp)]
      refine ⟨fun f _ => trivial, hK _ _ ?_⟩
      obtain ⟨p1, p2⟩ := put_eq (show s.put ao.dst (.tup []) = some s1 from h1)
      subst p1
      have ht : tch1 T ao s { s with env := putE ao.dst (.tup []) s.env } = ⟨some [], [], false⟩ := by simp [tch1, hgd]
      have hput := hF.put (x := undef) (.tup rfl fun j v x h => by simp at h) (put_of (d := ao.dst) (v := .tup []) p2)
      rw [hd] at hput
      refine ⟨D, ι, H, .tup [], rfl, ?_, Ext.refl _ _ _, fun _ _ h => h, fun b hb => ?_, fun b τ _ _ => rfl, fun b k h => .inl h⟩
      · rw [hd]; exact hput
      · have := hb [] (by rw [ht])
        simp at this
    | true =>
      rw [if_pos hw]
      simp only at h1
      cases hs : stepO T S ao s with
      | none => rw [hs] at h1; cases h1
      | some x =>
        rw [hs] at h1
        cases x with
        | out e st => cases h1
        | next s2 =>
          simp only [Option.some.injEq] at h1
          subst h1
          have ht : tch1 T ao s s2 = tchO T ao s s2 := by simp [tch1, hgd]
          refine ⟨fun f _ => trivial, ?_⟩
          by_cases hcl : (∃ m f xs, ao.op = .call m f xs) ∨ ∃ m v n xs, ao.op = .inv m v n xs
          · cases hp : pureCall T ao s with
            | true =>
              obtain ⟨f, xs, k, caps, vs, v, e1, e2, e3, e4, e5, e6, e7⟩ := pure_inv hval hp hs
              have htc : tchO T ao s s2 = ⟨some [], [], false⟩ := by simp [tchO, e1, hp]
              refine pure_step hS hT hd hc hF e1 e2 e3 e4 e5 e7 fun D' a' w' hf hx => hK _ _ ?_
              refine ⟨D', ι, H, v, by rw [e6], hf, hx, fun _ _ h => h, fun b hb => ?_, fun b τ _ _ => rfl, fun b k h => .inl h⟩
              have := hb [] (by rw [ht, htc])
              simp at this
            | false =>
              have hrig : (tch1 T ao s s2).rigid = true := by rw [ht]; exact rigid_call hcl hp
              obtain ⟨r1, r2⟩ := hR hrig
              obtain ⟨v, e1, e2⟩ := stepO_move hcl hval hs
              have hag : ∀ b k, ι b = some k → lv s.H[b]? = lv H[b]? := fun b k _ => (r1 b).symm
              have hA : FRel P T { s with env := E } D ι a w r := ⟨⟨hF.s.h.agree hag r2, hF.s.nt, hF.s.env, hF.s.gl⟩, hF.d, hb, hF.ro⟩
              refine step_ok hS hT hd hc hA e2 ?_
              rintro a' w' ⟨D', ι', f1, x1, x2, x3, x4, x5, x6⟩
              refine hK _ _ ⟨D', ι', s2.H, v, by rw [e1], f1, ?_, x2, fun b _ => rfl, fun b τ hτ hbt => ?_, fun b k hk => ?_⟩
              · have := Live.agree hag
                rw [← this]; exact x1
              · rw [(hsh.tau τ hτ).1 b hbt, r1 b]
              · have hlt := f1.s.h.dom b k hk
                simp only at hlt
                by_cases hh : b < s.H.length
                · exact .inr (.inr ⟨hrig, hh⟩)
                · exact .inr (.inl ⟨by omega, hlt⟩)
          · have hta : ao.op.tame = true := tame_of hcalm (fun m f xs h => hcl (.inl ⟨m, f, xs, h⟩)) (fun m v n xs h => hcl (.inr ⟨m, v, n, xs, h⟩))
            rw [stepO_tame hta] at hs
            split at hs
            · rename_i v e hv
              simp only [Option.map_eq_some_iff, AStep.next.injEq] at hs
              obtain ⟨s3, hs, rfl⟩ := hs
              obtain ⟨p1, p2⟩ := put_eq hs
              have htc : tchO T ao s s3 = ⟨some (e.tch s.H.length), accO T s.env ao.op, false⟩ := by
                unfold tchO
                cases hop : ao.op <;> first
                  | (rw [hop] at hta; simp [AOp.tame] at hta; done)
                  | (rw [hop] at hv; simp only [hv])
              rw [htc] at ht
              have hB' := hB (by rw [ht])
              rw [ht] at hB'
              simp only [Option.some.injEq, exists_eq_left'] at hB'
              -- the same over the blocks as they stand
              have hv' : aop (val T E) (H[·]?) s.H.length ao.op = some (.val v e) := by
                rw [aop_opds hval]
                cases hwl : ao.op.wl with
                | true => rw [aop_wl (rd' := (s.H[·]?)) hwl]; exact hv
                | false =>
                  rw [aop_rd (rd' := (s.H[·]?))]
                  · exact hv
                  · intro x hx u hu b hb
                    refine hB' b (.inl ⟨hwl, ?_⟩)
                    exact List.mem_flatMap.2 ⟨x, hx, by rw [hu]; exact hb⟩
              have he := erase_tame (op := ao.op) (by cases hop : ao.op <;> first | rfl | (rw [hop] at hta; simp [AOp.tame] at hta))
              have hnd : ∀ c, o.op ≠ .defer c := fun c h => by
                unfold compOp at hc
                rw [h] at hc
                simp only at hc
                split at hc
                · simp only [Option.bind_eq_some_iff, Option.map_eq_some_iff] at hc
                  obtain ⟨_, _, _, _, hc⟩ := hc
                  rw [he] at hc
                  rw [← hc] at hta
                  simp [AOp.tame] at hta
                · cases hc
              have hsem : o.semAt r a.eval = execOp a.eval o := Oper.semAt_eq r _ o hnd
              rw [he] at hc
              have hH3 : s3.H = e.at s.H := by rw [p1]
              have htch : ∀ c B, (e = .upd c B ∨ e = .mv c B) → (∃ C, s.H[c]? = some C ∧ C.isDead = false) ∧ lv H[c]? = lv s.H[c]? := fun c B hcB => by
                refine ⟨aop_tch hv c B hcB, hB' c (.inr ?_)⟩
                rcases hcB with rfl | rfl <;> simp [AEff.tch]
              have hfree : e = .no ∨ (∃ b B, e = .upd b B) ∨ (ι s.H.length = none ∧ s.H.length < s3.H.length) := by
                cases e with
                | no => exact .inl rfl
                | upd b B => exact .inr (.inl ⟨b, B, rfl⟩)
                | new B => exact .inr (.inr ⟨hN _ (Nat.le_refl _) (by rw [hH3]; simp [AEff.at]), by rw [hH3]; simp [AEff.at]⟩)
                | mv b B => exact .inr (.inr ⟨hN _ (Nat.le_refl _) (by rw [hH3]; simp [AEff.at]), by rw [hH3]; simp [AEff.at]⟩)
              have done : ∀ nx x w' ι', (execOp a.eval o).run P w = .ok nx w' → (nx = .value x ∨ (nx = .skip ∧ x = undef)) → HRel P w' D ι' (e.atn s.H.length H) → VRel w' D ι' v x → Ext w D (Live ι H) w' D (Live ι' (e.atn s.H.length H)) → (∀ b k, ι b = some k → ι' b = some k) →
                  (∀ b k, ι' b = some k → ι b = some k ∨ (s.H.length ≤ b ∧ b < s3.H.length)) → o.uponIn (Fw r) 0 P a K Q ((o.semAt r a.eval).run P w) := fun nx x w' ι' q1 q2 q3 q4 q5 q6 q7 => by
                have hlen : H.length ≤ (e.atn s.H.length H).length := by
                  cases e with
                  | no => exact Nat.le_refl _
                  | upd b B => simp [AEff.atn]
                  | new B => exact (putB_len H _ B).1
                  | mv b B => have := (putB_len (H.set b .dead) s.H.length B).1; simpa [AEff.atn] using this
                have hch := hF.change q5 q6 q3 (Nat.le_trans hF.base hlen)
                have hpost : DPost P T ao s s3 E H w D ι r (a.put o.dst x) w' := by
                  refine ⟨D, ι', e.atn s.H.length H, v, by rw [p1], ?_, q5, q6, fun b hb => ?_, fun b τ hτ hb => ?_, fun b k hk => ?_⟩
                  · have hp0 := hch.put q4 (put_of (st := { s with env := E, H := e.atn s.H.length H }) (d := o.dst) (v := v) (by rw [← hd]; exact p2))
                    rw [hd]
                    exact hp0
                  · rw [ht] at hb
                    rw [hH3]
                    exact (atn_lv htch).1 (hb _ rfl)
                  · rw [ht] at hτ
                    cases hτ
                    exact (atn_lv htch).2 hb
                  · rcases q7 b k hk with h | h
                    · exact .inl h
                    · exact .inr (.inl h)
                rw [hsem, q1]
                rcases q2 with rfl | ⟨rfl, rfl⟩
                · rw [Oper.uponIn_value]; exact hK _ _ hpost
                · rw [Oper.uponIn_skip]; exact hK _ _ hpost
              rcases hfree with he0 | he0 | ⟨hn, hlt⟩
              · obtain ⟨nx, x, w', ι', q1, q2, q3, q4, q5, q6, q7⟩ := op_ok hF.s hc hta H.length hF.s.h.free v e (aop_n (.inl he0) hv' _)
                subst he0
                exact done nx x w' ι' q1 q2 q3 q4 q5 q6 fun b k h => (q7 b k h).elim .inl fun hb => absurd (q3.dom b k h) (by subst hb; exact Nat.lt_irrefl _)
              · obtain ⟨nx, x, w', ι', q1, q2, q3, q4, q5, q6, q7⟩ := op_ok hF.s hc hta H.length hF.s.h.free v e (aop_n (.inr he0) hv' _)
                obtain ⟨b0, B0, rfl⟩ := he0
                exact done nx x w' ι' q1 q2 q3 q4 q5 q6 fun b k h => (q7 b k h).elim .inl fun hb => absurd (q3.dom b k h) (by subst hb; simp [AEff.atn])
              · obtain ⟨nx, x, w', ι', q1, q2, q3, q4, q5, q6, q7⟩ := op_ok hF.s hc hta s.H.length hn v e hv'
                refine done nx x w' ι' q1 q2 q3 q4 q5 q6 fun b k h => (q7 b k h).elim .inl fun hb => ?_
                exact .inr ⟨by omega, by omega⟩
            · cases hs
            · cases hs

end
end Go.Abs
end

section
/- A region that draws its order: what Go orders, and what is unordered. Conditions: none. -/
namespace Go.Abs

section
variable {ops : Array Oper}

/-- The step of 'Region.before'. -/
def bef (acc : Array Nat) (o : Oper) : Nat := o.after.foldl (fun s e => if Region.binds .any e then s ||| 2 ^ e.on ||| acc.getD e.on 0 else s) 0

def befN (l : List Oper) (n : Nat) : Array Nat := (l.take n).foldl (fun acc o => acc.push (bef acc o)) #[]

theorem befN_succ {l : List Oper} {n : Nat} {o : Oper} (h : l[n]? = some o) : befN l (n + 1) = (befN l n).push (bef (befN l n) o) := by
  unfold befN
  rw [List.take_add_one, h]
  simp [List.foldl_append]

theorem befN_size {l : List Oper} : ∀ {n : Nat}, n ≤ l.length → (befN l n).size = n
  | 0, _ => by simp [befN]
  | n + 1, h => by
    rw [befN_succ (List.getElem?_eq_getElem (show n < l.length by omega))]
    simp [befN_size (show n ≤ l.length by omega)]

theorem befN_get {l : List Oper} {i : Nat} : ∀ {m n : Nat}, i < n → n ≤ m → m ≤ l.length → (befN l m).getD i 0 = (befN l n).getD i 0
  | 0, n, h1, h2, _ => by omega
  | m + 1, n, h1, h2, h3 => by
    by_cases hn : n = m + 1
    · subst hn; rfl
    · rw [befN_succ (List.getElem?_eq_getElem (show m < l.length by omega)), ← befN_get h1 (show n ≤ m by omega) (by omega)]
      have hs := befN_size (l := l) (n := m) (by omega)
      simp only [Array.getD_eq_getD_getElem?, Array.getElem?_push]
      rw [if_neg (by omega)]

theorem before_eq : Region.before ops = befN ops.toList ops.size := by
  unfold befN
  rw [List.take_of_length_le (by simp)]
  unfold Region.before
  rw [← Array.foldl_toList]
  rfl

/-- What is marked as before i: what its edges lead to. -/
theorem bit_of {f : Nat → Nat} {j : Nat} : ∀ (l : List Edge) (s : Nat), (l.foldl (fun s e => if Region.binds .any e then s ||| 2 ^ e.on ||| f e.on else s) s).testBit j = true → s.testBit j = true ∨ ∃ e ∈ l, Region.binds .any e = true ∧ (j = e.on ∨ (f e.on).testBit j = true)
  | [], s, h => .inl h
  | e :: l, s, h => by
    rcases bit_of l _ h with h1 | ⟨e', h1, h2⟩
    · simp only at h1
      split at h1
      · rw [Nat.testBit_or, Nat.testBit_or, Bool.or_eq_true, Bool.or_eq_true] at h1
        rcases h1 with (h1 | h1) | h1
        · exact .inl h1
        · rw [Nat.testBit_two_pow] at h1
          exact .inr ⟨e, by simp, by assumption, .inl (by simpa using Eq.symm (by simpa using h1))⟩
        · exact .inr ⟨e, by simp, by assumption, .inr h1⟩
      · exact .inl h1
    · exact .inr ⟨e', by simp [h1], h2⟩

theorem before_sub (hdown : ∀ (i : Nat) (o : Oper), ops[i]? = some o → ∀ e ∈ o.after, Region.binds .any e = true → e.on < i) {X : Nat → Prop} (hX : ∀ (i : Nat) (o : Oper), ops[i]? = some o → X i → ∀ e ∈ o.after, Region.binds .any e = true → X e.on) :
    ∀ (i j : Nat) (o : Oper), ops[i]? = some o → (∀ e ∈ o.after, Region.binds .any e = true → X e.on) → ((Region.before ops).getD i 0).testBit j = true → X j := by
  intro i
  induction i using Nat.strongRecOn with
  | _ i ih =>
    intro j o ho hpre hb
    have hlt := (Array.getElem?_eq_some_iff.1 ho).1
    rw [before_eq, befN_get (show i < i + 1 by omega) (by omega) (by simp), befN_succ (o := o) (by simpa using ho), Array.getD_eq_getD_getElem?, Array.getElem?_push, if_pos (befN_size (by simp; omega)).symm, Option.getD_some] at hb
    unfold bef at hb
    rw [← Array.foldl_toList] at hb
    rcases bit_of (f := fun k => (befN ops.toList i).getD k 0) _ _ hb with h | ⟨e, he, hbd, h | h⟩
    · simp at h
    · subst h; exact hpre e (by simpa using he) hbd
    · have he' : e ∈ o.after := by simpa using he
      have hd := hdown i o ho e he' hbd
      have hle : e.on < ops.size := by omega
      obtain ⟨o', ho'⟩ : ∃ o', ops[e.on]? = some o' := ⟨_, Array.getElem?_eq_getElem hle⟩
      refine ih e.on hd j o' ho' (hX _ _ ho' (hpre e he' hbd)) ?_
      rw [before_eq, befN_get hd (by omega) (by simp)]
      exact h

theorem before_lt (hdown : ∀ (i : Nat) (o : Oper), ops[i]? = some o → ∀ e ∈ o.after, Region.binds .any e = true → e.on < i) {i j : Nat} {o : Oper} (ho : ops[i]? = some o) (h : ((Region.before ops).getD i 0).testBit j = true) : j < i :=
  before_sub (X := fun k => k < i) hdown (fun k o hk hlt e he hbd => Nat.lt_trans (hdown k o hk e he hbd) hlt) i j o ho (hdown i o ho) h

theorem loose_mem {l : List AO} {i j : Nat} {x y : AO} (hi : l[i]? = some x) (hj : l[j]? = some y) (hne : i ≠ j) (he : x.op.eff = true) (hw : y.op.wl = false) (h1 : ((Region.before ops).getD i 0).testBit j = false) (h2 : ((Region.before ops).getD j 0).testBit i = false) : (i, j) ∈ loose ops l := by
  have li := (List.getElem?_eq_some_iff.1 hi).1
  have lj := (List.getElem?_eq_some_iff.1 hj).1
  unfold loose
  rw [List.mem_flatMap]
  refine ⟨i, List.mem_range.2 li, ?_⟩
  simp only [hi, Option.any_some, he]
  rw [if_neg (by simp)]
  rw [List.mem_filterMap]
  refine ⟨j, List.mem_range.2 lj, ?_⟩
  rw [if_neg (by simp only [h1, h2]; simp [hne])]
  rw [hj]
  obtain ⟨d, g, op⟩ := y
  cases op <;> first | rfl | (simp [AOp.wl] at hw)

end
end Go.Abs
end

section
/- A region that draws its order: the run in the text's order, laid out step by step. Conditions: none. -/
namespace Go.Abs

section
variable {P : Program} {T : Tab} {S : Sems} {st st' : ASt} {l : List AO}

theorem run_seq : ∀ {l : List AO} {st st' : ASt}, runOps T S l st = some (.next st') → ∃ f : Nat → ASt, f 0 = st ∧ f l.length = st' ∧ (∀ (i : Nat) (o : AO), l[i]? = some o → step1 T S o (f i) = some (f (i + 1))) ∧
    ∀ (i : Nat) (o : AO), l[i]? = some o → (trace T S l st)[i]? = some (tch1 T o (f i) (f (i + 1)))
  | [], st, st', h => by
    cases h
    exact ⟨fun _ => st, rfl, rfl, fun i o h => by simp at h, fun i o h => by simp at h⟩
  | o :: l, st, st', h => by
    simp only [runOps] at h
    cases hg : guardO o st with
    | none => rw [hg] at h; cases h
    | some b =>
      rw [hg] at h
      have go : ∀ {st1 : ASt} {t : Tch}, step1 T S o st = some st1 → trace T S (o :: l) st = t :: trace T S l st1 → t = tch1 T o st st1 → runOps T S l st1 = some (.next st') → ∃ f : Nat → ASt, f 0 = st ∧ f (o :: l).length = st' ∧ (∀ (i : Nat) (x : AO), (o :: l)[i]? = some x → step1 T S x (f i) = some (f (i + 1))) ∧
          ∀ (i : Nat) (x : AO), (o :: l)[i]? = some x → (trace T S (o :: l) st)[i]? = some (tch1 T x (f i) (f (i + 1))) := fun {st1 t} h1 h2 h3 h4 => by
        obtain ⟨g, g0, g1, g2, g3⟩ := run_seq h4
        refine ⟨fun i => match i with | 0 => st | i + 1 => g i, rfl, g1, fun i x hx => ?_, fun i x hx => ?_⟩
        · cases i with
          | zero => simp at hx; subst hx; simp only [g0]; exact h1
          | succ i => exact g2 i x (by simpa using hx)
        · cases i with
          | zero => simp at hx; subst hx; rw [h2]; simp only [g0, h3, List.getElem?_cons_zero]
          | succ i => rw [h2]; simpa using g3 i x (by simpa using hx)
      cases b with
      | true =>
        simp only at h
        cases hs : stepO T S o st with
        | none => rw [hs] at h; cases h
        | some y =>
          rw [hs] at h
          cases y with
          | out e s => cases h
          | next st1 =>
            refine go (st1 := st1) (t := tchO T o st st1) ?_ ?_ ?_ h
            · simp only [step1, hg, hs]
            · simp only [trace, hg, hs]
            · simp only [tch1, hg]
      | false =>
        simp only [Option.bind_eq_some_iff] at h
        obtain ⟨st1, hk, h⟩ := h
        refine go (st1 := st1) (t := ⟨some [], [], false⟩) ?_ ?_ ?_ h
        · simp only [step1, hg, hk]
        · simp only [trace, hg, hk]
        · simp only [tch1, hg]

/-- A region that draws its order, laid out. -/
structure Dr (P : Program) (T : Tab) (S : Sems) (ops : Array Oper) (l : List AO) (f : Nat → ASt) : Prop where
  len : l.length = ops.size
  op : ∀ (j : Nat) (o : Oper) (ao : AO), ops[j]? = some o → l[j]? = some ao → compGuard ops o.guard = some ao.guard ∧ compOp P o = some ao.op.erase ∧ ao.dst = o.dst
  calm : ∀ (j : Nat) (ao : AO), l[j]? = some ao → ao.op.calm = true
  down : ∀ (i : Nat) (o : Oper), ops[i]? = some o → ∀ e ∈ o.after, Region.binds .any e = true → e.on < i
  dst : ∀ (i j : Nat) (x y : AO) (t : Nat), l[i]? = some x → l[j]? = some y → x.dst = some t → y.dst = some t → i = j
  rd : ∀ (i j : Nat) (x y : AO) (t : Nat), l[i]? = some x → l[j]? = some y → x.dst = some t → (.t t ∈ y.op.opds ∨ ∃ b, y.guard = some (t, b)) → ((Region.before ops).getD j 0).testBit i = true ∨ ((Region.before ops).getD i 0).testBit j = true
  step : ∀ (i : Nat) (o : AO), l[i]? = some o → step1 T S o (f i) = some (f (i + 1))
  base : (f 0).base ≤ (f 0).H.length
  loose : ∀ (i j : Nat) (x y : AO), l[i]? = some x → l[j]? = some y → i ≠ j → x.op.eff = true → y.op.wl = false → ((Region.before ops).getD i 0).testBit j = false → ((Region.before ops).getD j 0).testBit i = false →
    ∃ a, (tch1 T x (f i) (f (i + 1))).tau = some a ∧ (a = [] ∨ ((tch1 T y (f j) (f (j + 1))).rigid = false ∧ ∀ b ∈ a, b ∉ ((tch1 T y (f j) (f (j + 1))).tau.getD []) ∧ b ∉ (tch1 T y (f j) (f (j + 1))).acc))

end

section
variable {P : Program} {T : Tab} {S : Sems} {ops : Array Oper} {l : List AO} {f : Nat → ASt}

def tchN (T : Tab) (l : List AO) (f : Nat → ASt) (i : Nat) : Tch := match l[i]? with
  | some o => tch1 T o (f i) (f (i + 1))
  | none => ⟨some [], [], false⟩

/-- Does the i-th operation touch the block? -/
def tauB (T : Tab) (l : List AO) (f : Nat → ASt) (i b : Nat) : Bool := match (tchN T l f i).tau with
  | none => true
  | some τ => τ.contains b

theorem tchN_eq {i : Nat} {o : AO} (h : l[i]? = some o) : tchN T l f i = tch1 T o (f i) (f (i + 1)) := by simp [tchN, h]

theorem Dr.shape (d : Dr P T S ops l f) (hl : SLen S) {i : Nat} {o : AO} (h : l[i]? = some o) : Shape T o (f i) (f (i + 1)) := step1_shape hl (d.calm i o h) (d.step i o h)

theorem Dr.at (d : Dr P T S ops l f) {i : Nat} (h : i < l.length) : ∃ o ao, ops[i]? = some o ∧ l[i]? = some ao :=
  ⟨_, _, Array.getElem?_eq_getElem (by rw [← d.len]; exact h), List.getElem?_eq_getElem h⟩

theorem wl_eff {op : AOp} (h : op.wl = true) : op.eff = false := by cases op <;> first | rfl | simp [AOp.wl] at h

/-- Unordered operations keep out of each other's way. -/
theorem Dr.apart (d : Dr P T S ops l f) (hl : SLen S) {i j : Nat} {x y : AO} (hi : l[i]? = some x) (hj : l[j]? = some y) (hne : i ≠ j) (h1 : ((Region.before ops).getD i 0).testBit j = false) (h2 : ((Region.before ops).getD j 0).testBit i = false) {b : Nat} (hb : tauB T l f i b = true) :
    tauB T l f j b = false ∧ (tchN T l f j).rigid = false ∧ (y.op.wl = false → b ∉ (tchN T l f j).acc) := by
  have sj := d.shape hl hj
  have si := d.shape hl hi
  unfold tauB at hb ⊢
  rw [tchN_eq hi] at hb
  rw [tchN_eq hj]
  cases he : x.op.eff with
  | false => rw [(si.noeff he).1] at hb; simp at hb
  | true =>
    cases hw : y.op.wl with
    | true =>
      obtain ⟨n1, n2⟩ := sj.noeff (wl_eff hw)
      rw [n1, n2]
      exact ⟨rfl, rfl, fun h => by cases h⟩
    | false =>
      obtain ⟨a, ha, hor⟩ := d.loose i j x y hi hj hne he hw h1 h2
      rw [ha] at hb
      rcases hor with rfl | ⟨r, h⟩
      · simp at hb
      · obtain ⟨g1, g2⟩ := h b (by simpa using hb)
        refine ⟨?_, r, fun _ => g2⟩
        cases ht : (tch1 T y (f j) (f (j + 1))).tau with
        | none => rw [sj.any ht] at r; cases r
        | some c => rw [ht] at g1; simpa using g1

theorem Dr.len_mono (d : Dr P T S ops l f) (hl : SLen S) {i j : Nat} (h : i ≤ j) (hj : j ≤ l.length) : (f i).H.length ≤ (f j).H.length := by
  induction j with
  | zero => have : i = 0 := by omega
            subst this; exact Nat.le_refl _
  | succ j ih =>
    by_cases e : i = j + 1
    · subst e; exact Nat.le_refl _
    · obtain ⟨o, ho⟩ : ∃ o, l[j]? = some o := ⟨_, List.getElem?_eq_getElem (by omega)⟩
      exact Nat.le_trans (ih (by omega) (by omega)) (d.shape hl ho).len

theorem Dr.same (d : Dr P T S ops l f) (hl : SLen S) {i : Nat} (hi : i ≤ l.length) : f i = { f 0 with env := (f i).env, H := (f i).H } := by
  induction i with
  | zero => rfl
  | succ j ih =>
    obtain ⟨o, ho⟩ : ∃ o, l[j]? = some o := ⟨_, List.getElem?_eq_getElem (by omega)⟩
    obtain ⟨v, hv⟩ := (d.shape hl ho).out
    rw [ih (by omega)] at hv
    rw [hv]

/-- The environment in the text's order. -/
theorem Dr.env (d : Dr P T S ops l f) (hl : SLen S) {i : Nat} (hi : i ≤ l.length) (t : Nat) :
    (∀ (m : Nat) (o : AO), m < i → l[m]? = some o → o.dst = some t → (f i).env.get t = (f (m + 1)).env.get t) ∧ ((∀ (m : Nat) (o : AO), m < i → l[m]? = some o → o.dst ≠ some t) → (f i).env.get t = (f 0).env.get t) := by
  induction i with
  | zero => exact ⟨fun m o h => by omega, fun _ => rfl⟩
  | succ j ih =>
    obtain ⟨o, ho⟩ : ∃ o, l[j]? = some o := ⟨_, List.getElem?_eq_getElem (by omega)⟩
    obtain ⟨v, hv⟩ := (d.shape hl ho).out
    obtain ⟨i1, i2⟩ := ih (by omega)
    have henv : (f (j + 1)).env = putE o.dst v (f j).env := by rw [hv]
    have keep : o.dst ≠ some t → (f (j + 1)).env.get t = (f j).env.get t := fun hne => by
      rw [henv]
      cases hd : o.dst with
      | none => rfl
      | some d' =>
        simp only [putE, Env.get]
        rw [if_neg (fun e => hne (by rw [hd, e]))]
    refine ⟨fun m x hm hx hd => ?_, fun h => ?_⟩
    · by_cases e : m = j
      · subst e; rfl
      · by_cases hd' : o.dst = some t
        · exact absurd (d.dst m j x o t hx ho hd hd') e
        · rw [keep hd', i1 m x (by omega) hx hd]
    · rw [keep (h j o (by omega) ho), i2 fun m x hm hx => h m x (by omega) hx]

end
end Go.Abs
end

section
/- A region that draws its order comes to what the text's order comes to. Conditions: none. -/
namespace Go.Abs

section
variable {P : Program} {T : Tab} {S : Sems} {ops : Array Oper} {l : List AO} {f : Nat → ASt} {X : Nat → Bool}

/-- What a block holds behind the last operation of X that touches it. -/
def cont (T : Tab) (l : List AO) (f : Nat → ASt) (X : Nat → Bool) : Nat → Nat → Option AB
  | 0, b => lv (f 0).H[b]?
  | m + 1, b => if X m && tauB T l f m b then lv (f (m + 1)).H[b]? else cont T l f X m b

/-- Is the block there? -/
def made (l : List AO) (f : Nat → ASt) (X : Nat → Bool) (b : Nat) : Prop := b < (f 0).H.length ∨ ∃ m, m < l.length ∧ X m = true ∧ (f m).H.length ≤ b ∧ b < (f (m + 1)).H.length

/-- All that an operation of X hangs on is in X. -/
def Shut1 (ops : Array Oper) (X : Nat → Bool) : Prop := ∀ (i : Nat) (o : Oper), ops[i]? = some o → X i = true → ∀ e ∈ o.after, Region.binds .any e = true → X e.on = true

theorem Dr.not_before (d : Dr P T S ops l f) {i j : Nat} {o : Oper} (ho : ops[i]? = some o) (h : i ≤ j) : ((Region.before ops).getD i 0).testBit j = false := by
  cases hb : ((Region.before ops).getD i 0).testBit j with
  | false => rfl
  | true => have := before_lt d.down ho hb; omega

theorem Dr.frame (d : Dr P T S ops l f) (hl : SLen S) {m b : Nat} (hm : m < l.length) (h : tauB T l f m b = false) : lv (f (m + 1)).H[b]? = lv (f m).H[b]? := by
  obtain ⟨o, ao, ho, hao⟩ := d.at hm
  have sh := d.shape hl hao
  unfold tauB at h
  rw [tchN_eq hao] at h
  cases ht : (tch1 T ao (f m) (f (m + 1))).tau with
  | none => rw [ht] at h; cases h
  | some τ =>
    rw [ht] at h
    exact (sh.tau τ ht).1 b (by simpa using h)

theorem Dr.new (d : Dr P T S ops l f) (hl : SLen S) {m b : Nat} (hm : m < l.length) (h1 : (f m).H.length ≤ b) (h2 : b < (f (m + 1)).H.length) : tauB T l f m b = true := by
  obtain ⟨o, ao, ho, hao⟩ := d.at hm
  have sh := d.shape hl hao
  unfold tauB
  rw [tchN_eq hao]
  cases ht : (tch1 T ao (f m) (f (m + 1))).tau with
  | none => rfl
  | some τ => simpa using (sh.tau τ ht).2 b h1 h2

/-- Of an operation that is next, and another that is out of the text's order: they are unordered. -/
theorem Dr.unord (d : Dr P T S ops l f) (hc : Shut1 ops X) {i m : Nat} {o : Oper} (ho : ops[i]? = some o) (hi : X i = false) (hpre : ∀ e ∈ o.after, Region.binds .any e = true → X e.on = true) {o' : Oper} (ho' : ops[m]? = some o') (h : (m < i ∧ X m = false) ∨ (i < m ∧ X m = true)) :
    m ≠ i ∧ ((Region.before ops).getD m 0).testBit i = false ∧ ((Region.before ops).getD i 0).testBit m = false := by
  rcases h with ⟨h1, h2⟩ | ⟨h1, h2⟩
  · refine ⟨by omega, d.not_before ho' (by omega), ?_⟩
    cases hb : ((Region.before ops).getD i 0).testBit m with
    | false => rfl
    | true => have := before_sub (X := fun k => X k = true) d.down hc i m o ho hpre hb; rw [h2] at this; cases this
  · refine ⟨by omega, ?_, d.not_before ho (by omega)⟩
    cases hb : ((Region.before ops).getD m 0).testBit i with
    | false => rfl
    | true => have := before_sub (X := fun k => X k = true) d.down hc m i o' ho' (hc m o' ho' h2) hb; rw [hi] at this; cases this

/-- What the next operation finds is what it finds in the text's order. -/
theorem Dr.finds (d : Dr P T S ops l f) (hl : SLen S) (hc : Shut1 ops X) {i b : Nat} {o : Oper} (ho : ops[i]? = some o) (hil : i < l.length) (hi : X i = false) (hpre : ∀ e ∈ o.after, Region.binds .any e = true → X e.on = true)
    (hP : ∀ m, m < l.length → m ≠ i → ((Region.before ops).getD m 0).testBit i = false → ((Region.before ops).getD i 0).testBit m = false → tauB T l f m b = false) : cont T l f X l.length b = lv (f i).H[b]? := by
  have up : ∀ m, m ≤ i → cont T l f X m b = lv (f m).H[b]? := by
    intro m
    induction m with
    | zero => intro _; rfl
    | succ m ih =>
      intro hm
      simp only [cont]
      split
      · rfl
      · rename_i hn
        rw [ih (by omega)]
        cases ht : tauB T l f m b with
        | false => exact (d.frame hl (by omega) ht).symm
        | true =>
          have hx : X m = false := by
            cases hx : X m with
            | false => rfl
            | true => rw [hx, ht] at hn; simp at hn
          obtain ⟨o', ao', ho', _⟩ := d.at (i := m) (by omega)
          obtain ⟨u1, u2, u3⟩ := d.unord hc ho hi hpre ho' (.inl ⟨by omega, hx⟩)
          rw [hP m (by omega) u1 u2 u3] at ht
          cases ht
  have down : ∀ n, i + n ≤ l.length → cont T l f X (i + n) b = cont T l f X i b := by
    intro n
    induction n with
    | zero => intro _; rfl
    | succ n ih =>
      intro hn
      rw [← Nat.add_assoc]
      simp only [cont]
      split
      · rename_i h
        rw [Bool.and_eq_true] at h
        by_cases hz : n = 0
        · subst hz; rw [Nat.add_zero] at h; rw [hi] at h; cases h.1
        · obtain ⟨o', ao', ho', _⟩ := d.at (i := i + n) (by omega)
          obtain ⟨u1, u2, u3⟩ := d.unord hc ho hi hpre ho' (.inr ⟨by omega, h.1⟩)
          rw [hP (i + n) (by omega) u1 u2 u3] at h
          cases h.2
      · exact ih (by omega)
  have := down (l.length - i) (by omega)
  rw [Nat.add_sub_cancel' (by omega)] at this
  rw [this, up i (Nat.le_refl _)]

/-- ... and what it leaves. -/
theorem Dr.leaves (d : Dr P T S ops l f) (hl : SLen S) (hc : Shut1 ops X) {Y : Nat → Bool} {i b : Nat} {o : Oper} (ho : ops[i]? = some o) (hil : i < l.length) (hi : X i = false) (hpre : ∀ e ∈ o.after, Region.binds .any e = true → X e.on = true) (hY : Y i = true) (hYX : ∀ m, m ≠ i → Y m = X m) :
    cont T l f Y l.length b = if tauB T l f i b then lv (f (i + 1)).H[b]? else cont T l f X l.length b := by
  split
  · rename_i ht
    have down : ∀ n, i + 1 + n ≤ l.length → cont T l f Y (i + 1 + n) b = lv (f (i + 1)).H[b]? := by
      intro n
      induction n with
      | zero => intro _; simp only [Nat.add_zero, cont, hY, ht, Bool.and_true, if_true]
      | succ n ih =>
        intro hn
        rw [← Nat.add_assoc]
        simp only [cont]
        split
        · rename_i h
          rw [Bool.and_eq_true, hYX _ (by omega)] at h
          obtain ⟨o', ao', ho', hao'⟩ := d.at (i := i + 1 + n) (by omega)
          obtain ⟨_, ao, _, hao⟩ := d.at hil
          obtain ⟨u1, u2, u3⟩ := d.unord hc ho hi hpre ho' (.inr ⟨by omega, h.1⟩)
          have := (d.apart hl hao hao' (Ne.symm u1) u3 u2 ht).1
          rw [h.2] at this; cases this
        · exact ih (by omega)
    have := down (l.length - (i + 1)) (by omega)
    rwa [Nat.add_sub_cancel' (by omega)] at this
  · rename_i ht
    have : ∀ n, n ≤ l.length → cont T l f Y n b = cont T l f X n b := by
      intro n
      induction n with
      | zero => intro _; rfl
      | succ n ih =>
        intro hn
        simp only [cont]
        by_cases e : n = i
        · subst e
          simp only [ht, Bool.and_false]
          exact ih (by omega)
        · rw [hYX n e, ih (by omega)]
    exact this _ (Nat.le_refl _)

theorem Dr.cont_all (d : Dr P T S ops l f) (hl : SLen S) (hX : ∀ m, m < l.length → X m = true) {b : Nat} : ∀ n, n ≤ l.length → cont T l f X n b = lv (f n).H[b]? := by
  intro n
  induction n with
  | zero => intro _; rfl
  | succ n ih =>
    intro hn
    simp only [cont]
    split
    · rfl
    · rename_i h
      rw [hX n (by omega), Bool.true_and] at h
      rw [ih (by omega), d.frame hl (by omega) (by simpa using h)]

end

section
variable {P : Program} {T : Tab} {S : Sems} {ops : Array Oper} {l : List AO} {f : Nat → ASt} {X : Nat → Bool} {w w' : World} {D D' : Nat → Prop} {ι ι' : Nat → Option Nat} {a a' : Act} {r : Option Nat}

/-- What stands behind the operations of X, in whatever order. -/
def Inv (P : Program) (T : Tab) (l : List AO) (f : Nat → ASt) (r : Option Nat) (w0 : World) (D0 : Nat → Prop) (ι0 : Nat → Option Nat) (X : Nat → Bool) (a : Act) (w : World) : Prop :=
  ∃ D ι E H, FRel P T { f 0 with env := E, H := H } D ι a w r ∧ Ext w0 D0 (Live ι0 (f 0).H) w D (Live ι H) ∧ (∀ b k, ι0 b = some k → ι b = some k) ∧
    (∀ t, (∀ (m : Nat) (o : AO), X m = true → l[m]? = some o → o.dst = some t → E.get t = (f (m + 1)).env.get t) ∧ ((∀ (m : Nat) (o : AO), X m = true → l[m]? = some o → o.dst ≠ some t) → E.get t = (f 0).env.get t)) ∧
    (∀ b : Nat, lv H[b]? = cont T l f X l.length b) ∧ ∀ b k, ι b = some k → made l f X b

theorem Dr.made_next (d : Dr P T S ops l f) (hl : SLen S) (hc : Shut1 ops X) {i b : Nat} {o : Oper} (ho : ops[i]? = some o) (hil : i < l.length) (hi : X i = false) (hpre : ∀ e ∈ o.after, Region.binds .any e = true → X e.on = true) (hr : (tchN T l f i).rigid = true) : made l f X b ↔ b < (f i).H.length := by
  obtain ⟨_, ao, _, hao⟩ := d.at hil
  constructor
  · rintro (h | ⟨m, h1, h2, h3, h4⟩)
    · exact Nat.lt_of_lt_of_le h (d.len_mono hl (Nat.zero_le _) (by omega))
    · by_cases e : m < i
      · exact Nat.lt_of_lt_of_le h4 (d.len_mono hl (by omega) (by omega))
      · have hne : m ≠ i := fun e => by subst e; rw [hi] at h2; cases h2
        obtain ⟨o', ao', ho', hao'⟩ := d.at h1
        obtain ⟨u1, u2, u3⟩ := d.unord hc ho hi hpre ho' (.inr ⟨by omega, h2⟩)
        have := (d.apart hl hao' hao u1 u2 u3 (d.new hl h1 h3 h4)).2.1
        rw [hr] at this; cases this
  · intro h
    by_cases h0 : b < (f 0).H.length
    · exact .inl h0
    · -- the operation that made it
      have : ∀ n, n ≤ i → b < (f n).H.length → ∃ m, m < n ∧ (f m).H.length ≤ b ∧ b < (f (m + 1)).H.length := by
        intro n
        induction n with
        | zero => intro _ h; exact absurd h h0
        | succ n ih =>
          intro hn h
          by_cases h' : b < (f n).H.length
          · obtain ⟨m, g1, g2⟩ := ih (by omega) h'
            exact ⟨m, by omega, g2⟩
          · exact ⟨n, by omega, by omega, h⟩
      obtain ⟨m, g1, g2, g3⟩ := this i (Nat.le_refl _) h
      refine .inr ⟨m, by omega, ?_, g2, g3⟩
      cases hx : X m with
      | true => rfl
      | false =>
        obtain ⟨o', ao', ho', hao'⟩ := d.at (i := m) (by omega)
        obtain ⟨u1, u2, u3⟩ := d.unord hc ho hi hpre ho' (.inl ⟨by omega, hx⟩)
        have := (d.apart hl hao' hao u1 u2 u3 (d.new hl (by omega) g2 g3)).2.1
        rw [hr] at this; cases this

theorem Dr.next (d : Dr P T S ops l f) (hS : SemsOK P T S) (hT : TabOK P T) (hl : SLen S) (hc : Shut1 ops X) {Y : Nat → Bool} {i : Nat} {o : Oper} (ho : ops[i]? = some o) (hi : X i = false) (hpre : ∀ e ∈ o.after, Region.binds .any e = true → X e.on = true) (hY : Y i = true) (hYX : ∀ m, m ≠ i → Y m = X m)
    {w0 : World} {D0 : Nat → Prop} {ι0 : Nat → Option Nat} (hI : Inv P T l f r w0 D0 ι0 X a w) {Q : Exit → Act → World → Prop} {K : Act → World → Prop} (hK : ∀ a' w', Inv P T l f r w0 D0 ι0 Y a' w' → K a' w') : wpOpIn (Fw r) 0 P ops Q i K a w := by
  have hil : i < l.length := by rw [d.len]; exact (Array.getElem?_eq_some_iff.1 ho).1
  obtain ⟨_, ao, ho2, hao⟩ := d.at hil
  rw [ho] at ho2; cases ho2
  obtain ⟨c1, c2, c3⟩ := d.op i o ao ho hao
  obtain ⟨D, ι, E, H, hF, hx, hi0, hE, hH, hm⟩ := hI
  have sh := d.shape hl hao
  have hsame := d.same hl (Nat.le_of_lt hil)
  have hF' : FRel P T { f i with env := E, H := H } D ι a w r := by rw [hsame]; exact hF
  have hti : tchN T l f i = tch1 T ao (f i) (f (i + 1)) := tchN_eq hao
  unfold wpOpIn
  simp only [ho]
  have hbase : (f i).base ≤ (f i).H.length := by
    rw [show (f i).base = (f 0).base by rw [hsame]]
    exact Nat.le_trans d.base (d.len_mono hl (Nat.zero_le _) (by omega))
  -- temporaries read are written, if here, by operations done
  have henv : ∀ t, (.t t ∈ ao.op.opds ∨ ∃ b, ao.guard = some (t, b)) → E.get t = (f i).env.get t := fun t ht => by
    obtain ⟨e1, e2⟩ := hE t
    obtain ⟨g1, g2⟩ := d.env hl (Nat.le_of_lt hil) t
    by_cases hw : ∃ (m : Nat) (x : AO), l[m]? = some x ∧ x.dst = some t
    · obtain ⟨m, x, hx1, hx2⟩ := hw
      rcases d.rd m i x ao t hx1 hao hx2 ht with hbit | hbit
      · have hlt := before_lt d.down ho hbit
        have hXm : X m = true := before_sub (X := fun k => X k = true) d.down hc i m o ho hpre hbit
        rw [e1 m x hXm hx1 hx2, g1 m x hlt hx1 hx2]
      · -- it is written behind this operation alone
        obtain ⟨om, hom⟩ : ∃ om, ops[m]? = some om := ⟨_, Array.getElem?_eq_getElem (by rw [← d.len]; exact (List.getElem?_eq_some_iff.1 hx1).1)⟩
        have hlt := before_lt d.down hom hbit
        have only : ∀ (k : Nat) (y : AO), l[k]? = some y → y.dst = some t → k = m := fun k y h1 h2 => d.dst k m y x t h1 hx1 h2 hx2
        have hXm : X m = false := by
          cases hx : X m with
          | false => rfl
          | true =>
            have := before_sub (X := fun k => X k = true) d.down hc m i om hom (hc m om hom hx) hbit
            rw [hi] at this; cases this
        have b1 : E.get t = (f 0).env.get t := e2 fun k y hk h1 h2 => by
          have := only k y h1 h2
          subst this
          rw [hXm] at hk
          cases hk
        have b2 : (f i).env.get t = (f 0).env.get t := g2 fun k y hk h1 h2 => by
          have := only k y h1 h2
          omega
        rw [b1, b2]
    · rw [e2 fun m x _ h1 h2 => hw ⟨m, x, h1, h2⟩, g2 fun m x _ h1 h2 => hw ⟨m, x, h1, h2⟩]
  refine replay hS hT hl c3 c1 c2 (d.calm i ao hao) (d.step i ao hao) hbase hF' henv (fun hr b hb => ?_) (fun hr => ⟨fun b => ?_, fun b k hk => ?_⟩) (fun b h1 h2 => ?_) (Q := Q) ?_
  · rw [hH b]
    refine d.finds hl hc ho hil hi hpre fun m hml hne u1 u2 => ?_
    obtain ⟨o', ao', ho', hao'⟩ := d.at hml
    cases ht : tauB T l f m b with
    | false => rfl
    | true =>
      obtain ⟨p1, p2, p3⟩ := d.apart hl hao' hao hne u1 u2 ht
      rcases hb with ⟨hw, hb⟩ | ⟨τ, hτ, hb⟩
      · exact absurd (by rw [hti]; exact hb) (p3 hw)
      · unfold tauB at p1
        rw [hti, hτ] at p1
        simp [hb] at p1
  · rw [hH b]
    refine d.finds hl hc ho hil hi hpre fun m hml hne u1 u2 => ?_
    obtain ⟨o', ao', ho', hao'⟩ := d.at hml
    cases ht : tauB T l f m b with
    | false => rfl
    | true => have := (d.apart hl hao' hao hne u1 u2 ht).2.1; rw [hti, hr] at this; cases this
  · exact (d.made_next hl hc ho hil hi hpre (by rw [hti]; exact hr)).1 (hm b k hk)
  · cases hk : ι b with
    | none => rfl
    | some k =>
      exfalso
      rcases hm b k hk with h | ⟨m, g1, g2, g3, g4⟩
      · have := d.len_mono hl (Nat.zero_le i) (by omega); omega
      · have hne : m ≠ i := fun e => by subst e; rw [hi] at g2; cases g2
        by_cases e : m < i
        · have := d.len_mono hl (show m + 1 ≤ i by omega) (by omega); omega
        · have := d.len_mono hl (show i + 1 ≤ m by omega) (by omega); omega
  · rintro a' w' ⟨D', ι', H', v, q1, q2, q3, q4, q5, q6, q7⟩
    refine hK a' w' ⟨D', ι', putE ao.dst v E, H', by rw [hsame] at q2; exact q2, hx.trans q3, fun b k h => q4 b k (hi0 b k h), fun t => ?_, fun b => ?_, fun b k hk => ?_⟩
    · obtain ⟨e1, e2⟩ := hE t
      have self : ao.dst = some t → (putE ao.dst v E).get t = (f (i + 1)).env.get t := fun h => by
        rw [q1, h]
        simp [putE, Env.get]
      have other : ao.dst ≠ some t → (putE ao.dst v E).get t = E.get t := fun h => by
        cases hd : ao.dst with
        | none => rfl
        | some d' =>
          simp only [putE, Env.get]
          rw [if_neg (fun e => h (by rw [hd, e]))]
      refine ⟨fun m x hm hx1 hx2 => ?_, fun h => ?_⟩
      · by_cases e : m = i
        · subst e
          rw [hao] at hx1; cases hx1
          exact self hx2
        · have hne : ao.dst ≠ some t := fun h => e (d.dst m i x ao t hx1 hao hx2 h)
          rw [other hne, e1 m x (by rw [← hYX m e]; exact hm) hx1 hx2]
      · rw [other (h i ao hY hao), e2 fun m x hm hx1 => by
          by_cases e : m = i
          · subst e; rw [hi] at hm; cases hm
          · exact h m x (by rw [hYX m e]; exact hm) hx1]
    · rw [d.leaves hl hc (b := b) ho hil hi hpre hY hYX]
      split
      · rename_i ht
        refine q5 b fun τ hτ => ?_
        unfold tauB at ht
        rw [hti, hτ] at ht
        simpa using ht
      · rename_i ht
        rw [← hH b]
        unfold tauB at ht
        rw [hti] at ht
        cases hτ : (tch1 T ao (f i) (f (i + 1))).tau with
        | none => rw [hτ] at ht; simp at ht
        | some τ => rw [hτ] at ht; exact q6 b τ hτ (by simpa using ht)
    · rcases q7 b k hk with h | ⟨h1, h2⟩ | ⟨h1, h2⟩
      · rcases hm b k h with h | ⟨m, g1, g2, g3⟩
        · exact .inl h
        · exact .inr ⟨m, g1, by rw [hYX m (fun e => by subst e; rw [hi] at g2; cases g2)]; exact g2, g3⟩
      · exact .inr ⟨i, hil, hY, h1, h2⟩
      · rcases (d.made_next hl hc ho hil hi hpre (by rw [hti]; exact h1)).2 h2 with h | ⟨m, g1, g2, g3⟩
        · exact .inl h
        · exact .inr ⟨m, g1, by rw [hYX m (fun e => by subst e; rw [hi] at g2; cases g2)]; exact g2, g3⟩

end
end Go.Abs
end

section
/- A region that draws its order: sound. Conditions: none. -/
namespace Go.Abs

section
variable {P : Program} {T : Tab} {S : Sems} {ops : Array Oper} {l : List AO} {f : Nat → ASt} {w w' : World} {D D' : Nat → Prop} {ι ι' : Nat → Option Nat} {a a' : Act} {r : Option Nat} {st st' : ASt}

theorem countP_less {p q : Nat → Bool} : ∀ {l : List Nat}, (∀ x ∈ l, q x = true → p x = true) → (∃ x ∈ l, p x = true ∧ q x = false) → l.countP q < l.countP p
  | [], _, h => by obtain ⟨x, hx, _⟩ := h; cases hx
  | y :: l, h, ⟨x, hx, h1, h2⟩ => by
    have mono : l.countP q ≤ l.countP p := List.countP_mono_left fun x hx => h x (by simp [hx])
    rw [List.countP_cons, List.countP_cons]
    rcases List.mem_cons.1 hx with rfl | hx
    · rw [h1, h2]; simp; omega
    · have ih := countP_less (fun z hz => h z (by simp [hz])) ⟨x, hx, h1, h2⟩
      have hy := h y (by simp)
      cases hq : q y with
      | true => rw [hy hq]; simp; omega
      | false => simp; omega

def left (ops : Array Oper) (listed : Array Bool) : Nat := (List.range ops.size).countP fun i => !listed.getD i false

theorem ready_none (hdown : ∀ (i : Nat) (o : Oper), ops[i]? = some o → ∀ e ∈ o.after, Region.binds .any e = true → e.on < i) {listed : Array Bool} (hs : listed.size = ops.size) (h : Region.ready .any ops listed = []) : ∀ i, i < ops.size → listed.getD i false = true := by
  intro i
  induction i using Nat.strongRecOn with
  | _ i ih =>
    intro hi
    cases hx : listed.getD i false with
    | true => rfl
    | false =>
      exfalso
      obtain ⟨o, ho⟩ : ∃ o, ops[i]? = some o := ⟨_, Array.getElem?_eq_getElem hi⟩
      have : i ∈ Region.ready .any ops listed := mem_ready.2 ⟨by
        have hlt : i < listed.size := by omega
        simp only [Array.getD_eq_getD_getElem?, Array.getElem?_eq_getElem hlt, Option.getD_some] at hx ⊢
        exact hx, o, ho, fun e he hbd => ih e.on (hdown i o ho e he hbd) (by have := hdown i o ho e he hbd; omega)⟩
      rw [h] at this
      cases this

theorem left_zero {listed : Array Bool} (h : left ops listed = 0) : ∀ i, i < ops.size → listed.getD i false = true := by
  intro i hi
  unfold left at h
  rw [List.countP_eq_zero] at h
  have := h i (List.mem_range.2 hi)
  simpa using this

theorem Dr.any (d : Dr P T S ops l f) (hS : SemsOK P T S) (hT : TabOK P T) (hl : SLen S) {w0 : World} {D0 : Nat → Prop} {ι0 : Nat → Option Nat} {Q : Exit → Act → World → Prop}
    (hQ : ∀ X a w, (∀ m, m < l.length → X m = true) → Inv P T l f r w0 D0 ι0 X a w → Q .normal a w) : ∀ (fuel : Nat) (listed : Array Bool) (a : Act) (w : World), listed.size = ops.size → left ops listed ≤ fuel → Shut1 ops (fun i => listed.getD i false) → Inv P T l f r w0 D0 ι0 (fun i => listed.getD i false) a w →
      wpAnyIn (Fw r) 0 P .any ops Q fuel listed a w := by
  intro fuel
  have fin : ∀ {listed : Array Bool} {a : Act} {w : World}, (∀ i, i < ops.size → listed.getD i false = true) → Inv P T l f r w0 D0 ι0 (fun i => listed.getD i false) a w → Q .normal a w := fun h hI => hQ _ _ _ (fun m hm => h m (by rw [← d.len]; exact hm)) hI
  induction fuel with
  | zero =>
    intro listed a w hs hle hc hI
    have hall := left_zero (listed := listed) (ops := ops) (by omega)
    refine ⟨?_, fin hall hI⟩
    rw [List.eq_nil_iff_forall_not_mem]
    intro i hi
    obtain ⟨h0, o, ho, _⟩ := mem_ready.1 hi
    have hlt := (Array.getElem?_eq_some_iff.1 ho).1
    have := hall i hlt
    have hlt' : i < listed.size := by omega
    simp only [Array.getD_eq_getD_getElem?, Array.getElem?_eq_getElem hlt', Option.getD_some] at this h0
    rw [this] at h0; cases h0
  | succ fuel ih =>
    intro listed a w hs hle hc hI
    refine ⟨fun h => fin (ready_none d.down hs h) hI, fun i hi => ?_⟩
    obtain ⟨h0, o, ho, hpre⟩ := mem_ready.1 hi
    have hlt := (Array.getElem?_eq_some_iff.1 ho).1
    have hlt' : i < listed.size := by omega
    have hi0 : listed.getD i false = false := by
      simp only [Array.getD_eq_getD_getElem?, Array.getElem?_eq_getElem hlt', Option.getD_some] at h0 ⊢
      exact h0
    have hpre' : ∀ e ∈ o.after, Region.binds .any e = true → listed.getD e.on false = true := fun e he hbd => hpre e he hbd
    have hY : (listed.setIfInBounds i true).getD i false = true := by simp [Array.getD_eq_getD_getElem?, hlt']
    have hYX : ∀ m, m ≠ i → (listed.setIfInBounds i true).getD m false = listed.getD m false := fun m hm => getD_set_ne false (Ne.symm hm)
    refine d.next hS hT hl (X := fun i => listed.getD i false) (Y := fun m => (listed.setIfInBounds i true).getD m false) hc ho hi0 hpre' hY hYX hI fun a' w' hI' => ?_
    refine ih _ a' w' (by simpa using hs) ?_ ?_ hI'
    · have : left ops (listed.setIfInBounds i true) < left ops listed := by
        refine countP_less (fun x _ hq => ?_) ⟨i, List.mem_range.2 hlt, by rw [hi0]; rfl, by rw [hY]; rfl⟩
        by_cases e : x = i
        · subst e; rw [hi0]; rfl
        · rw [hYX x e] at hq; exact hq
      omega
    · intro j oj hj hx e he hbd
      by_cases hji : j = i
      · subst hji
        rw [ho] at hj; cases hj
        exact getD_set_true (hpre' e he hbd)
      · simp only [hYX j hji] at hx
        exact getD_set_true (hc j oj hj hx e he hbd)

theorem hDr_ok (hS : SemsOK P T S) (hT : TabOK P T) (hl : SLen S) {l : List AO} {inc : List (Nat × Nat)} {e : AExit} (h : code T S (.ops l (some inc)) st = some (e, st')) : CTold P T (.ops l (some inc)) st e st' := by
  intro cd hcd w D ι a r hF
  obtain ⟨id, ops, draw, rfl, hcl, hd⟩ := comp_ops hcd
  cases draw with
  | false => simp at hd
  | true =>
    simp only [if_true, Option.some.injEq] at hd
    obtain ⟨hdraw, hinc⟩ := hd
    obtain ⟨c1, c2⟩ := compL_get hcl
    simp only [code] at h
    cases hs : runOps T S l st with
    | none => rw [hs] at h; cases h
    | some s =>
      rw [hs] at h
      cases s with
      | out e1 st1 => simp at h
      | next st1 =>
        simp only at h
        split at h
        · rename_i hlo
          simp only [Option.some.injEq, Prod.mk.injEq] at h
          obtain ⟨rfl, rfl⟩ := h
          obtain ⟨f, f0, f1, f2, f3⟩ := run_seq hs
          simp only [drawOk, Bool.and_eq_true, List.all_eq_true] at hdraw
          obtain ⟨⟨hdep, hdown⟩, hdr⟩ := hdraw
          have hdown' : ∀ (i : Nat) (o : Oper), ops[i]? = some o → ∀ e ∈ o.after, Region.binds .any e = true → e.on < i := fun i o ho e he hbd => by
            have := hdown (o, i) (List.mem_iff_getElem?.2 ⟨i, by simp [ho]⟩)
            simp only [Array.all_eq_true_iff_forall_mem, Bool.or_eq_true, Bool.not_eq_true', decide_eq_true_eq] at this
            exact (this e he).resolve_left (by rw [hbd]; simp)
          have hpair : ∀ (i j : Nat) (x y : AO), l[i]? = some x → l[j]? = some y → ∀ t, x.dst = some t → (i = j ∨ y.dst ≠ some t) ∧ ((((Region.before ops).getD j 0).testBit i = true ∨ ((Region.before ops).getD i 0).testBit j = true) ∨ ((∀ u ∈ y.op.opds, u ≠ .t t) ∧ ∀ b, y.guard ≠ some (t, b))) := fun i j x y hx hy t ht => by
            have hopd : y.op.erase.opds = y.op.opds := by cases y.op <;> rfl
            have := hdr ({ y with op := y.op.erase }, j) (List.mem_iff_getElem?.2 ⟨j, by simp [hy]⟩) ({ x with op := x.op.erase }, i) (List.mem_iff_getElem?.2 ⟨i, by simp [hx]⟩)
            simp only [ht, hopd, Bool.and_eq_true, Bool.or_eq_true, beq_iff_eq, bne_iff_ne, Bool.not_eq_true', Bool.or_eq_false_iff, List.any_eq_false, ne_eq] at this
            refine ⟨this.1, this.2.imp (fun h => h) fun ⟨g1, g2⟩ => ⟨fun u hu he => ?_, fun b hb => ?_⟩⟩
            · subst he
              have := g1 _ hu
              simp at this
            · rw [hb] at g2
              simp at g2
          have hd : Dr P T S ops l f := by
            simp only [looseOk, Bool.and_eq_true, List.all_eq_true, Bool.or_eq_true] at hlo
            refine ⟨c1, c2, fun j ao hj => hlo.1 ao (List.mem_of_getElem? hj), hdown', fun i j x y t hx hy h1 h2 => ?_, fun i j x y t hx hy h1 h2 => ?_, f2, by rw [f0]; exact hF.base, fun i j x y hx hy hne he hw h1 h2 => ?_⟩
            · exact (hpair i j x y hx hy t h1).1.resolve_right fun h => h h2
            · refine (hpair i j x y hx hy t h1).2.resolve_right fun ⟨g1, g2⟩ => ?_
              rcases h2 with h | ⟨b, h⟩
              · exact g1 _ h rfl
              · exact g2 b h
            · have hm : (i, j) ∈ inc := by
                rw [hinc]
                refine loose_mem (x := { x with op := x.op.erase }) (y := { y with op := y.op.erase }) (by simp [hx]) (by simp [hy]) hne ?_ ?_ h1 h2
                · rw [← he]; cases x.op <;> rfl
                · rw [← hw]; cases y.op <;> rfl
              rcases hlo.2 with h | h
              · rw [List.isEmpty_iff] at h; rw [h] at hm; cases hm
              · have := h (i, j) hm
                simp only [f3 i x hx, f3 j y hy] at this
                split at this
                · rename_i a p q c d' r hp hq
                  simp only [Option.some.injEq] at hp hq
                  rw [hp, hq]
                  refine ⟨a, rfl, ?_⟩
                  simp only [Bool.or_eq_true, List.isEmpty_iff, Bool.and_eq_true, Bool.not_eq_true', List.all_eq_true, List.contains_eq_mem, decide_eq_false_iff_not] at this
                  exact this
                · cases this
          refine wpIn_region_draw fun t => ?_
          simp only [Region.schedule, hdep, if_true]
          refine wpAnyIn_sound ops.size t _ a _ (hd.any hS hT hl (r := r) (w0 := w) (D0 := D) (ι0 := ι) ?_ ops.size _ a _ (by simp) ?_ ?_ ?_)
          · rintro X a' w' hX ⟨D', ι', E, H, g1, g2, g3, g4, g5, g6⟩
            have hsame := hd.same hl (Nat.le_refl l.length)
            rw [f1] at hsame
            have hag : ∀ b k, ι' b = some k → lv st1.H[b]? = lv H[b]? := fun b k _ => by rw [g5 b, hd.cont_all hl hX _ (Nat.le_refl _), f1]
            have hdom : ∀ b k, ι' b = some k → b < st1.H.length := fun b k hk => by
              rw [← f1]
              rcases g6 b k hk with h | ⟨m, h1, h2, h3, h4⟩
              · exact Nat.lt_of_lt_of_le h (hd.len_mono hl (Nat.zero_le _) (Nat.le_refl _))
              · exact Nat.lt_of_lt_of_le h4 (hd.len_mono hl (by omega) (Nat.le_refl _))
            have henv : ∀ t, E.get t = st1.env.get t := fun t => by
              obtain ⟨e1, e2⟩ := g4 t
              obtain ⟨k1, k2⟩ := hd.env hl (Nat.le_refl l.length) t
              rw [f1] at k1 k2
              by_cases hw : ∃ (m : Nat) (x : AO), l[m]? = some x ∧ x.dst = some t
              · obtain ⟨m, x, hx1, hx2⟩ := hw
                have hm := (List.getElem?_eq_some_iff.1 hx1).1
                rw [e1 m x (hX m hm) hx1 hx2, k1 m x hm hx1 hx2]
              · rw [e2 fun m x _ h1 h2 => hw ⟨m, x, h1, h2⟩, k2 fun m x _ h1 h2 => hw ⟨m, x, h1, h2⟩]
            have hbase : st1.base ≤ st1.H.length := by
              have h1 := hd.len_mono hl (Nat.zero_le l.length) (Nat.le_refl _)
              rw [f1] at h1
              have h2 : st1.base = (f 0).base := by rw [hsame]
              have h3 := hd.base
              omega
            have e0 : st1.nt = st.nt ∧ st1.ro = st.ro ∧ st1.base = st.base := by rw [hsame, f0]; exact ⟨rfl, rfl, rfl⟩
            refine ⟨D', ι', trivial, ?_, ?_, fun b k _ hk => g3 b k hk, e0.2.2, e0.1, e0.2.1⟩
            · have : FRel P T { f 0 with env := st1.env, H := st1.H } D' ι' a' w' r :=
                ⟨⟨g1.s.h.agree hag hdom, g1.s.nt, fun t v ht => g1.s.env t v (by show E.get t = some v; rw [henv t]; exact ht), g1.s.gl⟩, g1.d, by
                  show (f 0).base ≤ st1.H.length
                  have h2 : st1.base = (f 0).base := by rw [hsame]
                  omega, g1.ro⟩
              rw [hsame]; exact this
            · rw [f0] at g2
              rw [Live.agree hag]; exact g2
          · unfold left
            exact Nat.le_trans List.countP_le_length (by simp)
          · intro i o ho hx
            exfalso
            have hlt := (Array.getElem?_eq_some_iff.1 ho).1
            simp [Array.getD_eq_getD_getElem?, hlt] at hx
          · have hno : ∀ m : Nat, ¬ (Array.replicate ops.size false).getD m false = true := fun m hx => by
              simp only [Array.getD_eq_getD_getElem?, Array.getElem?_replicate] at hx
              split at hx <;> simp at hx
            have hdr : Ext w D (Live ι st.H) { w with drawn := w.drawn + 1 } D (Live ι st.H) := Ext.drawn w D (Live ι st.H) _
            have hF1 := hF.change hdr (fun _ _ h => h) (hF.s.h.drawn (w.drawn + 1)) hF.base
            refine ⟨D, ι, st.env, st.H, by rw [f0]; exact hF1, by rw [f0]; exact hdr, fun _ _ h => h, fun t => ⟨fun m o hm => absurd hm (hno m), fun _ => by rw [f0]⟩, fun b => ?_, fun b k hk => .inl (by rw [f0]; exact hF.s.h.dom b k hk)⟩
            have : ∀ n, cont T l f (fun i => (Array.replicate ops.size false).getD i false) n b = lv st.H[b]? := by
              intro n
              induction n with
              | zero => simp only [cont, f0]
              | succ n ih =>
                simp only [cont]
                rw [if_neg, ih]
                rw [Bool.and_eq_true]
                exact fun h => hno n h.1
            exact (this _).symm
        · cases h

end
end Go.Abs
end

section
/- Deferred calls, and how a frame leaves. Conditions: none. -/
namespace Go.Abs

section
variable {P : Program} {T : Tab} {S : Sems} {w w' : World} {D D' : Nat → Prop} {ι ι' : Nat → Option Nat} {H H' : List AB} {st st' st1 : ASt} {a a' : Act} {r : Option Nat}

/-- What is asked of the table, its functions' bodies. -/
def FnOK (P : Program) (T : Tab) : Prop := ∀ f F, T.fn f = some F → ∃ (fn : Func) (c : Code), P.funcs[f]? = some fn ∧ fn.body = some c ∧ fn.ntmps = F.nt ∧ comp P c = some F.body.erase ∧ ResOK P fn.results.toList F.res

/-- The temporaries of a call that is entered. -/
theorem enter_env {xs : List AV} {args : Array Value} {nt : Nat} (hx : VRels w D ι xs args) : EnvRel w D ι ((List.range xs.length).zip xs) (args ++ Array.replicate (nt - args.size) undef) := by
  intro t v h
  obtain ⟨j, h1, h2, _⟩ := env_get_zip h
  rw [List.getElem?_range (List.getElem?_eq_some_iff.1 h2).1] at h1
  obtain rfl : j = t := by simpa using h1
  have hlt : j < args.size := by rw [hx.1]; exact (List.getElem?_eq_some_iff.1 h2).1
  exact ⟨args[j], by rw [Array.getElem?_append_left hlt, Array.getElem?_eq_getElem hlt], hx.2 j v _ h2 (Array.getElem?_eq_getElem hlt)⟩

theorem enter_frame {xs : List AV} {args : Array Value} {nt : Nat} (hh : HRel P w D ι H) (hg : GL T w D) (hx : VRels w D ι xs args) (hle : xs.length ≤ nt) : FRel P T ⟨(List.range xs.length).zip xs, H, [], H.length, nt, none⟩ D ι { tmps := args ++ Array.replicate (nt - args.size) undef, defers := [] } w none :=
  ⟨⟨hh, by have := hx.1; simp; omega, enter_env hx, hg⟩, trivial, Nat.le_refl _, rfl⟩

/-- The mode of a frame that leaves. -/
def modeOf (ch : Option Value) : FrameMode := match ch with
  | none => .returning
  | some v => .panicking [{ v := v, recovered := false }]

def modeTo (ch : Option Value) : FrameMode := match ch with
  | none => .returning
  | some v => .panicking [{ v := v, recovered := true }]

theorem settle_to (ch : Option Value) : settle (modeTo ch) = .returning := by cases ch <;> rfl

def chRel (w : World) (D : Nat → Prop) (ι : Nat → Option Nat) : Option AV → Option Value → Prop
  | none, none => True
  | some v, some x => VRel w D ι v x
  | _, _ => False

theorem comp_seq_inv {c : Code} {x y : AC} (h : comp P c = some (.seq x y)) : ∃ p q, c = .seq p q ∧ comp P p = some x ∧ comp P q = some y := comp_seq h

/-- A deferred call of a function that begins with recover. -/
theorem dcall_ok (hS : SemsOK P T S) (hT : TabOK P T) (hFn : FnOK P T) (hcode : ∀ c st e st', code T S c st = some (e, st') → CTold P T c st e st') {k : Nat} {xs : List AV} {ch : Option AV} (h : dcall T S k xs H ch = some H') (hh : HRel P w D ι H) (hg : GL T w D) {args : Array Value} (hx : VRels w D ι xs args) {x : Option Value} (hch : chRel w D ι ch x) :
    CallsDIn Fence.wide 0 P k args (modeOf x) w fun e u w' => ∃ D' ι' v, e = .returned v ∧ u = modeTo x ∧ HRel P w' D' ι' H' ∧ Ext w D (Live ι H) w' D' (Live ι' H') ∧ (∀ b k, ι b = some k → ι' b = some k) ∧ H.length ≤ H'.length := by
  unfold dcall at h
  split at h
  · rename_i nt d l rest hfn
    split at h
    · rename_i hcond
      obtain ⟨fn, c, h1, h2, h3, h4, h5⟩ := hFn _ _ hfn
      simp only at h3 h5
      have hres : fn.results.toList = [] := by
        cases hr : fn.results.toList with
        | nil => rfl
        | cons q qs => rw [hr] at h5; cases q <;> exact h5.elim
      obtain ⟨p, q, rfl, hp, hq⟩ := comp_seq (show comp P c = some (.seq (AC.ops (⟨some d, none, .rcv⟩ :: l) none).erase rest.erase) from h4)
      obtain ⟨id, ops, draw, rfl, hl, hd⟩ := comp_ops hp
      have hdraw : draw = false := by cases draw with
        | false => rfl
        | true => simp at hd
      subst hdraw
      obtain ⟨c1, c2⟩ := compL_get hl
      have hsz : 0 < ops.size := by rw [← c1]; simp
      obtain ⟨g1, g2, g3⟩ := c2 0 ops[0] _ (Array.getElem?_eq_getElem hsz) rfl
      -- the first operation is recover
      have hrcv : ∃ cl, ops[0].op = .call cl ∧ cl.callee = .builtin .recover := by
        have hc := g2
        simp only [AOp.erase] at hc
        by_cases h1 : ∃ c, ops[0].op = .call c
        · obtain ⟨cl, hoc⟩ := h1
          refine ⟨cl, hoc, ?_⟩
          have hcc : compCall P cl = some AOp.rcv := by
            have := hc
            unfold compOp at this
            rw [hoc] at this
            exact this
          cases hcal : cl.callee with
          | value f0 =>
            unfold compCall at hcc; rw [hcal] at hcc
            simp only [Option.bind_eq_some_iff, Option.map_eq_some_iff] at hcc
            obtain ⟨_, _, _, _, he⟩ := hcc
            cases he
          | invoke r0 m =>
            unfold compCall at hcc; rw [hcal] at hcc
            simp only [Option.bind_eq_some_iff, Option.map_eq_some_iff] at hcc
            obtain ⟨_, _, _, _, he⟩ := hcc
            cases he
          | builtin b =>
            by_cases hb : b = .recover
            · rw [hb]
            · have := compCall_tame hcal hb hcc
              simp [AOp.tame] at this
        · exfalso
          by_cases h2 : ∃ c, ops[0].op = .defer c
          · obtain ⟨cl, hoc⟩ := h2
            unfold compOp at hc
            rw [hoc] at hc
            simp only at hc
            split at hc
            · simp only [Option.bind_eq_some_iff, Option.map_eq_some_iff] at hc
              obtain ⟨_, _, _, _, hc⟩ := hc
              cases hc
            · cases hc
          · by_cases h3 : ∃ x, ops[0].op = .panic x
            · obtain ⟨y, hoc⟩ := h3
              unfold compOp at hc
              rw [hoc] at hc
              simp only [Option.map_eq_some_iff] at hc
              obtain ⟨_, _, hc⟩ := hc
              cases hc
            · have := comp_tame hc (fun c h => h1 ⟨c, h⟩) (fun c h => h2 ⟨c, h⟩) (fun x h => h3 ⟨x, h⟩)
              simp [AOp.tame] at this
      obtain ⟨cl, ho, hcal⟩ := hrcv
      have hguard : ops[0].guard = none := by
        have := g1
        unfold compGuard at this
        split at this
        · assumption
        · simp only [Option.map_eq_some_iff] at this
          obtain ⟨_, _, this⟩ := this
          cases this
      have hdst : ops[0].dst = some d := g3.symm
      refine callsDIn_of_wpSIn h1 h2 trivial fun c₀ cs hu => ?_
      let a0 : Act := { tmps := args ++ Array.replicate (fn.ntmps - args.size) undef, defers := [] }
      have hF0 : FRel P T ⟨(List.range xs.length).zip xs, H, [], H.length, nt, none⟩ D ι a0 w none := by
        have := enter_frame (P := P) (T := T) (nt := nt) hh hg hx hcond.1
        rw [← h3] at this
        rw [h3] at this
        show FRel P T _ D ι { tmps := args ++ Array.replicate (fn.ntmps - args.size) undef, defers := [] } w none
        rw [h3]; exact this
      -- what recover hands over
      have hrecv : ∃ y : Value, VRel w D ι (ch.getD .nili) y ∧ (match recoverD (c₀ :: cs) with
          | some (v, cs') => y = v ∧ cs' = { c₀ with mode := modeTo x } :: cs
          | none => y = .nilIface ∧ { c₀ with mode := modeTo x } = c₀) := by
        cases ch with
        | none =>
          cases x with
          | some x => exact hch.elim
          | none =>
            refine ⟨.nilIface, .nili, ?_⟩
            simp only [recoverD, hu, modeOf, modeTo]
            refine ⟨trivial, ?_⟩
            show ({ c₀ with mode := FrameMode.returning } : Frame) = c₀
            rw [show FrameMode.returning = c₀.mode from hu.symm]
        | some v =>
          cases x with
          | none => exact hch.elim
          | some x =>
            refine ⟨x, hch, ?_⟩
            simp only [recoverD, hu, modeOf, modeTo]
            exact ⟨trivial, trivial⟩
      obtain ⟨y, hy, hrec⟩ := hrecv
      have hF1 : FRel P T ⟨(d, ch.getD .nili) :: (List.range xs.length).zip xs, H, [], H.length, nt, none⟩ D ι (a0.put (some d) y) w none :=
        hF0.put hy (by simp [ASt.put, hcond.2])
      simp only [code] at h
      cases hrun : runOps T S l ⟨(d, ch.getD .nili) :: (List.range xs.length).zip xs, H, [], H.length, nt, none⟩ with
      | none => rw [hrun] at h; cases h
      | some s =>
        rw [hrun] at h
        cases s with
        | out e s1 =>
          exfalso
          simp only at h
          cases e with
          | panic v => simp at h
          | normal => exact absurd hrun (runOps_out (by simp))
          | ret => exact absurd hrun (runOps_out (by simp))
          | exit id => exact absurd hrun (runOps_out (by simp))
        | next s1 =>
          simp only at h
          -- the rest of the region
          have hops : wpOpsIn (Fw none) 0 P ops (fun e a' w' => e = .normal ∧ SPost P T w D ι ⟨(d, ch.getD .nili) :: (List.range xs.length).zip xs, H, [], H.length, nt, none⟩ none s1 a' w') (List.range' 1 l.length) (a0.put (some d) y) w := by
            refine ops_ok hS hT l 1 (by rw [← c1]; simp; omega) (fun j o ao hj ha => c2 (1 + j) o ao hj (by rw [Nat.add_comm]; simpa using ha)) hF1 hrun ?_
            exact fun a' w' hp => ⟨rfl, hp⟩
          have hrange : List.range ops.size = 0 :: List.range' 1 l.length := by
            rw [List.range_eq_range', ← c1, List.length_cons, List.range'_succ]
          refine wpSIn_seq ?_
          -- the region
          intro b kk hb hro hFf hroom
          have hcs : ∀ cs' : List Frame, cs'.length = (c₀ :: cs).length → Fence.wide.room (cs'.length + 1 + 0) := fun cs' h => by rw [h]; exact hroom
          obtain ⟨cs1, hcs1, hlen1, hstep⟩ : ∃ cs1, cs1 = { c₀ with mode := modeTo x } :: cs ∧ cs1.length = (c₀ :: cs).length ∧ StepsIn (Machine.fenced P Fence.wide) P (lone (b.atR a0 (.code (.region id ops false) :: kk)) (c₀ :: cs) w) (lone (b.atR (a0.put (some d) y) (.inRegion ops (List.range' 1 l.length) :: kk)) cs1 w) := by
            refine ⟨_, rfl, rfl, ?_⟩
            have i0 : (lone (b.atR a0 (.code (.region id ops false) :: kk)) (c₀ :: cs) w).fenced P Fence.wide := fenced_wide P _
            refine StepsIn.trans (.one i0 stepR_region) ?_
            rw [hrange]
            have i1 : (lone (b.atR a0 (.inRegion ops (0 :: List.range' 1 l.length) :: kk)) (c₀ :: cs) w).fenced P Fence.wide := fenced_wide P _
            refine .one i1 ?_
            have ho0 : ops[0]? = some ops[0] := Array.getElem?_eq_getElem hsz
            have hw : Region.wanted ops[0] (yielded ops a0.tmps) = true := by simp [Region.wanted, hguard]
            have hg := stepGR_op (P := P) (b := b) (k := kk) (cs := c₀ :: cs) (w := w) (rest := List.range' 1 l.length) ho0 hw
            rw [hro, Oper.semAt_none] at hg
            have hr : (execOp a0.eval ops[0]).run P w = .ok .recover w := by
              simp [execOp, ho, resolve, hcal]
              rfl
            have hk : (b.atR a0 (.inRegion ops (0 :: List.range' 1 l.length) :: kk)).kind = .deferred := hb
            have htr := tryRecover_deferred hk (c₀ :: cs)
            have hfin : ∀ v, (b.atR a0 (.inRegion ops (0 :: List.range' 1 l.length) :: kk)).finish v = b.atR (a0.put (some d) v) (.inRegion ops (List.range' 1 l.length) :: kk) := by
              intro v; rw [Frame.finish_atR, ho0]; simp [hdst]
            refine step_lone_go ?_
            rw [hg, ← hfin]
            simp only [Frame.atR, hro] at htr ⊢
            split at hrec
            · rename_i v cs' hrd
              obtain ⟨rfl, rfl⟩ := hrec
              simp [stepG.apply, hr, htr, hrd]
            · rename_i hrd
              obtain ⟨rfl, e2⟩ := hrec
              rw [e2]
              simp [stepG.apply, hr, htr, hrd]
          obtain ⟨e1, a1, w1, ⟨rfl, D1, ι1, f1, x1, x2, x3, x4, x5, x6⟩, harr⟩ := wp_opsIn _ _ w hops b kk cs1 hro trivial (by rw [hlen1]; exact hroom)
          refine ⟨.normal, a1, cs1, w1, hlen1, ?_, .of_steps hstep harr⟩
          -- the rest of the body
          subst hcs1
          have fin : ∀ (e : AExit) (st2 : ASt), code T S rest s1 = some (e, st2) → (e = .normal ∨ e = .ret) → st2.dfs = [] → st2.H = H' → Code.wpSIn Fence.wide 0 P q (bodyPostS P fn c₀ cs fun e u w' => ∃ D' ι' v, e = .returned v ∧ u = modeTo x ∧ HRel P w' D' ι' H' ∧ Ext w D (Live ι H) w' D' (Live ι' H') ∧ (∀ b k, ι b = some k → ι' b = some k) ∧ H.length ≤ H'.length) a1 ({ c₀ with mode := modeTo x } :: cs) w1 := fun e st2 hc2 he hd2 hH2 => by
            refine wpSIn_of_wpIn rfl ?_
            have hct : q.wpIn Fence.wide 0 P (CPost P T w1 D1 ι1 s1 none e st2) a1 w1 := hcode rest s1 e st2 hc2 q hq w1 D1 ι1 a1 none f1
            refine wpIn_mono hct ?_
            rintro e2 a2 w2 ⟨D2, ι2, y1, f2, y2, y3, y4, y5, y6⟩
            have hdf : a2.defers = [] := by have := f2.d; rw [hd2] at this; exact this.nil_inv
            have hr : (Go.results fn a2.tmps).run P w2 = .ok (.tuple #[]) w2 := by
              have hr0 : fn.results = #[] := by apply Array.ext'; simpa using hres
              unfold Go.results
              rw [hr0]
              simp
            have hpost : ∃ D' ι' v, Ending.returned (.tuple #[]) = .returned v ∧ modeTo x = modeTo x ∧ HRel P w2 D' ι' H' ∧ Ext w D (Live ι H) w2 D' (Live ι' H') ∧ (∀ b k, ι b = some k → ι' b = some k) ∧ H.length ≤ H'.length := by
              refine ⟨D2, ι2, _, rfl, rfl, hH2 ▸ f2.s.h, hH2 ▸ x1.trans y2, fun b k hb => y3 b k ?_ (x2 b k hb), ?_⟩
              · have := hh.dom b k hb
                rw [x3]; exact this
              · have := f2.base
                rw [y4, x3, hH2] at this
                exact this
            cases e2 with
            | normal => exact ⟨hdf, _, rfl, _, hr, hpost⟩
            | ret => exact ⟨hdf, _, rfl, _, hr, hpost⟩
            | exit i => rcases he with rfl | rfl <;> exact y1.elim
            | goto i => rcases he with rfl | rfl <;> exact y1.elim
            | panic c => rcases he with rfl | rfl <;> exact y1.elim
            | outgrown => rcases he with rfl | rfl <;> exact y1.elim
          split at h
          · rename_i st2 hc2
            split at h
            · rename_i he
              cases h
              exact fin _ _ hc2 (.inl rfl) (List.isEmpty_iff.1 he) rfl
            · cases h
          · rename_i st2 hc2
            split at h
            · rename_i he
              cases h
              exact fin _ _ hc2 (.inr rfl) (List.isEmpty_iff.1 he) rfl
            · cases h
          · cases h
    · cases h
  · cases h

end
end Go.Abs
end

section
/- A call is what the walk says of it: every run. Conditions: none. -/
namespace Go.Abs

section
variable {P : Program} {T : Tab} {S : Sems} {w w' : World} {D D' : Nat → Prop} {ι ι' : Nat → Option Nat} {H H' : List AB} {st st' st1 : ASt} {a a' : Act} {r : Option Nat}

theorem run_take {k : Nat} (h : w.heap[k]? = some (.deferred (some []))) : (Instr.takeDeferred k).run P w = .ok [] { w with heap := w.heap.setIfInBounds k (.deferred none) } := by
  have : (getObj k).run P w = .ok (.deferred (some [])) w := by simp [getObj, Sem.run, h]
  simp only [Instr.takeDeferred, Sem.run_bind, this, Result.andThen_ok]
  have h2 : (setObj k (.deferred none)).run P w = .ok () { w with heap := w.heap.setIfInBounds k (.deferred none) } := by simp [setObj, Sem.run, h]
  simp [h2]

/-- How a frame leaves. -/
theorem leave_ok (hS : SemsOK P T S) (hT : TabOK P T) (hFn : FnOK P T) (hcode : ∀ c st e st', code T S c st = some (e, st') → CTold P T c st e st') {F : AFun} {fn : Func} (hres : ResOK P fn.results.toList F.res) {w0 : World} {D0 : Nat → Prop} {ι0 : Nat → Option Nat} {H0 : List AB} {q : AEnd} :
    ∀ (ds : List ADf) (ch : Option AV) (st : ASt) (D : Nat → Prop) (ι : Nat → Option Nat) (a : Act) (w : World) (x : Option Value), leave T S F ds ch st = some (q, H') → FRel P T { st with dfs := ds } D ι a w none → chRel w D ι ch x → Ext w0 D0 (Live ι0 H0) w D (Live ι st.H) → (∀ b k, ι0 b = some k → ι b = some k) → H0.length ≤ st.H.length →
      LeavesInM Fence.wide 0 P fn a.tmps (CallPost P w0 D0 ι0 H0 q H') a.defers (modeOf x) w := by
  intro ds
  induction ds with
  | nil =>
    intro ch st D ι a w x h hF hch hx hi hlen
    have hd : a.defers = [] := by have := hF.d; exact this.nil_inv
    rw [hd]
    cases ch with
    | none =>
      cases x with
      | some x => exact hch.elim
      | none =>
        simp only [leave, Option.map_eq_some_iff, Prod.mk.injEq] at h
        obtain ⟨v, hv, rfl, rfl⟩ := h
        obtain ⟨y, y1, y2⟩ := results_ok (fn := fn) ⟨hF.s.h, hF.s.nt, hF.s.env, hF.s.gl⟩ hres hv
        exact ⟨y, y1, D, ι, y2, hF.s.h, hx, hi, hlen⟩
    | some v =>
      cases x with
      | none => exact hch.elim
      | some x =>
        simp only [leave, Option.some.injEq, Prod.mk.injEq] at h
        obtain ⟨rfl, rfl⟩ := h
        exact ⟨D, ι, ⟨x, rfl, hch⟩, hF.s.h, hx, hi, hlen⟩
  | cons d ds ih =>
    intro ch st D ι a w x h hF hch hx hi hlen
    have hrun : modeOf x ≠ .run := by cases x <;> simp [modeOf]
    have hdr := hF.d
    cases hd : a.defers with
    | nil => rw [hd] at hdr; cases d <;> exact hdr.elim
    | cons e es =>
      rw [hd] at hdr
      refine ⟨hrun, ?_⟩
      cases d with
      | mark b =>
        obtain ⟨⟨k, hk, he⟩, hds⟩ := hdr
        left
        simp only [leave] at h
        split at h
        · rename_i hb
          obtain ⟨_, hbr⟩ := hF.s.h.blk b _ k hb rfl hk
          have hblk : w.heap[k]? = some (.deferred (some [])) := hbr
          refine ⟨k, _, by rw [he], run_take hblk, ?_⟩
          have hnc : ∀ c e f, Obj.deferred none = .cells c e f → ∃ c' f', w.heap[k]? = some (.cells c' e f') ∧ c'.size = c.size := fun c e f h => by cases h
          have x1 := ext_upd (B := .dead) (n := w.drawn) (o' := .deferred none) hF.s.h hb rfl hk hnc
          have h1 := hrel_upd (n := w.drawn) (B := .dead) hF.s.h hb rfl hk hnc trivial
          have f1 := hF.change x1 (fun _ _ h => h) h1 (by rw [List.length_set]; exact hF.base)
          have f2 : FRel P T { ({ st with H := st.H.set b .dead } : ASt) with dfs := ds } D ι { a with defers := es } { w with heap := w.heap.setIfInBounds k (.deferred none) } none :=
            ⟨⟨f1.s.h, f1.s.nt, f1.s.env, f1.s.gl⟩, hds.mono (fun _ _ h => h) fun _ _ hv => hF.s.h.vrel x1 (fun _ _ h => h) hv, f1.base, f1.ro⟩
          refine ih ch { st with H := st.H.set b .dead } D ι { a with defers := es } _ x h f2 ?_ (hx.trans x1) hi (by rw [List.length_set]; exact hlen)
          cases ch with
          | none => cases x <;> exact hch
          | some v => cases x with
            | none => exact hch
            | some x => exact hF.s.h.vrel x1 (fun _ _ h => h) hch
        · cases h
      | call f xs =>
        obtain ⟨⟨cap, he, hxs⟩, hds⟩ := hdr
        right
        simp only [leave, Option.bind_eq_some_iff] at h
        obtain ⟨H1, hdc, h⟩ := h
        have hen : Enters P f := by
          unfold dcall at hdc
          split at hdc
          · rename_i hfn
            exact hT.fn _ _ hfn
          · cases hdc
        refine ⟨fun h => by simp [Fence.wide] at h, _, cap, f, e.args ++ cap, he, ?_, fun _ _ => trivial, ?_⟩
        · rw [he]
          simp only [Go.invoke]
          exact run_callFunc hen
        · have hdc' := dcall_ok hS hT hFn hcode hdc hF.s.h hF.s.gl hxs hch
          refine CallsDIn.mono hdc' ?_
          rintro e' u' w' ⟨D', ι', v, rfl, rfl, h1, x1, i1, l1⟩
          simp only [settle_to]
          have f1 := hF.change x1 i1 h1 (Nat.le_trans hF.base l1)
          have f2 : FRel P T { ({ st with H := H1 } : ASt) with dfs := ds } D' ι' { a with defers := es } w' none :=
            ⟨⟨f1.s.h, f1.s.nt, f1.s.env, f1.s.gl⟩, hds.mono i1 fun _ _ hv => hF.s.h.vrel x1 i1 hv, f1.base, f1.ro⟩
          exact ih none { st with H := H1 } D' ι' { a with defers := es } w' none h f2 trivial (hx.trans x1) (fun b k hb => i1 b k (hi b k hb)) (Nat.le_trans hlen l1)

/-- A call, with one more round of fuel. -/
theorem fcall_ok (hS : SemsOK P T S) (hT : TabOK P T) (hFn : FnOK P T) (hcode : ∀ c st e st', code T S c st = some (e, st') → CTold P T c st e st') {f : Nat} {xs : List AV} {q : AEnd} (h : call T S f xs H = some (q, H')) : Told P T f xs H q H' := by
  intro w D ι args hh hg hx
  unfold call at h
  split at h
  · cases h
  · rename_i F hF
    split at h
    · rename_i hle
      obtain ⟨fn, c, h1, h2, h3, h4, h5⟩ := hFn _ _ hF
      have fr := enter_frame (P := P) (T := T) (nt := F.nt) hh hg hx hle
      have go : ∀ (e : AExit) (st : ASt) (ch : Option AV), code T S F.body ⟨(List.range xs.length).zip xs, H, [], H.length, F.nt, none⟩ = some (e, st) → leave T S F st.dfs ch st = some (q, H') →
          (∀ e' w' D' ι', XRel w' D' ι' e e' → ((e' = .normal ∨ e' = .ret) ∧ ch = none) ∨ ∃ x v, e' = .panic [{ v := x, recovered := false }] ∧ ch = some v ∧ VRel w' D' ι' v x) → CallsIn Fence.wide 0 P f args w (CallPost P w D ι H q H') := fun e st ch hc hl hex => by
        refine callsIn_of_wp_marks h1 h2 trivial ?_
        rw [h3]
        have hct : c.wpIn Fence.wide 0 P (CPost P T w D ι ⟨(List.range xs.length).zip xs, H, [], H.length, F.nt, none⟩ none e st) { tmps := args ++ Array.replicate (F.nt - args.size) undef, defers := [] } w := hcode _ _ _ _ hc c h4 w D ι _ none fr
        refine wpIn_mono hct ?_
        rintro e' a' w' ⟨D', ι', y1, y2, y3, y4, y5, y6, y7⟩
        have hi : ∀ b k, ι b = some k → ι' b = some k := fun b k hb => y4 b k (hh.dom b k hb) hb
        have hlen : H.length ≤ st.H.length := by have := y2.base; rw [y5] at this; exact this
        have hst : FRel P T { st with dfs := st.dfs } D' ι' a' w' none := y2
        rcases hex e' w' D' ι' y1 with ⟨he, rfl⟩ | ⟨x, v, rfl, rfl, hv⟩
        · have := leave_ok hS hT hFn hcode h5 st.dfs none st D' ι' a' w' none hl hst trivial y3 hi hlen
          rcases he with rfl | rfl <;> exact this
        · exact leave_ok hS hT hFn hcode h5 st.dfs (some v) st D' ι' a' w' (some x) hl hst hv y3 hi hlen
      split at h
      · rename_i st hc
        exact go _ _ _ hc h fun e' w' D' ι' hx => by cases e' <;> first | exact .inl ⟨.inl rfl, rfl⟩ | exact hx.elim
      · rename_i st hc
        exact go _ _ _ hc h fun e' w' D' ι' hx => by cases e' <;> first | exact .inl ⟨.inr rfl, rfl⟩ | exact hx.elim
      · rename_i v st hc
        refine go _ _ _ hc h fun e' w' D' ι' hx => ?_
        cases e' <;> first | exact hx.elim | skip
        obtain ⟨x, rfl, hv⟩ := hx
        exact .inr ⟨x, v, rfl, rfl, hv⟩
      · cases h
    · cases h

/-- All that is asked of a run. -/
structure RunOK (P : Program) (T : Tab) (S : Sems) : Prop where
  ok : SemsOK P T S
  len : SLen S
  loop : ∀ b st e st', S.code (.loop b) st = some (e, st') → LTold P T b st e st'

theorem sems_ok (hT : TabOK P T) (hFn : FnOK P T) : ∀ n, RunOK P T (sems T n)
  | 0 => ⟨⟨fun _ _ _ _ h => (by cases h), fun _ _ _ _ _ h => (by cases h), fun _ _ _ _ h => (by cases h)⟩, sems_len T 0, fun _ _ _ _ h => (by cases h)⟩
  | n + 1 => by
    obtain ⟨hS, hl, hL⟩ := sems_ok hT hFn n
    have all := code_all hS hT hL (fun l inc st e st' h => hDr_ok hS hT hl h) (fun f ps x y st e st' h => rng_ok hS h)
    have hcode : ∀ c st e st', code T (sems T n) c st = some (e, st') → CTold P T c st e st' := fun c st e st' h => (all c st e st' h).1
    refine ⟨⟨fun f xs H q h => ?_, fun f xs H r H' h => fcall_ok hS hT hFn hcode h, hcode⟩, sems_len T (n + 1), fun b st e st' h => (all (.loop b) st e st' h).2 b rfl⟩
    have h' : call T (sems T n) f xs H = some q := h
    unfold call at h'
    split at h'
    · cases h'
    · rename_i F hF
      exact hT.fn _ _ hF

/-- A run of the walk's own code, from a memory of its own: what the machine comes to. -/
theorem told (hT : TabOK P T) (hFn : FnOK P T) {n f : Nat} {xs : List AV} {H H' : List AB} {q : AEnd} (h : (sems T n).call f xs H = some (q, H')) : Told P T f xs H q H' := (sems_ok hT hFn n).ok.call f xs H q H' h

end
end Go.Abs
end

section
/- The run without a bound on its rounds: what all long enough runs come to. Conditions: none. -/
namespace Go.Abs

/-- From some number on. -/
def Evt (p : Nat → Prop) : Prop := ∃ n, ∀ m, n ≤ m → p m

theorem Evt.and {p q : Nat → Prop} (h : Evt p) (g : Evt q) : Evt fun m => p m ∧ q m := by
  obtain ⟨n, hn⟩ := h
  obtain ⟨k, hk⟩ := g
  exact ⟨max n k, fun m hm => ⟨hn m (by omega), hk m (by omega)⟩⟩
theorem Evt.mono {p q : Nat → Prop} (h : Evt p) (g : ∀ m, p m → q m) : Evt q := by
  obtain ⟨n, hn⟩ := h
  exact ⟨n, fun m hm => g m (hn m hm)⟩
theorem Evt.all {p : Nat → Prop} (h : ∀ m, p m) : Evt p := ⟨0, fun m _ => h m⟩

section
variable (T : Tab)

open Classical in
/-- What all long enough runs come to. -/
noncomputable def lim : Sems where
  code c st := if h : ∃ r, Evt fun m => (sems T m).code c st = some r then some h.choose else none
  call f xs H := if h : ∃ r, Evt fun m => (sems T m).call f xs H = some r then some h.choose else none

variable {T}

theorem lim_call {f : Nat} {xs : List AV} {H : List AB} {r : AEnd × List AB} : (lim T).call f xs H = some r ↔ Evt fun m => (sems T m).call f xs H = some r := by
  simp only [lim]
  constructor
  · intro h
    split at h
    · rename_i hx; cases h; exact hx.choose_spec
    · cases h
  · intro h
    have hx : ∃ r, Evt fun m => (sems T m).call f xs H = some r := ⟨r, h⟩
    rw [dif_pos hx]
    obtain ⟨n, hn⟩ := hx.choose_spec.and h
    obtain ⟨e1, e2⟩ := hn n (Nat.le_refl _)
    rw [← e1, e2]

theorem lim_code {c : AC} {st : ASt} {r : AExit × ASt} : (lim T).code c st = some r ↔ Evt fun m => (sems T m).code c st = some r := by
  simp only [lim]
  constructor
  · intro h
    split at h
    · rename_i hx; cases h; exact hx.choose_spec
    · cases h
  · intro h
    have hx : ∃ r, Evt fun m => (sems T m).code c st = some r := ⟨r, h⟩
    rw [dif_pos hx]
    obtain ⟨n, hn⟩ := hx.choose_spec.and h
    obtain ⟨e1, e2⟩ := hn n (Nat.le_refl _)
    rw [← e1, e2]

/-- A function of the runs goes to its value at the limit. -/
def Goes1 (T : Tab) {α : Type} (g : Sems → Option α) : Prop := ∀ r, g (lim T) = some r → Evt fun m => g (sems T m) = some r

theorem Goes1.const {α : Type} (x : Option α) : Goes1 T (fun _ => x) := fun _ h => Evt.all fun _ => h

theorem Goes1.bind {α β : Type} {g : Sems → Option α} {k : Sems → α → Option β} (hg : Goes1 T g) (hk : ∀ a, Goes1 T fun S => k S a) : Goes1 T fun S => (g S).bind (k S) := fun r h => by
  rw [Option.bind_eq_some_iff] at h
  obtain ⟨a, h1, h2⟩ := h
  exact ((hg a h1).and (hk a r h2)).mono fun m ⟨e1, e2⟩ => by simp only [e1, Option.bind_some]; exact e2

theorem Goes1.map {α β : Type} {g : Sems → Option α} {k : α → β} (hg : Goes1 T g) : Goes1 T fun S => (g S).map k := fun r h => by
  rw [Option.map_eq_some_iff] at h
  obtain ⟨a, h1, h2⟩ := h
  exact (hg a h1).mono fun m e => by simp only [e, ← h2]; rfl

theorem goes_call (f : Nat) (xs : List AV) (H : List AB) : ∀ r, (lim T).call f xs H = some r → Evt fun m => (sems T m).call f xs H = some r := fun _ h => lim_call.1 h
theorem goes_code (c : AC) (st : ASt) : ∀ r, (lim T).code c st = some r → Evt fun m => (sems T m).code c st = some r := fun _ h => lim_code.1 h

theorem goes_enter (m f : Nat) (xs : List AV) (H : List AB) : ∀ r, enter T (lim T) m f xs H = some r → Evt fun k => enter T (sems T k) m f xs H = some r := by
  show Goes1 T fun S => enter T S m f xs H
  unfold enter
  cases T.prim f xs with
  | some v => exact .const _
  | none =>
    simp only
    split
    · exact goes_call f xs H
    · refine .bind (.const _) fun ys => .bind (goes_call f ys []) fun r => .const _

theorem goes_round (b : Nat) (xs : List AV) (H : List AB) : ∀ r, round (lim T) b xs H = some r → Evt fun m => round (sems T m) b xs H = some r := by
  intro r h
  unfold round at h ⊢
  split at h
  · rename_i R hR
    split at h
    · rename_i hc
      split at h
      · rename_i st hst
        have e1 := goes_code (T := T) _ _ _ hst
        split at h
        · rename_i R1 hR1
          split at h
          · rename_i hready
            split at h
            · rename_i e st2 hst2
              have e2 := goes_code (T := T) _ _ _ hst2
              refine (e1.and e2).mono fun m ⟨g1, g2⟩ => ?_
              simp only [hR, if_pos hc, g1, hR1, if_pos hready, g2]
              exact h
            · cases h
          · cases h
        · cases h
      · cases h
    · cases h
  · cases h

theorem goes_invoke (m : Nat) (f : AV) (xs : List AV) (H : List AB) : ∀ r, invoke T (lim T) m f xs H = some r → Evt fun k => invoke T (sems T k) m f xs H = some r := by
  show Goes1 T fun S => invoke T S m f xs H
  unfold invoke
  split
  · exact goes_enter _ _ _ _
  · exact goes_round _ _ _
  · exact .const _

theorem goes_step (o : AO) (st : ASt) : ∀ r, stepO T (lim T) o st = some r → Evt fun m => stepO T (sems T m) o st = some r := by
  show Goes1 T fun S => stepO T S o st
  unfold stepO
  cases o.op <;> try exact .const _
  · exact .bind (.const _) fun f => .bind (.const _) fun xs => .bind (goes_invoke _ _ _ _) fun q => .const _
  · refine .bind (.const _) fun f => .bind (.const _) fun xs => ?_
    split
    · refine .bind (.const _) fun q => ?_
      split
      · exact .bind (goes_enter _ _ _ _) fun q => .const _
      · split
        · split
          · exact .bind (.const _) fun q => .bind (goes_enter _ _ _ _) fun q => .const _
          · exact .const _
        · exact .bind (.const _) fun q => .bind (goes_enter _ _ _ _) fun q => .const _
        · exact .const _
    · exact .const _

theorem goes_ops : ∀ (l : List AO) (st : ASt), ∀ r, runOps T (lim T) l st = some r → Evt fun m => runOps T (sems T m) l st = some r
  | [], st => fun _ h => Evt.all fun _ => h
  | o :: l, st => by
    intro r h
    simp only [runOps] at h ⊢
    split at h
    · rename_i hg
      try simp only [hg]
      cases hs : stepO T (lim T) o st with
      | none => rw [hs] at h; cases h
      | some s =>
        rw [hs] at h
        have e1 := goes_step o st s hs
        cases s with
        | next st1 =>
          refine (e1.and (goes_ops l st1 r h)).mono fun m ⟨g1, g2⟩ => ?_
          rw [g1]; exact g2
        | out e st1 => exact e1.mono fun m g1 => by rw [g1]; exact h
    · rename_i hg
      try simp only [hg]
      rw [Option.bind_eq_some_iff] at h
      obtain ⟨st1, hk, h⟩ := h
      exact (goes_ops l st1 r h).mono fun m g => by rw [hk]; exact g
    · cases h

theorem goes_trace : ∀ (l : List AO) (st : ASt) (st' : ASt), runOps T (lim T) l st = some (.next st') → Evt fun m => trace T (sems T m) l st = trace T (lim T) l st
  | [], st, _, _ => Evt.all fun _ => rfl
  | o :: l, st, st', h => by
    simp only [runOps] at h
    simp only [trace]
    cases hg : guardO o st with
    | none => rw [hg] at h; cases h
    | some b =>
      rw [hg] at h
      cases b with
      | true =>
        simp only at h ⊢
        cases hs : stepO T (lim T) o st with
        | none => rw [hs] at h; cases h
        | some s =>
          rw [hs] at h
          have e1 := goes_step o st s hs
          cases s with
          | next st1 =>
            refine (e1.and (goes_trace l st1 st' h)).mono fun m ⟨g1, g2⟩ => ?_
            rw [g1]; simp only [g2]
          | out e st1 => cases h
      | false =>
        simp only at h ⊢
        rw [Option.bind_eq_some_iff] at h
        obtain ⟨st1, hk, h⟩ := h
        exact (goes_trace l st1 st' h).mono fun m g => by simp only [hk, g]

theorem goes_acode : ∀ (c : AC) (st : ASt), ∀ r, code T (lim T) c st = some r → Evt fun m => code T (sems T m) c st = some r := by
  intro c
  induction c with
  | skip => intro st r h; exact Evt.all fun _ => h
  | exit id => intro st r h; exact Evt.all fun _ => h
  | ret => intro st r h; exact Evt.all fun _ => h
  | ops l d =>
    intro st r h
    simp only [code] at h ⊢
    cases hr : runOps T (lim T) l st with
    | none => rw [hr] at h; cases h
    | some s =>
      rw [hr] at h
      have e1 := goes_ops l st s hr
      cases s with
      | out e st1 => exact e1.mono fun m g => by rw [g]; exact h
      | next st1 =>
        refine (e1.and (goes_trace l st st1 hr)).mono fun m ⟨g1, g2⟩ => ?_
        rw [g1]
        cases d with
        | none => exact h
        | some inc =>
          simp only [looseOk, g2] at h ⊢
          exact h
  | seq x y ihx ihy =>
    intro st r h
    simp only [code] at h ⊢
    split at h
    · rename_i st1 hx
      exact ((ihx st _ hx).and (ihy st1 r h)).mono fun m ⟨g1, g2⟩ => by rw [g1]; exact g2
    · rename_i hn
      refine (ihx st r h).mono fun m g => ?_
      rw [g]
      obtain ⟨e, s⟩ := r
      cases e <;> first | rfl | exact absurd h (hn s)
  | cond c x y ihx ihy =>
    intro st r h
    simp only [code] at h ⊢
    split at h
    · rename_i b hb
      try simp only [hb]
      cases b with
      | true => exact ihx st r h
      | false => exact ihy st r h
    · cases h
  | block id x ih =>
    intro st r h
    simp only [code] at h ⊢
    cases hx : code T (lim T) x st with
    | none => rw [hx] at h; cases h
    | some q =>
      rw [hx] at h
      exact (ih st q hx).mono fun m g => by rw [g]; exact h
  | loop x ih =>
    intro st r h
    simp only [code] at h ⊢
    split at h
    · rename_i st1 hx
      exact ((ih st _ hx).and (goes_code _ _ r h)).mono fun m ⟨g1, g2⟩ => by rw [g1]; exact g2
    · rename_i hn
      refine (ih st r h).mono fun m g => ?_
      rw [g]
      obtain ⟨e, s⟩ := r
      cases e <;> first | rfl | exact absurd h (hn s)
  | hint hh x ih =>
    intro st r h
    simp only [code] at h ⊢
    split at h
    · rename_i st1 hk
      try simp only [hk]
      exact ih st1 r h
    · cases h
  | rng f ps x y _ _ =>
    intro st r h
    simp only [code] at h ⊢
    rw [Option.bind_eq_some_iff] at h
    obtain ⟨fv, hf, h⟩ := h
    simp only [hf, Option.bind_some]
    split at h
    · rename_i hc
      split at h
      · rename_i k caps
        cases hcall : (lim T).call k (.yld (rngH st).length :: caps) (rngH st ++ [AB.loop ⟨.ready, none, st.env, st.nt, ps, x, y⟩]) with
        | none => rw [hcall] at h; cases h
        | some q =>
          rw [hcall] at h
          refine (goes_call _ _ _ _ hcall).mono fun m g => ?_
          rw [if_pos hc, g]
          exact h
      · cases h
    · cases h

theorem goes_dcall (k : Nat) (xs : List AV) (H : List AB) (ch : Option AV) : ∀ r, dcall T (lim T) k xs H ch = some r → Evt fun m => dcall T (sems T m) k xs H ch = some r := by
  intro r h
  unfold dcall at h ⊢
  split at h
  · rename_i nt d l rest hfn
    split at h
    · rename_i hc
      cases hx : code T (lim T) (.seq (.ops l none) rest) ⟨(d, ch.getD .nili) :: (List.range xs.length).zip xs, H, [], H.length, nt, none⟩ with
      | none => rw [hx] at h; cases h
      | some q =>
        rw [hx] at h
        refine (goes_acode _ _ q hx).mono fun m g => ?_
        simp only [hfn, if_pos hc, g]
        exact h
    · cases h
  · cases h

theorem goes_leave (F : AFun) : ∀ (ds : List ADf) (ch : Option AV) (st : ASt), Goes1 T fun S => leave T S F ds ch st
  | [], none, st => .const _
  | [], some v, st => .const _
  | .mark b :: ds, ch, st => by
    simp only [leave]
    split
    · exact goes_leave F ds ch _
    · exact .const _
  | .call k xs :: ds, ch, st => by
    simp only [leave]
    exact .bind (goes_dcall k xs st.H ch) fun H => goes_leave F ds none _

theorem goes_fcall (f : Nat) (xs : List AV) (H : List AB) : ∀ r, call T (lim T) f xs H = some r → Evt fun m => call T (sems T m) f xs H = some r := by
  intro r h
  unfold call at h ⊢
  split at h
  · cases h
  · rename_i F hF
    split at h
    · rename_i hc
      simp only [hF, if_pos hc]
      split at h
      · rename_i st hx
        exact ((goes_acode _ _ _ hx).and (goes_leave F _ _ _ r h)).mono fun m ⟨g1, g2⟩ => by rw [g1]; exact g2
      · rename_i st hx
        exact ((goes_acode _ _ _ hx).and (goes_leave F _ _ _ r h)).mono fun m ⟨g1, g2⟩ => by rw [g1]; exact g2
      · rename_i v st hx
        exact ((goes_acode _ _ _ hx).and (goes_leave F _ _ _ r h)).mono fun m ⟨g1, g2⟩ => by rw [g1]; exact g2
      · cases h
    · cases h

/-- The limit's calls are those of a run over the limit. -/
theorem lim_call_of {f : Nat} {xs : List AV} {H : List AB} {r : AEnd × List AB} (h : call T (lim T) f xs H = some r) : (lim T).call f xs H = some r := by
  rw [lim_call]
  obtain ⟨n, hn⟩ := goes_fcall f xs H r h
  refine ⟨n + 1, fun m hm => ?_⟩
  obtain ⟨k, rfl⟩ : ∃ k, m = k + 1 := ⟨m - 1, by omega⟩
  exact hn k (by omega)

theorem lim_code_of {c : AC} {st : ASt} {r : AExit × ASt} (h : code T (lim T) c st = some r) : (lim T).code c st = some r := by
  rw [lim_code]
  obtain ⟨n, hn⟩ := goes_acode c st r h
  refine ⟨n + 1, fun m hm => ?_⟩
  obtain ⟨k, rfl⟩ : ∃ k, m = k + 1 := ⟨m - 1, by omega⟩
  exact hn k (by omega)

theorem lim_of {n f : Nat} {xs : List AV} {H : List AB} {r : AEnd × List AB} (h : ∀ m, (sems T (n + m)).call f xs H = some r) : (lim T).call f xs H = some r := by
  rw [lim_call]
  exact ⟨n, fun m hm => by obtain ⟨k, rfl⟩ : ∃ k, m = n + k := ⟨m - n, by omega⟩; exact h k⟩

theorem told_lim {P : Program} (hT : TabOK P T) (hFn : FnOK P T) {f : Nat} {xs : List AV} {H H' : List AB} {q : AEnd} (h : (lim T).call f xs H = some (q, H')) : Told P T f xs H q H' := by
  rw [lim_call] at h
  obtain ⟨n, hn⟩ := h
  exact told hT hFn (hn n (Nat.le_refl _))

end
end Go.Abs
end

section
/- The table of functions against the program: one closed equation a function. Conditions: none. -/
namespace Go.Abs

section
variable (P : Program)

def resT : List ResultVar → Option (List ARs)
  | [] => some []
  | .tmp t :: rs => (resT rs).map fun q => .t t :: q
  | .cell t ty :: rs => (aggT P ty).bind fun g => (sizeT P ty).bind fun n => (resT rs).map fun q => .cell g n t :: q

/-- What the walk asks of a function. -/
def fnB (fn : Func) : Option (Nat × AC × List ARs) :=
  if fn.name == "runtime.NumGoroutine" then none else (fn.body.bind (comp P)).bind fun c => (resT P fn.results.toList).map fun r => (fn.ntmps, c, r)

variable {P}

theorem resT_ok : ∀ {rs : List ResultVar} {qs : List ARs}, resT P rs = some qs → ResOK P rs qs
  | [], qs, h => by cases h; trivial
  | .tmp t :: rs, qs, h => by
    simp only [resT, Option.map_eq_some_iff] at h
    obtain ⟨q, hq, rfl⟩ := h
    exact ⟨rfl, resT_ok hq⟩
  | .cell t ty :: rs, qs, h => by
    simp only [resT, Option.map_eq_some_iff, Option.bind_eq_some_iff] at h
    obtain ⟨g, hg, n, hn, q, hq, rfl⟩ := h
    exact ⟨rfl, hg, hn, resT_ok hq⟩

/-- A function that the walk may enter. -/
def FnB (P : Program) (k : Nat) (F : AFun) : Prop := ∃ fn, P.funcs[k]? = some fn ∧ fnB P fn = some (F.nt, F.body.erase, F.res)

theorem FnB.ok {k : Nat} {F : AFun} (h : FnB P k F) : ∃ (fn : Func) (c : Code), P.funcs[k]? = some fn ∧ fn.body = some c ∧ fn.ntmps = F.nt ∧ comp P c = some F.body.erase ∧ ResOK P fn.results.toList F.res := by
  obtain ⟨fn, h1, h2⟩ := h
  unfold fnB at h2
  split at h2
  · cases h2
  · simp only [Option.bind_eq_some_iff, Option.map_eq_some_iff, Prod.mk.injEq] at h2
    obtain ⟨c', ⟨c, hc, hcc⟩, r, hr, e1, e2, e3⟩ := h2
    subst e2 e3
    exact ⟨fn, c, h1, hc, e1, hcc, resT_ok hr⟩

theorem FnB.enters {k : Nat} {F : AFun} (h : FnB P k F) : Enters P k := by
  obtain ⟨fn, h1, h2⟩ := h
  unfold fnB at h2
  split at h2
  · cases h2
  · rename_i hn
    simp only [Option.bind_eq_some_iff, Option.map_eq_some_iff] at h2
    obtain ⟨c', ⟨c, hc, _⟩, _⟩ := h2
    exact ⟨fn, c, h1, hc, by simpa using hn⟩

end

section
variable (P : Program)
/-- A method by a type and a name, as the program has it. -/
def methT (t : Nat) (m : String) : Option (Nat × Option (Bool × Nat)) :=
  match P.info? t with
  | none => none
  | some i => match i.methods.find? (·.name == m) with
    | none => none
    | some r => if r.path.toList.isEmpty then (match r.func with
      | none => none
      | some (f, pr) => match P.underlying t, pr with
        | some (.pointer e), false => (aggT P e).bind fun g => (sizeT P e).map fun n => (f, some (g, n))
        | some (.pointer _), true => some (f, none)
        | some _, false => some (f, none)
        | _, _ => none) else none
variable {P}
theorem methT_ok {t : Nat} {m : String} {k : Nat} {d : Option (Bool × Nat)} (h : methT P t m = some (k, d)) : match d with
    | none => ∀ v w, (method (P.types.size + Made.depth) t v m).run P w = .ok (k, v) w
    | some (g, n) => ∃ ty, aggT P ty = some g ∧ sizeT P ty = some n ∧ ∀ p w x, (loadVar ty p).run P w = .ok x w → (method (P.types.size + Made.depth) t (.pointer (some p)) m).run P w = .ok (k, x) w := by
  obtain ⟨f0, hf0⟩ : ∃ f0, P.types.size + Made.depth = f0 + 1 := ⟨P.types.size + Made.depth - 1, by simp [Made.depth]⟩
  unfold methT at h
  split at h
  · cases h
  · rename_i i hi
    split at h
    · cases h
    · rename_i r hr
      split at h
      · rename_i hp
        have hpath : r.path.toList = [] := List.isEmpty_iff.1 hp
        have hinfo : ∀ w, (typeInfo t).run P w = .ok i w := fun w => by simp [typeInfo, hi]
        split at h
        · cases h
        · rename_i f pr hfn
          split at h
          · rename_i e hu
            simp only [Option.bind_eq_some_iff, Option.map_eq_some_iff, Prod.mk.injEq] at h
            obtain ⟨g, hg, n, hn, rfl, rfl⟩ := h
            refine ⟨e, hg, hn, fun p w x hx => ?_⟩
            rw [hf0]
            have hrec : ∀ wr : Option String, (receiverAt t (.val (.pointer (some p))) false wr).run P w = .ok x w := fun wr => by
              cases wr with
              | none => simp [receiverAt, under_ok hu, Place.get, asAddr, hx]
              | some nm =>
                have hwrap : (Builtin.ssaWrapNilChk_ #[t] t #[.pointer (some p), strVal "", strVal nm]).run P w = .ok (.pointer (some p)) w := rfl
                unfold receiverAt
                simp only [Sem.run_bind, under_ok hu, Result.andThen_ok, Place.get, Sem.run_pure, hwrap]
                exact hx
            simp [method, hinfo, hr, hpath, follow, hfn, hrec]
          · rename_i hu
            cases h
            intro v w
            rw [hf0]
            simp [method, hinfo, hr, hpath, follow, hfn, receiverAt, under_ok hu, Place.get]
          · rename_i hu
            cases h
            intro v w
            rename_i u hnp
            have hrec : ∀ (x : Place) (wr : Option String), (receiverAt t x false wr).run P w = (x.get t).run P w := fun x wr => by
              unfold receiverAt
              simp only [Sem.run_bind, under_ok hu, Result.andThen_ok]
            rw [hf0]
            simp [method, hinfo, hr, hpath, follow, hfn, hrec, Place.get]
          · cases h
      · cases h
end

def NT.All (p : Nat → AFun → Prop) : NT → Prop
  | .leaf => True
  | .node l k v r => NT.All p l ∧ p k v ∧ NT.All p r

theorem NT.All.get {p : Nat → AFun → Prop} : ∀ {t : NT}, t.All p → ∀ {k : Nat} {v : AFun}, t.get k = some v → p k v
  | .leaf, _, k, v, h => by cases h
  | .node l j u r, ⟨h1, h2, h3⟩, k, v, h => by
    simp only [NT.get] at h
    cases hb : Nat.beq k j with
    | true =>
      rw [hb] at h
      simp only [cond_true, Option.some.injEq] at h
      have := Nat.eq_of_beq_eq_true hb
      subst this h
      exact h2
    | false =>
      rw [hb] at h
      simp only [cond_false] at h
      cases hl : Nat.blt k j with
      | true => rw [hl] at h; exact h1.get h
      | false => rw [hl] at h; exact h3.get h

end Go.Abs
end
