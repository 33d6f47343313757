/- Arguments, their reading; the variable that is laid. Conditions: none. -/
import Derived.Test.YthaebccedgaamaaGreatDoorKS1
import Derived.Carry
import Derived.ProofKit
import Derived.ChangeSame
import Derived.Test.YthaebccedgaamaaGreatDoorProg
import Derived.KernelRfl
import Derived.LaidLaws
import Derived.Stop.Joined
import Derived.LaidMore
import Derived.OpenShut
import Derived.MakeChecks
import Derived.Test.YthaebccedgaamaaGreatDoorRows
set_option linter.unusedSimpArgs false
set_option linter.unusedVariables false
section
/- A row whose call answers true and leaves all old memory as it was. Conditions: none. -/
namespace Go.Abs
open Go Go.ChangeShapes Go.WideShapes Go.RowKit

section
variable {H : Type} {enc : TypeId × Value → H} {P : Program}

theorem keptBut_of_below {W W' : World} (hB : Below W.heap.size W W') (may : MemPlace → Prop) : W.keptBut W' may := by
  refine ⟨hB.os, hB.output, fun i hi => ?_⟩
  rw [hB.block i hi]
  cases W.heap[i]? with
  | none => trivial
  | some b => cases b <;> simp

theorem frozen_of_below {W W' : World} (hB : Below W.heap.size W W') {a : Addr} (ha : a.block < W.heap.size) : W'.frozen? a = W.frozen? a := by
  simp only [World.frozen?, hB.block _ ha]

theorem trodAll_below (hl : laidOutB P = true) {W W' : World} (hB : Below W.heap.size W W') : ∀ {ts : List TypeId}, (∀ t ∈ ts, P.readableRec t = true ∧ t < P.types.size) → ∀ {vs : List Value} {ds : List (DataW H)} {p : List MemPlace},
    DataW.TrodAll enc P W 0 (fun _ => true) true ts vs ds p → (∀ x ∈ p, x.block < W.heap.size) → ∀ sp : Nat → Bool, (∀ x ∈ p, sp x.block = true) → DataW.TrodAll enc P W' 0 sp true ts vs ds p
  | [], _, _, _, _, h, _, _, _ => by
    obtain ⟨rfl, rfl, rfl⟩ := trodAll_nil h
    exact rfl
  | t :: ts, ht, _, _, _, h, hp, sp, hs => by
    obtain ⟨v, vs1, d, ds1, a, b, rfl, rfl, rfl, h1, h2⟩ := trodAll_cons h
    have ht0 := ht t (List.mem_cons_self ..)
    refine ⟨a, b, WideElems.Trod_stays hl ht0.1 ht0.2 h1 (fun x hx => hB.same (hp x (List.mem_append_left _ hx))) (fun x hx => hs x (List.mem_append_left _ hx)), ?_, rfl⟩
    exact trodAll_below hl hB (fun t' h' => ht t' (List.mem_cons_of_mem _ h')) h2 (fun x hx => hp x (List.mem_append_right _ hx)) sp (fun x hx => hs x (List.mem_append_right _ hx))

theorem trodAll_len {W : World} {sp : Nat → Bool} {b : Nat} {hd : Bool} : ∀ {ts : List TypeId} {vs : List Value} {ds : List (DataW H)} {p : List MemPlace}, DataW.TrodAll enc P W b sp hd ts vs ds p → ds.length = ts.length
  | [], _, _, _, h => by
    obtain ⟨rfl, rfl, rfl⟩ := trodAll_nil h
    rfl
  | t :: ts, _, _, _, h => by
    obtain ⟨v, vs1, d, ds1, a, b, rfl, rfl, rfl, h1, h2⟩ := trodAll_cons h
    simp [trodAll_len h2]

theorem post_true {f : Func} {s : ChangeSpec} {fresh handsOn again : Bool} {tb : TypeId} (hl : laidOutB P = true) (hts : (f.params.toList.all fun t => P.readableRec t && decide (t < P.types.size)) = true)
    (hv : s.vars = []) (hr : f.resultTypes = #[tb]) (hb : P.underlying tb = some .bool) (hs : ∀ ds : List (DataW H), ds.length = f.params.toList.length → s.fn H ds = { results := [.lit (.bool true)], args := ds })
    {W W' : World} {args : Array Value} {ds gs : List (DataW H)} {before : List MemPlace} (hW : DataW.Whole enc P f.params.toList s.vars false W args.toList ds gs before) (hB : Below W.heap.size W W') :
    s.post enc P f false fresh handsOn again W args (.bool true) W' := by
  have hlt := hW.lt
  have hW' := hW
  obtain ⟨p, q, hA, hV, rfl, hz, hn⟩ := hW'
  rw [hv] at hV
  obtain ⟨rfl, rfl⟩ : gs = [] ∧ q = [] := by
    cases gs with
    | nil => exact ⟨rfl, hV⟩
    | cons g gs => exact hV.elim
  have hlen := trodAll_len hA
  have hfn := hs ds hlen
  have hts' : ∀ t ∈ f.params.toList, P.readableRec t = true ∧ t < P.types.size := fun t ht => by simpa using List.all_eq_true.1 hts t ht
  simp only [List.append_nil] at *
  have hres : ∀ (b : Nat) (sp : Nat → Bool) (hd : Bool), DataW.TrodAll enc P W' b sp hd f.resultTypes.toList ((Value.bool true).resultList f.resultTypes.size) [.lit (.bool true)] [] := fun b sp hd => by
    rw [hr]
    exact trodAll_mk1 (shut_bool hb _)
  have hargs := fun (sp : Nat → Bool) (h : ∀ x ∈ p, sp x.block = true) => trodAll_below hl hB hts' hA hlt sp h
  have hvars : ∀ sp : Nat → Bool, DataW.TrodVars enc P W' sp s.vars ([] : List (DataW H)) [] := fun sp => by rw [hv]; rfl
  refine ⟨ds, [], p, [], p, [], hW, ?_, ?_, ?_, keptBut_of_below hB _, fun _ => ?_⟩
  · rw [List.append_nil, hfn]; exact hres _ _ _
  · rw [List.append_nil, hfn]; exact hargs _ (fun x hx => by simpa using hlt x hx)
  · rw [List.append_nil, hfn]; exact hvars _
  · refine ⟨ok_one hr rfl (okWide_bool_mk hb _), _, _, ([] ++ p) ++ [], ⟨[] ++ p, [], trodAll_append (hargs _ (fun _ _ => rfl)) (hres _ _ _), hvars _, rfl, ?_, ?_⟩, ?_⟩
    · intro b off hp
      simp only [List.nil_append, List.append_nil] at hp
      rw [frozen_of_below hB (hlt _ hp)]
      exact hz b off hp
    · intro h; cases h
    · intro x hx _
      simpa using hx
end
end Go.Abs
end

section
/- What a reading of the arguments tells the walk. Conditions: none. -/
namespace Go.Abs.C
open Go Go.Abs
set_option maxRecDepth 10000

section
variable {H : Type} {enc : TypeId × Value → H} {P : Program} {W : World}

/-- All blocks that there are. -/
abbrev Old (W : World) (k : Nat) : Prop := k < W.heap.size
abbrev VR (W : World) (v : AV) (x : Value) : Prop := VRel W (Old W) (fun _ => none) v x
/-- Cells, told one by one. -/
def CellsRel (W : World) (es : List AV) (cs : List Value) : Prop := cs.length = es.length ∧ ∀ (j : Nat) (v : AV) (x : Value), es[j]? = some v → cs[j]? = some x → VR W v x

theorem CellsRel.one {v : AV} {x : Value} (h : VR W v x) : CellsRel W [v] [x] := ⟨rfl, fun j v' x' h1 h2 => by
  cases j with
  | zero => simp at h1 h2; subst h1; subst h2; exact h
  | succ j => simp at h1⟩
theorem CellsRel.append {a b : List AV} {x y : List Value} (h : CellsRel W a x) (g : CellsRel W b y) : CellsRel W (a ++ b) (x ++ y) := by
  refine ⟨by simp [h.1, g.1], fun j v z h1 h2 => ?_⟩
  rcases Nat.lt_or_ge j a.length with hj | hj
  · rw [List.getElem?_append_left hj] at h1
    rw [List.getElem?_append_left (by rw [h.1]; exact hj)] at h2
    exact h.2 j v z h1 h2
  · rw [List.getElem?_append_right hj] at h1
    rw [List.getElem?_append_right (by rw [h.1]; exact hj), h.1] at h2
    exact g.2 _ v z h1 h2

theorem cells_get {base n : Nat} {a : Addr} {cs : List Value} (h : W.cells? base a n = some cs) : cs.length = n ∧ ∀ i, i < n → W.cell? (a.add i) = cs[i]? := by
  simp only [World.cells?] at h
  split at h
  · exact ⟨by simpa using mapM_some_length h, fun i hi => mapM_some_get h i i (by simp [hi])⟩
  · cases h

theorem cell_old {a : Addr} {v : Value} (h : W.cell? a = some v) : Old W a.block := by
  simp only [World.cell?] at h
  rcases Nat.lt_or_ge a.block W.heap.size with hk | hk
  · exact hk
  · have : W.heap[a.block]? = none := Array.getElem?_eq_none_iff.2 hk
    simp [this] at h

theorem slice_rel {α : Type} {e : α → List AV} {t te : TypeId} {k : Nat} (hk : 0 < k) (hu : P.underlying t = some (.slice te)) (hc : P.cellsOf te = k) (he : ∀ a, (e a).length = k)
    (hel : ∀ (n : Nat) (cs : List Value) (x : DataW H × List MemPlace), DataW.trod enc P W 0 (fun _ => true) true n te cs = some x → ∃ a, CellsRel W (e a) cs)
    {n : Nat} {cs : List Value} {x : DataW H × List MemPlace} (h : DataW.trod enc P W 0 (fun _ => true) true n t cs = some x) : ∃ l : List α, CellsRel W [sl (fl e l) l.length] cs := by
  rcases DataW.trod_slice hu h with ⟨rfl, _⟩ | ⟨a, len, cap, elems, rest, m, rfl, rfl, _, _, hlc, _, hlen, hget, _, _⟩
  · exact ⟨[], .one (.csl (fun _ => undef) (Nat.le_refl _) (fun h => by cases h) (fun c h => by cases h) (fun _ => ⟨rfl, rfl⟩) (fun a' h => by cases h) (fun a' h => by cases h) (fun j v hj => by simp at hj))⟩
  · rw [hc] at hget
    -- the elements
    have : ∀ q, q ≤ len → ∃ l : List α, l.length = q ∧ ∀ i a', l[i]? = some a' → ∃ ecs, W.cells? 0 (a.add (i * k)) k = some ecs ∧ CellsRel W (e a') ecs := by
      intro q
      induction q with
      | zero => intro _; exact ⟨[], rfl, fun i a' hi => by simp at hi⟩
      | succ q ih =>
        intro hq
        obtain ⟨l, h1, h2⟩ := ih (by omega)
        have hg := hget q (by omega)
        have hq2 : elems[q]? = some (elems[q]'(by omega)) := List.getElem?_eq_getElem (by omega)
        rw [hq2, Option.bind_eq_some_iff] at hg
        obtain ⟨ecs, h3, h4⟩ := hg
        obtain ⟨b, hb⟩ := hel _ _ _ h4
        refine ⟨l ++ [b], by simp [h1], fun i a' hi => ?_⟩
        rcases Nat.lt_or_ge i l.length with hil | hil
        · rw [List.getElem?_append_left hil] at hi
          exact h2 i a' hi
        · rw [List.getElem?_append_right hil] at hi
          obtain rfl : i = q := by
            have := (List.getElem?_eq_some_iff.1 hi).1
            simp at this; omega
          rw [h1, Nat.sub_self] at hi
          simp at hi; subst hi
          exact ⟨ecs, h3, hb⟩
    obtain ⟨l, hl, hall⟩ := this len (Nat.le_refl _)
    subst hl
    have hspot : l ≠ [] → a.spot = none ∧ Old W a.block := fun hne => by
      have h0 : l[0]? = some (l[0]'(List.length_pos_iff.2 hne)) := List.getElem?_eq_getElem _
      obtain ⟨ecs, h1, h2⟩ := hall 0 _ h0
      obtain ⟨h3, h4⟩ := cells_get h1
      have h5 := h4 0 hk
      have : ecs[0]? = some (ecs[0]'(by omega)) := List.getElem?_eq_getElem (by omega)
      rw [this, Nat.zero_mul] at h5
      have h6 : (a.add 0).add 0 = a := by simp [Addr.add]
      rw [h6] at h5
      exact ⟨World.cell?_spot h5, cell_old h5⟩
    have hcell : ∀ (j : Nat) (v : AV), (fl e l)[j]? = some v → ∃ y, W.cell? ⟨a.block, a.off + j, none⟩ = some y ∧ VR W v y := fun j v hj => by
      have hjl := (List.getElem?_eq_some_iff.1 hj).1
      rw [len_fl he] at hjl
      have hne : l ≠ [] := by rintro rfl; simp at hjl
      have hsp := (hspot hne).1
      obtain ⟨b, off, s⟩ := a
      simp only at hsp
      subst hsp
      have hdm : j / k * k + j % k = j := by rw [Nat.mul_comm]; exact Nat.div_add_mod j k
      have hq : j / k < l.length := Nat.div_lt_of_lt_mul (by rw [Nat.mul_comm]; exact hjl)
      have hr : j % k < k := Nat.mod_lt _ hk
      have hli : l[j / k]? = some l[j / k] := List.getElem?_eq_getElem hq
      have ha := congrArg (fun z => z[j % k]?) (at_fl he hli)
      simp only [List.getElem?_take, List.getElem?_drop, hr, if_true, hdm] at ha
      rw [hj] at ha
      obtain ⟨ecs, h1, h2⟩ := hall _ _ hli
      obtain ⟨h3, h4⟩ := cells_get h1
      have h5 := h4 (j % k) hr
      have h6 : ecs[j % k]? = some (ecs[j % k]'(by omega)) := List.getElem?_eq_getElem (by omega)
      rw [h6, add_plain, add_plain, Nat.add_assoc, hdm] at h5
      exact ⟨_, h5, h2.2 _ _ _ ha.symm h6⟩
    refine ⟨l, .one (.csl (fun j => (W.cell? ⟨a.block, a.off + j, none⟩).getD undef) hlc (fun h => by cases h) (fun c h => by cases h) (fun h => by cases h) (fun a' h hb => ?_) (fun a' h j v hj => ?_) (fun j v hj => ?_))⟩
    · cases h
      have := hspot fun h0 => hb ⟨by rw [h0]; rfl, by rw [h0]; rfl, rfl, rfl⟩
      exact ⟨this.2, this.1⟩
    · cases h
      obtain ⟨y, h1, _⟩ := hcell j v hj
      rw [h1]; rfl
    · obtain ⟨y, h1, h2⟩ := hcell j v hj
      rw [h1]; exact h2
end
end Go.Abs.C
end

section
/- A case, as its reading tells it. Conditions: none. -/
namespace Go.Abs.C
open Go Go.Abs Go.Proofs
set_option maxRecDepth 100000

section
variable {H : Type} {enc : TypeId × Value → H} {W : World}
/-- A reading of a type in the world. -/
abbrev Rd (enc : TypeId × Value → H) (W : World) (n : Nat) (t : TypeId) (cs : List Value) (x : Option (DataW H × List MemPlace)) : Prop := DataW.trod enc Tryz.prog W 0 (fun _ => true) true n t cs = x

theorem int_rel {t : TypeId} (hu : Tryz.prog.underlying t = some (.int .i64)) {n : Nat} {cs : List Value} {x : DataW H × List MemPlace} (h : Rd enc W n t cs (some x)) : ∃ z : Int, CellsRel W [i z] cs := by
  obtain ⟨z, rfl, _, _⟩ := DataW.trod_int hu h
  exact ⟨z, .one (.int _ _)⟩
theorem bool_rel {t : TypeId} (hu : Tryz.prog.underlying t = some .bool) {n : Nat} {cs : List Value} {x : DataW H × List MemPlace} (h : Rd enc W n t cs (some x)) : ∃ b : Bool, CellsRel W [.bool b] cs := by
  obtain ⟨b, rfl, _⟩ := DataW.trod_bool hu h
  exact ⟨b, .one (.bool _)⟩
theorem field_rel {t : TypeId} {fs : Array Field} {q : Nat} {f : Field} (hu : Tryz.prog.underlying t = some (.struct fs)) (hf : fs[q]? = some f) {n : Nat} {cs : List Value} {x : DataW H × List MemPlace} (h : Rd enc W n t cs (some x)) :
    ∃ m y, Rd enc W m f.type ((cs.drop f.offset).take (Tryz.prog.cellsOf f.type)) (some y) := by
  obtain ⟨xs, m, rfl, _, _, hl, hall⟩ := DataW.trod_struct hu h
  have hq : q < xs.length := by rw [hl]; exact (Array.getElem?_eq_some_iff.1 hf).1
  exact ⟨m, xs[q], (hall q f hf).trans (List.getElem?_eq_getElem hq)⟩
theorem CellsRel.cat {a b : List AV} {cs : List Value} {n : Nat} (h : CellsRel W a (cs.take n)) (g : CellsRel W b (cs.drop n)) : CellsRel W (a ++ b) cs := by
  have := h.append g
  rwa [List.take_append_drop] at this

def fldOf (P : Program) (t q : Nat) : Option (Nat × Nat) := match P.underlying t with
  | some (.struct fs) => (fs[q]?).map fun f => (f.type, f.offset)
  | _ => none
theorem fld_rel {t q ft off : Nat} (hf : fldOf Tryz.prog t q = some (ft, off)) {n : Nat} {cs : List Value} {x : DataW H × List MemPlace} (h : Rd enc W n t cs (some x)) :
    cs.length = Tryz.prog.cellsOf t ∧ ∃ m y, Rd enc W m ft ((cs.drop off).take (Tryz.prog.cellsOf ft)) (some y) := by
  unfold fldOf at hf
  split at hf
  · rename_i fs hu
    simp only [Option.map_eq_some_iff] at hf
    obtain ⟨f, hq, e⟩ := hf
    cases e
    obtain ⟨_, _, _, _, hl, _, _⟩ := DataW.trod_struct hu h
    exact ⟨hl, field_rel hu hq h⟩
  · cases hf

theorem c3 : Tryz.prog.cellsOf 3 = 1 := by kernel_rfl
theorem c4 : Tryz.prog.cellsOf 4 = 1 := by kernel_rfl
theorem c22 : Tryz.prog.cellsOf 22 = 1 := by kernel_rfl
theorem c24 : Tryz.prog.cellsOf 24 = 2 := by kernel_rfl
theorem c25 : Tryz.prog.cellsOf 25 = 1 := by kernel_rfl
theorem c27 : Tryz.prog.cellsOf 27 = 6 := by kernel_rfl
theorem c28 : Tryz.prog.cellsOf 28 = 1 := by kernel_rfl
theorem c30 : Tryz.prog.cellsOf 30 = 7 := by kernel_rfl
theorem c52 : Tryz.prog.cellsOf 52 = 2 := by kernel_rfl
theorem c53 : Tryz.prog.cellsOf 53 = 1 := by kernel_rfl
theorem c55 : Tryz.prog.cellsOf 55 = 5 := by kernel_rfl
theorem c56 : Tryz.prog.cellsOf 56 = 1 := by kernel_rfl
theorem c58 : Tryz.prog.cellsOf 58 = 6 := by kernel_rfl
theorem c59 : Tryz.prog.cellsOf 59 = 1 := by kernel_rfl
theorem c60 : Tryz.prog.cellsOf 60 = 1 := by kernel_rfl
theorem c108 : Tryz.prog.cellsOf 108 = 1 := by kernel_rfl
theorem u3 : Tryz.prog.underlying 3 = some (.int .i64) := by kernel_rfl
theorem u4 : Tryz.prog.underlying 4 = some .bool := by kernel_rfl
theorem u22 : Tryz.prog.underlying 22 = some (.slice 108) := by kernel_rfl
theorem u25 : Tryz.prog.underlying 25 = some (.int .i64) := by kernel_rfl
theorem u28 : Tryz.prog.underlying 28 = some (.slice 60) := by kernel_rfl
theorem u53 : Tryz.prog.underlying 53 = some (.int .i64) := by kernel_rfl
theorem u56 : Tryz.prog.underlying 56 = some (.slice 52) := by kernel_rfl
theorem u59 : Tryz.prog.underlying 59 = some (.slice 58) := by kernel_rfl
theorem u60 : Tryz.prog.underlying 60 = some (.slice 59) := by kernel_rfl
theorem u108 : Tryz.prog.underlying 108 = some (.int .i64) := by kernel_rfl

theorem opt_rel {n : Nat} {cs : List Value} {x : DataW H × List MemPlace} (h : Rd enc W n 52 cs (some x)) : ∃ o : Opt, CellsRel W (oc o) cs := by
  obtain ⟨hl, m0, y0, h0⟩ := fld_rel (q := 0) (ft := 3) (off := 0) (by kernel_rfl) h
  obtain ⟨_, m1, y1, h1⟩ := fld_rel (q := 1) (ft := 3) (off := 1) (by kernel_rfl) h
  rw [c3] at h0 h1
  rw [c52] at hl
  obtain ⟨a, ha⟩ := int_rel u3 h0
  obtain ⟨b, hb⟩ := int_rel u3 h1
  match cs, hl with
  | [p, q], _ => exact ⟨⟨a, b⟩, ha.append hb⟩

theorem opts_rel {n : Nat} {cs : List Value} {x : DataW H × List MemPlace} (h : Rd enc W n 56 cs (some x)) : ∃ l : List Opt, CellsRel W [os l] cs :=
  slice_rel (k := 2) (by omega) u56 c52 len_oc (fun _ _ _ h => opt_rel h) h

theorem feat_rel {n : Nat} {cs : List Value} {x : DataW H × List MemPlace} (h : Rd enc W n 58 cs (some x)) : ∃ f : Feat, CellsRel W (fc f) cs := by
  obtain ⟨hl, m0, y0, h0⟩ := fld_rel (q := 0) (ft := 55) (off := 0) (by kernel_rfl) h
  obtain ⟨_, m1, y1, h1⟩ := fld_rel (q := 1) (ft := 56) (off := 5) (by kernel_rfl) h
  rw [c55] at h0
  rw [c56] at h1
  rw [c58] at hl
  obtain ⟨_, _, _, p0⟩ := fld_rel (q := 0) (ft := 3) (off := 0) (by kernel_rfl) h0
  obtain ⟨_, _, _, p1⟩ := fld_rel (q := 1) (ft := 3) (off := 1) (by kernel_rfl) h0
  obtain ⟨_, _, _, p2⟩ := fld_rel (q := 2) (ft := 3) (off := 2) (by kernel_rfl) h0
  obtain ⟨_, _, _, p3⟩ := fld_rel (q := 3) (ft := 53) (off := 3) (by kernel_rfl) h0
  obtain ⟨_, _, _, p4⟩ := fld_rel (q := 4) (ft := 3) (off := 4) (by kernel_rfl) h0
  rw [c3] at p0 p1 p2 p4
  rw [c53] at p3
  obtain ⟨a, ha⟩ := int_rel u3 p0
  obtain ⟨b, hb⟩ := int_rel u3 p1
  obtain ⟨c, hc⟩ := int_rel u3 p2
  obtain ⟨d, hd⟩ := int_rel u53 p3
  obtain ⟨e, he⟩ := int_rel u3 p4
  obtain ⟨o, ho⟩ := opts_rel h1
  match cs, hl with
  | [_, _, _, _, _, _], _ => exact ⟨⟨a, b, c, d, e, o⟩, ((((ha.append hb).append hc).append hd).append he).append ho⟩
end
end Go.Abs.C
end

section
/- A case, as its reading tells it (2). Conditions: none. -/
namespace Go.Abs.C
open Go Go.Abs Go.Proofs
set_option maxRecDepth 100000

section
variable {H : Type} {enc : TypeId × Value → H} {W : World}
theorem ml_fl {α : Type} (e : α → AV) (l : List α) : fl (fun a => [e a]) l = ml e l := by
  induction l with
  | nil => rfl
  | cons a l ih => simp only [fl, List.flatMap_cons, ml, List.map_cons] at ih ⊢; rw [ih]; rfl
theorem one_rel {α : Type} {e : α → AV} {t te : Nat} (hu : Tryz.prog.underlying t = some (.slice te)) (hc : Tryz.prog.cellsOf te = 1)
    (hel : ∀ (n : Nat) (cs : List Value) (x : DataW H × List MemPlace), Rd enc W n te cs (some x) → ∃ a, CellsRel W [e a] cs) {n : Nat} {cs : List Value} {x : DataW H × List MemPlace} (h : Rd enc W n t cs (some x)) :
    ∃ l : List α, CellsRel W [sl (ml e l) l.length] cs := by
  obtain ⟨l, hl⟩ := slice_rel (e := fun a => [e a]) (k := 1) (by omega) hu hc (fun _ => rfl) hel h
  rw [ml_fl] at hl
  exact ⟨l, hl⟩
theorem feats_rel {n : Nat} {cs : List Value} {x : DataW H × List MemPlace} (h : Rd enc W n 59 cs (some x)) : ∃ l : List Feat, CellsRel W [fs l] cs :=
  slice_rel (k := 6) (by omega) u59 c58 len_fc (fun _ _ _ h => feat_rel h) h
theorem row_rel {n : Nat} {cs : List Value} {x : DataW H × List MemPlace} (h : Rd enc W n 60 cs (some x)) : ∃ l : List (List Feat), CellsRel W [rs l] cs :=
  one_rel u60 c59 (fun _ _ _ h => feats_rel h) h
theorem cells_rel {n : Nat} {cs' : List Value} {x : DataW H × List MemPlace} (h : Rd enc W n 28 cs' (some x)) : ∃ l : List (List (List Feat)), CellsRel W [cs l] cs' :=
  one_rel u28 c60 (fun _ _ _ h => row_rel h) h
theorem clefs_rel {n : Nat} {cs : List Value} {x : DataW H × List MemPlace} (h : Rd enc W n 22 cs (some x)) : ∃ l : List Int, CellsRel W [il l] cs :=
  one_rel u22 c108 (fun _ _ _ h => int_rel u108 h) h

theorem case_rel {n : Nat} {vs : List Value} {x : DataW H × List MemPlace} (h : Rd enc W n 30 vs (some x)) : ∃ c : Case, CellsRel W (cc c) vs := by
  obtain ⟨hl, m0, y0, h0⟩ := fld_rel (q := 0) (ft := 27) (off := 0) (by kernel_rfl) h
  obtain ⟨_, m1, y1, h1⟩ := fld_rel (q := 1) (ft := 28) (off := 6) (by kernel_rfl) h
  rw [c27] at h0
  rw [c28] at h1
  rw [c30] at hl
  obtain ⟨_, _, _, p0⟩ := fld_rel (q := 0) (ft := 22) (off := 0) (by kernel_rfl) h0
  obtain ⟨_, _, _, p1⟩ := fld_rel (q := 1) (ft := 3) (off := 1) (by kernel_rfl) h0
  obtain ⟨_, _, _, p2⟩ := fld_rel (q := 2) (ft := 24) (off := 2) (by kernel_rfl) h0
  obtain ⟨_, _, _, p3⟩ := fld_rel (q := 3) (ft := 25) (off := 4) (by kernel_rfl) h0
  obtain ⟨_, _, _, p4⟩ := fld_rel (q := 4) (ft := 4) (off := 5) (by kernel_rfl) h0
  rw [c24] at p2
  obtain ⟨_, _, _, q0⟩ := fld_rel (q := 0) (ft := 3) (off := 0) (by kernel_rfl) p2
  obtain ⟨_, _, _, q1⟩ := fld_rel (q := 1) (ft := 3) (off := 1) (by kernel_rfl) p2
  rw [c22] at p0
  rw [c3] at p1 q0 q1
  rw [c25] at p3
  rw [c4] at p4
  obtain ⟨l, hl0⟩ := clefs_rel p0
  obtain ⟨k, hk⟩ := int_rel u3 p1
  obtain ⟨b, hb⟩ := int_rel u3 q0
  obtain ⟨u, hu⟩ := int_rel u3 q1
  obtain ⟨r, hr⟩ := int_rel u25 p3
  obtain ⟨f, hf⟩ := bool_rel u4 p4
  obtain ⟨s, hs⟩ := cells_rel h1
  match vs, hl with
  | [_, _, _, _, _, _, _], _ => exact ⟨⟨l, k, b, u, r, f, s⟩, (((((hl0.append hk).append hb).append hu).append hr).append hf).append hs⟩
end
end Go.Abs.C
end

section
/- A call that answers true. Conditions: none. -/
namespace Go.Abs.C
open Go Go.Abs Go.Proofs Go.RowKit
set_option maxRecDepth 100000

theorem frz_true {H : List AB} {w : AV} (h : frz H false depthF w = some (.bool true)) : w = .bool true := by
  by_cases hc : (w.canon || false && w.pure) = true
  · have : frz H false depthF w = some w := by
      have hc' : w.canon = true := by simpa using hc
      exact frz_canon0 hc'
    rw [this] at h
    exact Option.some.inj h
  · have e : frz H false depthF w = frz H false (29 + 1) w := rfl
    rw [e] at h
    cases w
    all_goals unfold frz at h
    all_goals rw [if_neg hc] at h
    all_goals (try (simp at h; done))
    all_goals simp only at h
    all_goals (try (split at h))
    all_goals (try (split at h))
    all_goals first | (cases h; done) | (simp only [Option.map_eq_some_iff] at h; obtain ⟨_, _, h⟩ := h; cases h) | (simp only [Option.bind_eq_some_iff, Option.map_eq_some_iff] at h; obtain ⟨_, _, _, _, h⟩ := h; cases h)

theorem calls_told {f : Nat} {xs : List AV} {H' : List AB} (ht : Told Tryz.prog T f xs [] (.ret (.bool true)) H') {W : World} {args : Array Value} (hx : VRels W (fun k => k < W.heap.size) (fun _ => none) xs args) (hg : GL T W (fun k => k < W.heap.size)) :
    Calls Tryz.prog f args W fun e W' => e = .returned (.bool true) ∧ Below W.heap.size W W' := by
  refine callsIn_wide.1 ((ht W (fun k => k < W.heap.size) (fun _ => none) args (hrel_nil fun k h => h) hg hx).mono ?_)
  rintro e W' ⟨D', ι', he, _, hE, _, _⟩
  refine ⟨?_, hE.os, hE.tape, hE.output, hE.size, fun k hk => hE.keep k hk (live_nil k)⟩
  cases e with
  | returned x => cases he; rfl
  | _ => cases he

theorem calls_true {f : Nat} {xs : List AV} (h : Ret T f xs (.bool true)) {W : World} {args : Array Value} (hx : VRels W (fun k => k < W.heap.size) (fun _ => none) xs args) (hg : GL T W (fun k => k < W.heap.size)) :
    Calls Tryz.prog f args W fun e W' => e = .returned (.bool true) ∧ Below W.heap.size W W' := by
  obtain ⟨w, H', h1, h2⟩ := h
  obtain rfl := frz_true h2
  exact calls_told (told_lim tab_ok fn_ok h1) hx hg
end Go.Abs.C
end

section
/- The variable that is laid. Conditions: none. -/
namespace Go.Abs.C
open Go Go.Abs Go.Proofs Go.Proofs.YthaebccedgaamaaGreatDoor
open Go.ChangeShapes Go.WideShapes Go.ChangeAt Go.RowKit
set_option maxRecDepth 100000

theorem gZones : Tryz.prog.globalNamed "custos/cell.zones" = some 0 := by kernel_rfl
theorem tZones : (Tryz.prog.globals[0]?).map (·.type) = some 345 := by kernel_rfl
theorem u345 : Tryz.prog.underlying 345 = some (.array 3 3) := by kernel_rfl

theorem gl_of_laid {W : World} (h : laidMetH Tryz.prog [("custos/cell.zones", Rows.laid_custos_cell_zones)] W) : GL T W (Old W) := by
  intro g cs hg
  rw [MakeChecks.laidMetH_plain _ _ _ (by kernel_rfl)] at h
  obtain ⟨ps, ⟨g0, t0, cs0, f0, p0, q0, hg0, ht0, hv0, hd0, _, _⟩, _, _⟩ := h
  obtain rfl := Option.some.inj (gZones.symm.trans hg0)
  obtain rfl := Option.some.inj (tZones.symm.trans ht0)
  obtain ⟨xs, m1, rfl, hx1, hlen, hn3, hel⟩ := DataW.trod_array u345 hd0
  rw [c3] at hel
  have c345 : Tryz.prog.cellsOf 345 = 3 := by kernel_rfl
  rw [c345] at hlen
  have e0 := hel 0 (by omega)
  have e1 := hel 1 (by omega)
  have e2 := hel 2 (by omega)
  have hv := fun j => World.var?_cell gZones hv0 j
  obtain ⟨l⟩ := cs0
  match l, hlen, xs, hn3, hx1, e0, e1, e2 with
  | [a, b, c], _, [x0, x1, x2], _, hx1, e0, e1, e2 =>
    obtain ⟨k0, r0, s0, _⟩ := DataW.trod_int u3 (show DataW.trod _ Tryz.prog W 0 _ false m1 3 _ = some x0 from e0)
    obtain ⟨k1, r1, s1, _⟩ := DataW.trod_int u3 (show DataW.trod _ Tryz.prog W 0 _ false m1 3 _ = some x1 from e1)
    obtain ⟨k2, r2, s2, _⟩ := DataW.trod_int u3 (show DataW.trod _ Tryz.prog W 0 _ false m1 3 _ = some x2 from e2)
    simp [Rows.laid_custos_cell_zones, s0, s1, s2] at hx1
    simp at r0 r1 r2
    obtain ⟨⟨rfl, rfl, rfl⟩, _⟩ := hx1
    subst r0; subst r1; subst r2
    simp only [T] at hg
    cases hb : Nat.beq g 0 with
    | false => rw [hb] at hg; cases hg
    | true =>
      rw [hb] at hg
      cases hg
      obtain rfl := Nat.eq_of_beq_eq_true hb
      have h0 := hv 0
      have h1 := hv 1
      have h2 := hv 2
      simp at h0 h1 h2
      have hz : ∀ (j : Nat) (v : AV), zones[j]? = some v → ∃ n : Int, v = .int .i64 n ∧ W.cell? ⟨0, 0 + j, none⟩ = some (.int .i64 n) := fun j v hj => by
        match j, hj with
        | 0, hj => cases hj; exact ⟨_, rfl, h0⟩
        | 1, hj => cases hj; exact ⟨_, rfl, h1⟩
        | 2, hj => cases hj; exact ⟨_, rfl, h2⟩
        | j + 3, hj => simp [zones] at hj
      refine ⟨rfl, .cptr (fun j => (W.cell? ⟨0, 0 + j, none⟩).getD undef) (cell_old h0) rfl (fun j v hj => ?_) (fun j v hj => ?_)⟩
      · obtain ⟨n, rfl, h⟩ := hz j v hj
        rw [h]; rfl
      · obtain ⟨n, rfl, h⟩ := hz j v hj
        rw [h]; exact .int _ _

theorem own : ownKnob Tryz.prog.godebug = none := by kernel_rfl
theorem laidOut : laidOutB Tryz.prog = true := by kernel_rfl
def lz : List (String × DataW Unit) := [("custos/cell.zones", Rows.laid_custos_cell_zones)]
theorem door_met (os : Os) (args : Array Value) : laidMetH Tryz.prog lz ((World.doorLaid Tryz.prog 400 os).forCall (fun _ _ => 0) ⟨#[], args, []⟩).memory :=
  laidMetH_of_parts3 (fuel := 8) (laidMet_of_run' 8 (by kernel_rfl) (by kernel_rfl)) (by kernel_rfl) (by kernel_rfl)
/-- An argument of a struct's or an array's type. -/
theorem arg_agg {t : TypeId} (hs : (match Tryz.prog.underlying t with | some (.struct _) | some (.array _ _) => true | _ => false) = true) {W : World} {base : Nat} {v : Value} (ho : Value.okWide Tryz.prog W .any base t v) {es : List AV} (hr : CellsRel W es v.cells.toList) : VR W (.agg es) v := by
  have key : (∃ cs, v = .agg cs) → VR W (.agg es) v := fun ⟨cs, e⟩ => by
    subst e
    exact .agg (by simpa [Value.cells] using hr.1) fun j u x h1 h2 => hr.2 j u x h1 (by simpa [Value.cells] using h2)
  unfold Value.okWide at ho
  split at ho
  · obtain ⟨cs, e, _⟩ := ho; exact key ⟨cs, e⟩
  · obtain ⟨cs, e, _⟩ := ho; exact key ⟨cs, e⟩
  · rename_i h1 h2
    split at hs
    · rename_i h; exact absurd h (h1 _)
    · rename_i h; exact absurd h (h2 _ _)
    · cases hs
end Go.Abs.C
end
