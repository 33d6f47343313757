/- The soundness of the walk's own code. Conditions: none. -/
import Derived.RangeFuncIn
import Derived.DefersIn
import Derived.Laws.CopyRow
import Derived.Laws.Append
set_option linter.unusedSimpArgs false
set_option linter.unusedVariables false
section
/- Abstract values of the walk: what a value of the machine reads as, with memory that only the call at hand may write told by numbers of its own; the relation to the machine's values; renaming and freezing. Conditions: none. -/
namespace Go.Abs

/-- A value, told without addresses: 'ptr', 'msl', 'gsl', 'mp', 'yld' name blocks that the call at hand may write by numbers of its own; 'cptr', 'csl' tell memory that nobody writes by what it holds. -/
inductive AV where
  | bool (b : Bool)
  | int (k : IntKind) (n : Int)
  | str (s : ByteArray)
  | ptr (b off : Nat)
  | cptr (cs : List AV)
  | nilp
  | msl (b off len cap : Nat)
  | gsl (b len w : Nat)
  | csl (cs : List AV) (len : Nat) (cap : Option Nat) (nn : Bool)
  | nils
  | mp (b : Nat)
  | nilm
  | yld (b : Nat)
  | fn (f : Fn) (first captured : List AV)
  | nilf
  | iface (t : TypeId) (v : AV)
  | nili
  | agg (cs : List AV)
  | tup (cs : List AV)
  deriving Inhabited

mutual
/-- Does it name no block? -/
def AV.pure : AV → Bool
  | .ptr _ _ | .msl _ _ _ _ | .gsl _ _ _ | .mp _ | .yld _ => false
  | .cptr cs | .csl cs _ _ _ | .agg cs | .tup cs => AV.pures cs
  | .fn _ a b => AV.pures a && AV.pures b
  | .iface _ v => v.pure
  | _ => true
def AV.pures : List AV → Bool
  | [] => true
  | v :: r => v.pure && AV.pures r
end

mutual
/-- Does it name no block, and is it told in the one form in which results are told? -/
def AV.canon : AV → Bool
  | .ptr _ _ | .msl _ _ _ _ | .gsl _ _ _ | .mp _ | .yld _ | .nils => false
  | .csl cs _ co nn => co.isNone && !nn && AV.canons cs
  | .cptr cs | .agg cs | .tup cs => AV.canons cs
  | .fn _ a b => AV.canons a && AV.canons b
  | .iface _ v => v.canon
  | _ => true
def AV.canons : List AV → Bool
  | [] => true
  | v :: r => v.canon && AV.canons r
end

mutual
/-- Is it a value that leads to no memory at all? -/
def AV.flat : AV → Bool
  | .bool _ | .int _ _ | .str _ | .nilp | .nils | .nilm | .nilf | .nili => true
  | .agg cs | .tup cs => AV.flats cs
  | .iface _ v => v.flat
  | _ => false
def AV.flats : List AV → Bool
  | [] => true
  | v :: r => v.flat && AV.flats r
end

/-- A slice of which nothing is known but that it holds nothing. -/
def Bare (cs : List AV) (len : Nat) (co : Option Nat) (nn : Bool) : Prop := len = 0 ∧ cs = [] ∧ co = none ∧ nn = false
theorem not_bare {cs : List AV} {len : Nat} {co : Option Nat} {nn : Bool} {j : Nat} {v : AV} (h : cs[j]? = some v) : ¬ Bare cs len co nn := fun hb => by rw [hb.2.1] at h; simp at h

/-- 'v' (of the walk) tells 'x' (of the machine), in the world w, where the blocks of D are written by nobody, and the walk's block i is the machine's ι[i]. -/
inductive VRel (w : World) (D : Nat → Prop) (ι : Nat → Option Nat) : AV → Value → Prop
  | bool (b) : VRel w D ι (.bool b) (.bool b)
  | int (k n) : VRel w D ι (.int k n) (.int k n)
  | str (s) : VRel w D ι (.str s) (.string s)
  | ptr {b off k} (h : ι b = some k) : VRel w D ι (.ptr b off) (.pointer (some ⟨k, off, none⟩))
  | cptr {cs a} (xs : Nat → Value) (hD : D a.block) (hs : a.spot = none) (hc : ∀ (j : Nat) (v : AV), cs[j]? = some v → w.cell? ⟨a.block, a.off + j, none⟩ = some (xs j))
      (hv : ∀ (j : Nat) (v : AV), cs[j]? = some v → VRel w D ι v (xs j)) : VRel w D ι (.cptr cs) (.pointer (some a))
  | nilp : VRel w D ι .nilp (.pointer none)
  | msl {b off len cap k} (h : ι b = some k) (hl : len ≤ cap) : VRel w D ι (.msl b off len cap) (.slice (some ⟨k, off, none⟩) len cap)
  | gsl {b len d cap k} (h : ι b = some k) (hl : len ≤ cap) (hs : ∀ c e f, w.heap[k]? = some (.cells c e f) → cap * d ≤ c.size) :
      VRel w D ι (.gsl b len d) (.slice (some ⟨k, 0, none⟩) len cap)
  | csl {cs len co nn a cap} (xs : Nat → Value) (hl : len ≤ cap) (hnn : nn = true → a ≠ none) (hco : ∀ c, co = some c → cap = c) (hn : a = none → cs = [] ∧ cap = 0)
      (hD : ∀ a', a = some a' → ¬ Bare cs len co nn → D a'.block ∧ a'.spot = none) (hc : ∀ a', a = some a' → ∀ (j : Nat) (v : AV), cs[j]? = some v → w.cell? ⟨a'.block, a'.off + j, none⟩ = some (xs j))
      (hv : ∀ (j : Nat) (v : AV), cs[j]? = some v → VRel w D ι v (xs j)) : VRel w D ι (.csl cs len co nn) (.slice a len cap)
  | nils : VRel w D ι .nils (.slice none 0 0)
  | mp {b k} (h : ι b = some k) : VRel w D ι (.mp b) (.map (some k))
  | nilm : VRel w D ι .nilm (.map none)
  | yld {b k} (h : ι b = some k) : VRel w D ι (.yld b) (.func (.yield k) #[] #[])
  | fn {f a b xs ys} (ha : xs.size = a.length) (hb : ys.size = b.length) (hx : ∀ (j : Nat) (v : AV) (x : Value), a[j]? = some v → xs[j]? = some x → VRel w D ι v x)
      (hy : ∀ (j : Nat) (v : AV) (x : Value), b[j]? = some v → ys[j]? = some x → VRel w D ι v x) : VRel w D ι (.fn f a b) (.func f xs ys)
  | nilf : VRel w D ι .nilf .nilFunc
  | iface {t v x} (h : VRel w D ι v x) : VRel w D ι (.iface t v) (.iface t x)
  | nili : VRel w D ι .nili .nilIface
  | agg {cs xs} (hn : xs.size = cs.length) (h : ∀ (j : Nat) (v : AV) (x : Value), cs[j]? = some v → xs[j]? = some x → VRel w D ι v x) : VRel w D ι (.agg cs) (.agg xs)
  | tup {cs xs} (hn : xs.size = cs.length) (h : ∀ (j : Nat) (v : AV) (x : Value), cs[j]? = some v → xs[j]? = some x → VRel w D ι v x) : VRel w D ι (.tup cs) (.tuple xs)

/-- A list of values, told in order. -/
def VRels (w : World) (D : Nat → Prop) (ι : Nat → Option Nat) (cs : List AV) (xs : Array Value) : Prop :=
  xs.size = cs.length ∧ ∀ (j : Nat) (v : AV) (x : Value), cs[j]? = some v → xs[j]? = some x → VRel w D ι v x

/-- What a change of the world must keep for the values told to stay as they are. -/
structure Keeps (D : Nat → Prop) (w w' : World) : Prop where
  same : ∀ k, D k → w'.heap[k]? = w.heap[k]?
  shape : ∀ k c e f, w'.heap[k]? = some (.cells c e f) → k < w.heap.size → ∃ c' f', w.heap[k]? = some (.cells c' e f') ∧ c'.size = c.size

theorem Keeps.refl (D : Nat → Prop) (w : World) : Keeps D w w := ⟨fun _ _ => rfl, fun _ c _ f h _ => ⟨c, f, h, rfl⟩⟩

theorem cell_of_block {w w' : World} {b o : Nat} {s : Option Nat} (h : w'.heap[b]? = w.heap[b]?) : w'.cell? ⟨b, o, s⟩ = w.cell? ⟨b, o, s⟩ := by simp [World.cell?, h]

theorem VRel.mono {w w' : World} {D D' : Nat → Prop} {ι ι' : Nat → Option Nat} (hk : Keeps D w w') (hD : ∀ k, D k → D' k) (hι : ∀ (b k : Nat), ι b = some k → ι' b = some k ∧ k < w.heap.size)
    {v : AV} {x : Value} (h : VRel w D ι v x) : VRel w' D' ι' v x := by
  induction h with
  | bool b => exact .bool b
  | int k n => exact .int k n
  | str s => exact .str s
  | ptr h => exact .ptr (hι _ _ h).1
  | cptr xs h1 h2 h3 _ ih => exact .cptr xs (hD _ h1) h2 (fun j v hj => (cell_of_block (hk.same _ h1)).trans (h3 j v hj)) ih
  | nilp => exact .nilp
  | msl h hl => exact .msl (hι _ _ h).1 hl
  | gsl h hl hs =>
    refine .gsl (hι _ _ h).1 hl fun c e f hc => ?_
    obtain ⟨c', f', h1, h2⟩ := hk.shape _ _ _ _ hc (hι _ _ h).2
    exact h2 ▸ hs c' e f' h1
  | csl xs hl hnn hco hn h1 h3 _ ih => exact .csl xs hl hnn hco hn (fun a' e hb => ⟨hD _ (h1 a' e hb).1, (h1 a' e hb).2⟩) (fun a' e j v hj => (cell_of_block (hk.same _ (h1 a' e (not_bare hj)).1)).trans (h3 a' e j v hj)) ih
  | nils => exact .nils
  | mp h => exact .mp (hι _ _ h).1
  | nilm => exact .nilm
  | yld h => exact .yld (hι _ _ h).1
  | fn ha hb _ _ i1 i2 => exact .fn ha hb i1 i2
  | nilf => exact .nilf
  | iface _ ih => exact .iface ih
  | nili => exact .nili
  | agg hn _ ih => exact .agg hn ih
  | tup hn _ ih => exact .tup hn ih

theorem VRels.mono {w w' : World} {D D' : Nat → Prop} {ι ι' : Nat → Option Nat} (hk : Keeps D w w') (hD : ∀ k, D k → D' k) (hι : ∀ (b k : Nat), ι b = some k → ι' b = some k ∧ k < w.heap.size)
    {cs : List AV} {xs : Array Value} (h : VRels w D ι cs xs) : VRels w' D' ι' cs xs := ⟨h.1, fun j v x h1 h2 => (h.2 j v x h1 h2).mono hk hD hι⟩

theorem VRels.nil {w D ι} : VRels w D ι [] #[] := ⟨rfl, fun j v x h => by simp at h⟩

theorem AV.pures_iff : ∀ {cs : List AV}, AV.pures cs = true ↔ ∀ v ∈ cs, v.pure = true
  | [] => by simp [AV.pures]
  | v :: r => by simp [AV.pures, AV.pures_iff (cs := r)]

theorem AV.flats_iff : ∀ {cs : List AV}, AV.flats cs = true ↔ ∀ v ∈ cs, v.flat = true
  | [] => by simp [AV.flats]
  | v :: r => by simp [AV.flats, AV.flats_iff (cs := r)]

/-- A value that names no block may be told under any names. -/
theorem VRel.pure_names {w : World} {D : Nat → Prop} {ι : Nat → Option Nat} (ι' : Nat → Option Nat) {v : AV} {x : Value} (h : VRel w D ι v x) (hp : v.pure = true) : VRel w D ι' v x := by
  induction h with
  | bool b => exact .bool b
  | int k n => exact .int k n
  | str s => exact .str s
  | ptr h => simp [AV.pure] at hp
  | cptr xs h1 h2 h3 _ ih => exact .cptr xs h1 h2 h3 fun j v hj => ih j v hj (AV.pures_iff.1 (by simpa [AV.pure] using hp) v (List.mem_of_getElem? hj))
  | nilp => exact .nilp
  | msl h hl => simp [AV.pure] at hp
  | gsl h hl hs => simp [AV.pure] at hp
  | csl xs hl hnn hco hn h1 h3 _ ih => exact .csl xs hl hnn hco hn h1 h3 fun j v hj => ih j v hj (AV.pures_iff.1 (by simpa [AV.pure] using hp) v (List.mem_of_getElem? hj))
  | nils => exact .nils
  | mp h => simp [AV.pure] at hp
  | nilm => exact .nilm
  | yld h => simp [AV.pure] at hp
  | fn ha hb _ _ i1 i2 =>
    simp only [AV.pure, Bool.and_eq_true] at hp
    exact .fn ha hb (fun j v x h1 h2 => i1 j v x h1 h2 (AV.pures_iff.1 hp.1 v (List.mem_of_getElem? h1))) (fun j v x h1 h2 => i2 j v x h1 h2 (AV.pures_iff.1 hp.2 v (List.mem_of_getElem? h1)))
  | nilf => exact .nilf
  | iface _ ih => exact .iface (ih (by simpa [AV.pure] using hp))
  | nili => exact .nili
  | agg hn _ ih => exact .agg hn fun j v x h1 h2 => ih j v x h1 h2 (AV.pures_iff.1 (by simpa [AV.pure] using hp) v (List.mem_of_getElem? h1))
  | tup hn _ ih => exact .tup hn fun j v x h1 h2 => ih j v x h1 h2 (AV.pures_iff.1 (by simpa [AV.pure] using hp) v (List.mem_of_getElem? h1))

/-- A value that leads to no memory may be told anywhere. -/
theorem VRel.flat_any {w : World} {D : Nat → Prop} {ι : Nat → Option Nat} (w' : World) (D' : Nat → Prop) (ι' : Nat → Option Nat) {v : AV} {x : Value} (h : VRel w D ι v x) (hp : v.flat = true) : VRel w' D' ι' v x := by
  induction h with
  | bool b => exact .bool b
  | int k n => exact .int k n
  | str s => exact .str s
  | nilp => exact .nilp
  | nils => exact .nils
  | nilm => exact .nilm
  | nilf => exact .nilf
  | iface _ ih => exact .iface (ih (by simpa [AV.flat] using hp))
  | nili => exact .nili
  | agg hn _ ih => exact .agg hn fun j v x h1 h2 => ih j v x h1 h2 (AV.flats_iff.1 (by simpa [AV.flat] using hp) v (List.mem_of_getElem? h1))
  | tup hn _ ih => exact .tup hn fun j v x h1 h2 => ih j v x h1 h2 (AV.flats_iff.1 (by simpa [AV.flat] using hp) v (List.mem_of_getElem? h1))
  | ptr | cptr | msl | gsl | csl | mp | yld | fn => simp [AV.flat] at hp

end Go.Abs
end

section
/- The walk's own code: operations with all that they ask of the types resolved ahead; what each does to values told without addresses. Conditions: none. -/
namespace Go.Abs

/-- An operand. -/
inductive Opd where
  | t (n : Nat)
  | c (v : AV)
  | g (n : Nat)
  deriving Inhabited

/-- How a value of a slice of bytes, a string, .. is turned. -/
inductive AOp where
  | mv (x : Opd)
  | pick (c a b : Opd)
  | alloc (z : List AV)
  | box (x : Opd)
  | build (z : List AV) (parts : List (Nat × Nat × Opd))
  | bsl (len : Nat) (z : List AV) (parts : List (Nat × Nat × Opd))
  | load (agg : Bool) (n : Nat) (a : Opd)
  | store (n : Nat) (a x : Opd)
  | nilc (x : Opd)
  | bin (op : BinOp) (x y : Opd)
  | eqb (neg : Bool) (x y : Opd)
  | eqf (neg : Bool) (ks : List Nat) (x y : Opd)
  | eqn (neg : Bool) (k : Nat) (x y : Opd)
  | un (op : UnOp) (x : Opd)
  | conv (k : IntKind) (x : Opd)
  | b2s (x : Opd)
  | mkif (t : TypeId) (x : Opd)
  | mkfn (f : Fn) (first captured : List Opd)
  | mkmap
  | mksl (z : List AV) (bytes : Nat) (len cap : Opd)
  | slc (w : Nat) (x : Opd) (lo hi : Option Opd)
  | slcs (x : Opd) (lo hi : Option Opd)
  | slca (n w : Nat) (x : Opd) (lo hi : Option Opd)
  | fld (off : Nat) (x : Opd)
  | fldv (agg : Bool) (off n : Nat) (x : Opd)
  | idxa (n w : Nat) (x i : Opd)
  | idxs (w : Nat) (x i : Opd)
  | idxv (n w : Nat) (agg : Bool) (x i : Opd)
  | idxt (x i : Opd)
  | lkp (g : Bool) (ks : List Nat) (z : AV) (m k : Opd) (ok : Bool)
  | mset (g : Bool) (ks : List Nat) (m k v : Opd)
  | ext (x : Opd) (i : Nat)
  | len (x : Opd)
  | lent (x : Opd)
  | cvs (x : Opd)
  | cap (x : Opd)
  | app (w bytes : Nat) (s x : Opd)
  | copy (w : Nat) (d s : Opd)
  | mx (xs : List Opd)
  | mn (xs : List Opd)
  | tas (t : TypeId) (z : AV) (x : Opd) (ok : Bool)
  | pan (x : Opd)
  | rcv
  | dfr (f : Opd) (xs : List Opd)
  | call (m : Nat) (f : Opd) (xs : List Opd)
  | inv (m : Nat) (r : Opd) (n : String) (xs : List Opd)
  deriving Inhabited

/-- An operation in its place: where its value goes; the operation whose answer lets it by (the temporary of that answer). -/
structure AO where
  dst : Option Nat
  guard : Option (Nat × Bool)
  op : AOp
  deriving Inhabited

/-- What is done between two regions to the walk's own book alone. -/
inductive Hint where
  | keep (ts : List Nat)
  | norm
  | fz (t : Nat)
  | fzc (t off : Nat)
  deriving Inhabited

inductive AC where
  | skip
  | ops (l : List AO) (draw : Option (List (Nat × Nat)))
  | seq (a b : AC)
  | cond (c : Opd) (t e : AC)
  | block (id : Nat) (b : AC)
  | loop (b : AC)
  | rng (f : Opd) (ps : List Nat) (a b : AC)
  | exit (id : Nat)
  | ret
  | hint (h : Hint) (c : AC)
  deriving Inhabited

inductive AJ where
  | ret
  | exit (id : Nat)
  deriving Inhabited, DecidableEq

/-- The record of a range over a function. -/
structure ALoop where
  state : LoopState
  pend : Option AJ
  env : List (Nat × AV)
  nt : Nat
  ps : List Nat
  a : AC
  b : AC
  deriving Inhabited

/-- A block that the call at hand may write. -/
inductive AB where
  | dead
  | row (cs : List AV)
  | map (es : List (AV × AV))
  | loop (r : ALoop)
  | dfr
  deriving Inhabited

inductive AEff where
  | no
  | upd (b : Nat) (B : AB)
  | new (B : AB)
  | mv (b : Nat) (B : AB)
  deriving Inhabited

def AV.cells : AV → List AV
  | .agg cs => cs
  | v => [v]

def AV.isCell : AV → Bool
  | .agg _ | .tup _ => false
  | _ => true

/-- Are two rows of cells alike? (Of bools (0), numbers (1), strings (2), in order.) -/
def aeqs : List Nat → List AV → List AV → Option Bool
  | [], [], [] => some true
  | 0 :: q, .bool a :: r, .bool b :: s => (aeqs q r s).map fun t => a == b && t
  | 1 :: q, .int j a :: r, .int k b :: s => if j = k then (aeqs q r s).map fun t => a == b && t else none
  | 2 :: q, .str a :: r, .str b :: s => (aeqs q r s).map fun t => a == b && t
  | _, _, _ => none

/-- Are two values alike, one of which is likely nil? k: pointers (0), slices (1), maps (2), functions (3), interface values (4). -/
def aeqn (k : Nat) (x y : AV) : Option Bool :=
  match k, x, y with
  | 0, .nilp, .nilp | 1, .nils, .nils | 2, .nilm, .nilm | 3, .nilf, .nilf | 4, .nili, .nili => some true
  | 0, .ptr _ _, .nilp | 0, .nilp, .ptr _ _ | 0, .cptr _, .nilp | 0, .nilp, .cptr _ => some false
  | 1, .msl _ _ _ _, .nils | 1, .nils, .msl _ _ _ _ | 1, .gsl _ _ _, .nils | 1, .nils, .gsl _ _ _ => some false
  | 1, .csl (_ :: _) _ _ _, .nils | 1, .nils, .csl (_ :: _) _ _ _ | 1, .csl [] _ _ true, .nils | 1, .nils, .csl [] _ _ true => some false
  | 2, .mp _, .nilm | 2, .nilm, .mp _ => some false
  | 3, .fn _ _ _, .nilf | 3, .nilf, .fn _ _ _ => some false
  | 4, .iface _ _, .nili | 4, .nili, .iface _ _ => some false
  | _, _, _ => none

def keq (g : Bool) (ks : List Nat) (x y : AV) : Option Bool :=
  if g then (match x, y with
    | .agg a, .agg b => aeqs ks a b
    | _, _ => none)
  else aeqs ks [x] [y]

def aint (op : BinOp) (k : IntKind) (x y : Int) : Option AV :=
  match op with
  | .add => some (.int k (k.wrap (x + y)))
  | .sub => some (.int k (k.wrap (x - y)))
  | .mul => some (.int k (k.wrap (x * y)))
  | .quo => if y = 0 then none else some (.int k (k.wrap (x.tdiv y)))
  | .rem => if y = 0 then none else some (.int k (x.tmod y))
  | .eql => some (.bool (x == y))
  | .neq => some (.bool (x != y))
  | .lss => some (.bool (decide (x < y)))
  | .leq => some (.bool (decide (x ≤ y)))
  | .gtr => some (.bool (decide (x > y)))
  | .geq => some (.bool (decide (x ≥ y)))
  | .and => some (.int k (k.wrap (BitVec.ofInt k.bits x &&& BitVec.ofInt k.bits y).toNat))
  | .or => some (.int k (k.wrap (BitVec.ofInt k.bits x ||| BitVec.ofInt k.bits y).toNat))
  | .xor => some (.int k (k.wrap (BitVec.ofInt k.bits x ^^^ BitVec.ofInt k.bits y).toNat))
  | .andNot => some (.int k (k.wrap (BitVec.ofInt k.bits x &&& ~~~ BitVec.ofInt k.bits y).toNat))
  | _ => none

def ashift (op : BinOp) (k : IntKind) (x y : Int) : Option AV :=
  if y < 0 then none else
  match op with
  | .shl => some (.int k (k.wrap (x * 2 ^ (min y.toNat k.bits))))
  | .shr => some (.int k (x.fdiv (2 ^ (min y.toNat k.bits))))
  | _ => none

def astr (op : BinOp) (x y : ByteArray) : Option AV :=
  match op with
  | .add => if ((x.size + y.size : Nat) : Int) > IntKind.i64.max then none else some (.str (x ++ y))
  | .eql => some (.bool (x.toList == y.toList))
  | .neq => some (.bool !(x.toList == y.toList))
  | .lss => some (.bool (Op.bytesLess x.toList y.toList))
  | _ => none

def abin (op : BinOp) : AV → AV → Option AV
  | .int k a, .int k' b =>
    match op with
    | .shl | .shr => ashift op k a b
    | _ => if k = k' then aint op k a b else none
  | .str a, .str b => astr op a b
  | _, _ => none

def aun (op : UnOp) : AV → Option AV
  | .bool b => match op with | .not => some (.bool !b) | _ => none
  | .int k n => match op with | .neg => some (.int k (k.wrap (0 - n))) | _ => none
  | _ => none

/-- n cells, from the head of a list on: a value of the type (an aggregate, or one cell). -/
def takeV (agg : Bool) (n : Nat) (cs : List AV) : Option AV :=
  if agg then (if n ≤ cs.length then some (.agg (cs.take n)) else none) else cs.head?

/-- Cells written over, from off on. -/
def over (cs : List AV) (off : Nat) (vs : List AV) : List AV := cs.take off ++ vs ++ cs.drop (off + vs.length)

def fillC : List AV → List (Nat × Nat × AV) → Option (List AV)
  | cs, [] => some cs
  | cs, (off, n, v) :: r => if v.cells.length = n ∧ off + n ≤ cs.length then fillC (over cs off v.cells) r else none

def optAll {α β : Type} (f : α → Option β) : List α → Option (List β)
  | [] => some []
  | a :: r => (f a).bind fun b => (optAll f r).map fun s => b :: s

def parts (ρ : Opd → Option AV) (l : List (Nat × Nat × Opd)) : Option (List (Nat × Nat × AV)) :=
  optAll (fun p => (ρ p.2.2).map fun v => (p.1, p.2.1, v)) l

def bound (ρ : Opd → Option AV) : Option Opd → Int → Option Int
  | none, d => some d
  | some o, _ => match ρ o with | some (.int _ n) => some n | _ => none

/-- The cells of a source (of len elements of w cells each). -/
def srcOf (rd : Nat → Option AB) (w : Nat) : AV → Option (List AV × Nat)
  | .nils => some ([], 0)
  | .csl cs len _ _ => if len * w ≤ cs.length then some (cs.take (len * w), len) else none
  | .msl b off len _ => match rd b with
    | some (.row cs) => if off + len * w ≤ cs.length then some ((cs.drop off).take (len * w), len) else none
    | _ => none
  | .gsl b len d => match rd b with
    | some (.row cs) => if len * w ≤ cs.length ∧ d = w then some (cs.take (len * w), len) else none
    | _ => none
  | .str s => if w = 1 then some (s.data.toList.map fun b => .int .u8 b.toNat, s.size) else none
  | _ => none

/-- A slice of bytes. -/
def srcOfS (rd : Nat → Option AB) : AV → Option (List AV × Nat)
  | .str _ => none
  | v => srcOf rd 1 v

def findE (g : Bool) (ks : List Nat) : List (AV × AV) → AV → Option (Option (Nat × AV))
  | [], _ => some none
  | (q, v) :: r, k => (keq g ks k q).bind fun t => if t then some (some (0, v)) else (findE g ks r k).map fun o => o.map fun p => (p.1 + 1, p.2)

def maxLen' : Nat := 2 ^ 47

inductive ARes where
  | val (v : AV) (e : AEff)
  | pan (v : AV)
  deriving Inhabited

def aop (ρ : Opd → Option AV) (rd : Nat → Option AB) (n : Nat) : AOp → Option ARes
  | .mv x => (ρ x).map fun v => .val v .no
  | .pick c a b => match ρ c with
    | some (.bool t) => (if t then ρ a else ρ b).map fun v => .val v .no
    | _ => none
  | .alloc z => some (.val (.ptr n 0) (.new (.row z)))
  | .box x => (ρ x).map fun v => .val (.ptr n 0) (.new (.row v.cells))
  | .build z ps => (parts ρ ps).bind fun l => (fillC z l).map fun cs => .val (.agg cs) .no
  | .bsl len z ps => (parts ρ ps).bind fun l => (fillC z l).map fun cs => .val (.msl n 0 len len) (.new (.row cs))
  | .load agg k a => match ρ a with
    | some (.ptr b off) => match rd b with
      | some (.row cs) => (takeV agg k (cs.drop off)).map fun v => .val v .no
      | _ => none
    | some (.cptr cs) => (takeV agg k cs).map fun v => .val v .no
    | _ => none
  | .store k a x => match ρ a, ρ x with
    | some (.ptr b off), some v => match rd b with
      | some (.row cs) => if v.cells.length = k ∧ off + k ≤ cs.length ∧ v.cells.all AV.isCell then some (.val (.tup []) (.upd b (.row (over cs off v.cells)))) else none
      | _ => none
    | _, _ => none
  | .nilc x => match ρ x with
    | some .nilp | some .nili | some .nilf | some (.fn (.method _) _ _) => none
    | some v => some (.val v .no)
    | none => none
  | .bin op x y => match ρ x, ρ y with
    | some a, some b => (abin op a b).map fun v => .val v .no
    | _, _ => none
  | .eqb neg x y => match ρ x, ρ y with
    | some (.bool a), some (.bool b) => some (.val (.bool (neg != (a == b))) .no)
    | _, _ => none
  | .eqf neg ks x y => match ρ x, ρ y with
    | some (.agg a), some (.agg b) => (aeqs ks a b).map fun t => .val (.bool (neg != t)) .no
    | _, _ => none
  | .eqn neg k x y => match ρ x, ρ y with
    | some a, some b => (aeqn k a b).map fun t => .val (.bool (neg != t)) .no
    | _, _ => none
  | .un op x => (ρ x).bind fun v => (aun op v).map fun v => .val v .no
  | .conv k x => match ρ x with
    | some (.int _ m) => some (.val (.int k (k.wrap m)) .no)
    | _ => none
  | .b2s x => (ρ x).bind fun v => (srcOfS rd v).bind fun p => (optAll (fun v => match v with | AV.int .u8 m => some (UInt8.ofNat m.toNat) | _ => none) p.1).map fun l => .val (.str ⟨l.toArray⟩) .no
  | .mkif t x => (ρ x).map fun v => .val (.iface t v) .no
  | .mkfn f a b => (optAll ρ a).bind fun a => (optAll ρ b).map fun b => .val (.fn f a b) .no
  | .mkmap => some (.val (.mp n) (.new (.map [])))
  | .mksl z bytes l c => match ρ l, ρ c with
    | some (.int _ l), some (.int _ c) => if 0 ≤ l ∧ l ≤ c ∧ c < 2 ^ 62 ∧ bytes * c ≤ 2 ^ 47 then some (.val (.msl n 0 l.toNat c.toNat) (.new (.row (List.replicate c.toNat z).flatten))) else none
    | _, _ => none
  | .slc w x lo hi => match ρ x with
    | some (.csl cs len co nn) => (bound ρ lo 0).bind fun l => (bound ρ hi len).bind fun h =>
      if 0 ≤ l ∧ l ≤ h ∧ (h ≤ len ∨ ∃ c, co = some c ∧ h ≤ c) then some (.val (.csl ((cs.drop (l.toNat * w)).take ((h - l).toNat * w)) (h - l).toNat (co.map (· - l.toNat)) (nn || !cs.isEmpty)) .no) else none
    | some (.msl b off len cap) => (bound ρ lo 0).bind fun l => (bound ρ hi len).bind fun h =>
      if 0 ≤ l ∧ l ≤ h ∧ h ≤ cap then some (.val (.msl b (if cap = l.toNat then off else off + l.toNat * w) (h - l).toNat (cap - l.toNat)) .no) else none
    | some (.gsl b len d) => (bound ρ lo 0).bind fun l => (bound ρ hi len).bind fun h =>
      if l = 0 ∧ 0 ≤ h ∧ h ≤ len then some (.val (.gsl b h.toNat d) .no) else none
    | some .nils => (bound ρ lo 0).bind fun l => (bound ρ hi 0).bind fun h => if l = 0 ∧ h = 0 then some (.val .nils .no) else none
    | _ => none
  | .slcs x lo hi => match ρ x with
    | some (.str s) => (bound ρ lo 0).bind fun l => (bound ρ hi s.size).bind fun h =>
      if 0 ≤ l ∧ l ≤ h ∧ h ≤ s.size then some (.val (.str (s.extract l.toNat h.toNat)) .no) else none
    | _ => none
  | .slca k w x lo hi => match ρ x with
    | some (.ptr b off) => (bound ρ lo 0).bind fun l => (bound ρ hi k).bind fun h =>
      if 0 ≤ l ∧ l ≤ h ∧ h ≤ k then some (.val (.msl b (if k = l.toNat then off else off + l.toNat * w) (h - l).toNat (k - l.toNat)) .no) else none
    | some (.cptr cs) => (bound ρ lo 0).bind fun l => (bound ρ hi k).bind fun h =>
      if 0 ≤ l ∧ l ≤ h ∧ h ≤ k then some (.val (.csl ((cs.drop (l.toNat * w)).take ((h - l).toNat * w)) (h - l).toNat (some (k - l.toNat)) true) .no) else none
    | _ => none
  | .fld off x => match ρ x with
    | some (.ptr b o) => some (.val (.ptr b (o + off)) .no)
    | some (.cptr cs) => some (.val (.cptr (cs.drop off)) .no)
    | _ => none
  | .fldv agg off k x => match ρ x with
    | some (.agg cs) => (takeV agg k (cs.drop off)).map fun v => .val v .no
    | _ => none
  | .idxa k w x i => match ρ x, ρ i with
    | some (.ptr b o), some (.int _ j) => if 0 ≤ j ∧ j < k then some (.val (.ptr b (o + j.toNat * w)) .no) else none
    | some (.cptr cs), some (.int _ j) => if 0 ≤ j ∧ j < k then some (.val (.cptr ((cs.drop (j.toNat * w)).take w)) .no) else none
    | _, _ => none
  | .idxs w x i => match ρ x, ρ i with
    | some (.csl cs len _ _), some (.int _ j) => if 0 ≤ j ∧ j < len then some (.val (.cptr ((cs.drop (j.toNat * w)).take w)) .no) else none
    | some (.msl b o len _), some (.int _ j) => if 0 ≤ j ∧ j < len then some (.val (.ptr b (o + j.toNat * w)) .no) else none
    | some (.gsl b len _), some (.int _ j) => if 0 ≤ j ∧ j < len then some (.val (.ptr b (j.toNat * w)) .no) else none
    | _, _ => none
  | .idxv k w agg x i => match ρ x, ρ i with
    | some (.agg cs), some (.int _ j) => if 0 ≤ j ∧ j < k then (takeV agg w (cs.drop (j.toNat * w))).map fun v => .val v .no else none
    | _, _ => none
  | .idxt x i => match ρ x, ρ i with
    | some (.str s), some (.int _ j) => if 0 ≤ j then (s[j.toNat]?).map fun b => .val (.int .u8 b.toNat) .no else none
    | _, _ => none
  | .lkp g ks z m k ok => match ρ m, ρ k with
    | some (.mp b), some k => match rd b with
      | some (.map es) => (keq g ks k k).bind fun _ => (findE g ks es k).map fun r =>
        match r with
        | some (_, v) => .val (if ok then .tup [v, .bool true] else v) .no
        | none => .val (if ok then .tup [z, .bool false] else z) .no
      | _ => none
    | _, _ => none
  | .mset g ks m k v => match ρ m, ρ k, ρ v with
    | some (.mp b), some k, some v => match rd b with
      | some (.map es) => (keq g ks k k).bind fun _ => (findE g ks es k).map fun r =>
        match r with
        | some (i, _) => .val (.tup []) (.upd b (.map (es.set i (k, v))))
        | none => .val (.tup []) (.upd b (.map (es ++ [(k, v)])))
      | _ => none
    | _, _, _ => none
  | .ext x i => match ρ x with
    | some (.tup vs) => (vs[i]?).map fun v => .val v .no
    | _ => none
  | .len x => match ρ x with
    | some (.csl _ l _ _) | some (.msl _ _ l _) | some (.gsl _ l _) => some (.val (.int .i64 l) .no)
    | some .nils => some (.val (.int .i64 0) .no)
    | _ => none
  | .lent x => match ρ x with
    | some (.str s) => some (.val (.int .i64 s.size) .no)
    | _ => none
  | .cvs x => match ρ x with
    | some (.str s) => some (.val (.str s) .no)
    | _ => none
  | .cap x => match ρ x with
    | some (.csl _ _ (some c) _) | some (.msl _ _ _ c) => some (.val (.int .i64 c) .no)
    | some .nils => some (.val (.int .i64 0) .no)
    | _ => none
  | .app w bytes s x => (ρ s).bind fun sv => (ρ x).bind fun xv => (srcOf rd w xv).bind fun p =>
    match sv with
    | .nils => if p.2 = 0 then some (.val .nils .no) else
      if p.2 * bytes ≤ maxLen' then some (.val (.gsl n p.2 w) (.new (.row p.1))) else none
    | .csl cs len co nn => if p.2 = 0 then some (.val (.csl cs len co nn) .no) else
      match co with
      | some c => if c < len + p.2 ∧ len * w ≤ cs.length ∧ (len + p.2) * bytes ≤ maxLen' then some (.val (.gsl n (len + p.2) w) (.new (.row (cs.take (len * w) ++ p.1)))) else none
      | none => none
    | .msl b off len cap => match rd b with
      | some (.row cs) =>
        if off + len * w ≤ cs.length then
          if len + p.2 ≤ cap then
            if off + (len + p.2) * w ≤ cs.length ∧ p.1.all AV.isCell then some (.val (.msl b off (len + p.2) cap) (.upd b (.row (over cs (off + len * w) p.1)))) else none
          else if (len + p.2) * bytes ≤ maxLen' then some (.val (.gsl n (len + p.2) w) (.new (.row ((cs.drop off).take (len * w) ++ p.1)))) else none
        else none
      | _ => none
    | .gsl b len d => match rd b with
      | some (.row cs) => if len * w ≤ cs.length ∧ d = w ∧ p.1.all AV.isCell ∧ (len + p.2) * bytes ≤ maxLen' then some (.val (.gsl n (len + p.2) w) (.mv b (.row (cs.take (len * w) ++ p.1)))) else none
      | _ => none
    | _ => none
  | .copy w d s => (ρ d).bind fun dv => (ρ s).bind fun sv => (srcOf rd w sv).bind fun p =>
    match dv with
    | .msl b off len _ => match rd b with
      | some (.row cs) => if off + len * w ≤ cs.length ∧ p.1.all AV.isCell then some (.val (.int .i64 (min p.2 len : Nat)) (.upd b (.row (over cs off (p.1.take (min p.2 len * w)))))) else none
      | _ => none
    | .gsl b len _ => match rd b with
      | some (.row cs) => if len * w ≤ cs.length ∧ p.1.all AV.isCell then some (.val (.int .i64 (min p.2 len : Nat)) (.upd b (.row (over cs 0 (p.1.take (min p.2 len * w)))))) else none
      | _ => none
    | _ => none
  | .mx xs => (optAll ρ xs).bind fun l => match l with
    | [.int k a, .int _ b] => some (.val (.int k (if a < b then b else a)) .no)
    | _ => none
  | .mn xs => (optAll ρ xs).bind fun l => match l with
    | [.int k a, .int _ b] => some (.val (.int k (if b < a then b else a)) .no)
    | _ => none
  | .tas t z x ok => match ρ x with
    | some (.iface u v) => if u = t then some (.val (if ok then .tup [v, .bool true] else v) .no) else if ok then some (.val (.tup [z, .bool false]) .no) else none
    | some .nili => if ok then some (.val (.tup [z, .bool false]) .no) else none
    | _ => none
  | .pan x => match ρ x with
    | some (.iface t v) => some (.pan (.iface t v))
    | _ => none
  | _ => none

def AEff.at (H : List AB) : AEff → List AB
  | .no => H
  | .upd b B => H.set b B
  | .new B => H ++ [B]
  | .mv b B => H.set b .dead ++ [B]

/-- What an operation is made of. -/
def AOp.opds : AOp → List Opd
  | .mv x | .box x | .load _ _ x | .nilc x | .un _ x | .conv _ x | .b2s x | .mkif _ x | .fld _ x | .fldv _ _ _ x | .ext x _ | .len x | .lent x | .cvs x | .cap x | .tas _ _ x _ | .pan x => [x]
  | .pick a b c | .mset _ _ a b c => [a, b, c]
  | .alloc _ | .mkmap | .rcv => []
  | .build _ ps | .bsl _ _ ps => ps.map (·.2.2)
  | .store _ a b | .bin _ a b | .eqb _ a b | .eqf _ _ a b | .eqn _ _ a b | .mksl _ _ a b | .idxa _ _ a b | .idxs _ a b | .idxv _ _ _ a b | .idxt a b | .lkp _ _ _ a b _ | .app _ _ a b | .copy _ a b => [a, b]
  | .mkfn _ a b => a ++ b
  | .slc _ x l h | .slcs x l h | .slca _ _ x l h => x :: (l.toList ++ h.toList)
  | .mx l | .mn l => l
  | .dfr f xs | .call _ f xs => f :: xs
  | .inv _ r _ xs => r :: xs

end Go.Abs
end

section
/- The walk's own code out of the machine's code ('comp'), and its run ('Sems'): a plain function, which the kernel can carry out. Conditions: none. -/
namespace Go.Abs

/-- What a constant tells. -/
def ofVal : Value → Option AV
  | .bool b => some (.bool b)
  | .int k n => some (.int k n)
  | .string s => some (.str s)
  | .pointer none => some .nilp
  | .slice none 0 0 => some .nils
  | .map none => some .nilm
  | .nilFunc => some .nilf
  | .nilIface => some .nili
  | _ => none

def ofCells : List Value → Option (List AV)
  | [] => some []
  | v :: r => (ofVal v).bind fun a => (ofCells r).map fun s => a :: s

def compO : Operand → Option Opd
  | .tmp t => some (.t t)
  | .const (.agg cs) => (ofCells cs.toList).map fun l => .c (.agg l)
  | .const v => (ofVal v).map .c
  | .global g => some (.g g)
  | .func f => some (.c (.fn (.func f) [] []))

section
variable (P : Program)

def zeroT (t : TypeId) : Option (List AV) := (P.info? t).bind fun i => i.zero.bind fun v => ofCells v.cells.toList
def zeroVT (t : TypeId) : Option AV := (P.info? t).bind fun i => i.zero.bind fun v => match v with
  | .agg cs => (ofCells cs.toList).map .agg
  | v => ofVal v
def aggT (t : TypeId) : Option Bool :=
  match P.underlying t with
  | some (.struct _) | some (.array _ _) => some true
  | some _ => some false
  | none => none
def sizeT (t : TypeId) : Option Nat := (P.info? t).map (·.size)
def flatGo (f : TypeId → Option (List Nat)) : List Field → List Nat → Option (List Nat)
  | [], ks => some ks
  | x :: r, ks => if x.name != "_" && x.offset == ks.length then (f x.type).bind fun q => flatGo f r (ks ++ q) else none
/-- A type whose values are bools, numbers, strings, in order: which. '==' goes cell by cell. -/
def flatK : Nat → TypeId → Option (List Nat)
  | 0, _ => none
  | d + 1, t =>
    match P.underlying t with
    | some .bool => if sizeT P t = some 1 then some [0] else none
    | some (.int _) => if sizeT P t = some 1 then some [1] else none
    | some .string => if sizeT P t = some 1 then some [2] else none
    | some (.struct fs) => if P.stoodInHeld t then none else (flatGo (flatK d) fs.toList []).bind fun ks => if sizeT P t = some ks.length then some ks else none
    | some (.array n e) => (flatK d e).bind fun ks => if sizeT P t = some (n * ks.length) then some (List.replicate n ks).flatten else none
    | _ => none
def isK : Operand → Bool
  | .const _ => true
  | _ => false
/-- '==' (neg: '!=') at a type. c: an operand is a constant. -/
def compEq (neg c : Bool) (t : TypeId) (x y : Opd) : Option AOp :=
  match P.underlying t with
  | some (.int _) | some .string => some (.bin (if neg then .neq else .eql) x y)
  | some .bool => some (.eqb neg x y)
  | some (.struct _) | some (.array _ _) => if P.eqGuardType P.depth t then none else (flatK P 20 t).map fun ks => .eqf neg ks x y
  | some (.pointer _) => some (.eqn neg 0 x y)
  | some (.slice _) => some (.eqn neg 1 x y)
  | some (.map _ _) => some (.eqn neg 2 x y)
  | some (.func _ _ _) => some (.eqn neg 3 x y)
  | some (.interface _) => if c then some (.eqn neg 4 x y) else none
  | _ => none

def compOs : List Operand → Option (List Opd)
  | [] => some []
  | o :: r => (compO o).bind fun a => (compOs r).map fun s => a :: s

def compOpt : Option Operand → Option (Option Opd)
  | none => some none
  | some o => (compO o).map some

def compParts (place : Nat → Option (Nat × Nat)) : List (Nat × Operand) → Option (List (Nat × Nat × Opd))
  | [] => some []
  | (i, x) :: r => (place i).bind fun p => (compO x).bind fun x => (compParts place r).map fun s => (p.1, p.2, x) :: s

def places : List Field → Option (List (Nat × Nat))
  | [] => some []
  | f :: r => (sizeT P f.type).bind fun w => (places r).map fun s => (f.offset, w) :: s

def compCall (c : Call) : Option AOp :=
  match c.callee with
  | .value f => (compO f).bind fun f => (compOs c.args.toList).map fun xs => .call 0 f xs
  | .invoke r m => (compO r).bind fun r => (compOs c.args.toList).map fun xs => .inv 0 r m xs
  | .builtin .recover => some .rcv
  | .builtin b => (compOs c.args.toList).bind fun xs =>
    match b, xs with
    | .len, [x] =>
      match (c.argTypes[0]?).bind P.underlying with
      | some .string => some (.lent x)
      | some (.slice _) => some (.len x)
      | some (.array n _) => some (.mv (.c (.int .i64 n)))
      | some (.pointer a) => match P.underlying a with
        | some (.array n _) => some (.mv (.c (.int .i64 n)))
        | _ => none
      | _ => none
    | .cap, [x] =>
      match (c.argTypes[0]?).bind P.underlying with
      | some (.slice _) => some (.cap x)
      | _ => none
    | .append, [s, x] =>
      match (c.argTypes[0]?).bind P.underlying, (c.argTypes[1]?).bind P.underlying with
      | some (.slice _), some (.int _) => none
      | some (.slice e), some _ => (P.info? e).bind fun i => (zeroT P e).bind fun z => if i.bytes = 0 ∨ i.size = 0 ∨ z.length ≠ i.size then none else some (.app i.size i.bytes s x)
      | _, _ => none
    | .copy, [d, s] =>
      match (c.argTypes[0]?).bind P.underlying with
      | some (.slice e) => (sizeT P e).bind fun w => if w = 0 then none else some (.copy w d s)
      | _ => none
    | .max, [x, y] => some (.mx [x, y])
    | .min, [x, y] => some (.mn [x, y])
    | _, _ => none

def compOp (o : Oper) : Option AOp :=
  match o.op with
  | .move x | .assign x => (compO x).map .mv
  | .pick c a b => (compO c).bind fun c => (compO a).bind fun a => (compO b).map fun b => .pick c a b
  | .alloc t => (zeroT P t).map .alloc
  | .box _ x => (compO x).map .box
  | .build t ps => (zeroT P t).bind fun z =>
    match P.underlying t with
    | some (.struct fs) => (places P fs.toList).bind fun pl => (compParts (pl[·]?) ps.toList).map fun l => .build z l
    | some (.array _ e) => (sizeT P e).bind fun w => (compParts (fun i => some (i * w, w)) ps.toList).map fun l => .build z l
    | _ => none
  | .buildSlice t len ps =>
    match P.underlying t with
    | some (.slice e) => (sizeT P e).bind fun w => (zeroT P e).bind fun z => if len * w > 2 ^ 24 ∨ z.length ≠ w ∨ w = 0 then none else
      (compParts (fun i => some (i * w, w)) ps.toList).map fun l => .bsl len (List.replicate len z).flatten l
    | _ => none
  | .load t a => (aggT P t).bind fun g => (sizeT P t).bind fun n => (compO a).map fun a => .load g n a
  | .store t a x => (sizeT P t).bind fun n => (compO a).bind fun a => (compO x).map fun x => .store n a x
  | .nilCheck x => (compO x).map .nilc
  | .binOp op t x y _ => (compO x).bind fun x' => (compO y).bind fun y' =>
    match op with
    | .eql => compEq P false (isK x || isK y) t x' y'
    | .neq => compEq P true (isK x || isK y) t x' y'
    | op => some (.bin op x' y')
  | .unOp op _ x => (compO x).map fun x => .un op x
  | .convert src dst x => (compO x).bind fun x =>
    match P.underlying src, P.underlying dst with
    | some (.int _), some (.int k) => some (.conv k x)
    | some .string, some .string => some (.cvs x)
    | some (.slice e), some .string => match P.underlying e with
      | some (.int .u8) => some (.b2s x)
      | _ => none
    | _, _ => none
  | .makeInterface t x => match P.underlying t with
    | some (.interface _) => none
    | some _ => (compO x).map fun x => .mkif t x
    | none => none
  | .makeFunc f a b => (compOs a.toList).bind fun a => (compOs b.toList).map fun b => .mkfn f a b
  | .makeMap t none => match P.underlying t with
    | some (.map _ _) => some .mkmap
    | _ => none
  | .makeSlice t l c => match P.underlying t with
    | some (.slice e) => (P.info? e).bind fun i => (zeroT P e).bind fun z => if z.length ≠ i.size ∨ i.size = 0 then none else (compO l).bind fun l => (compO c).map fun c => .mksl z i.bytes l c
    | _ => none
  | .slice t x lo hi none => (compO x).bind fun x => (compOpt lo).bind fun lo => (compOpt hi).bind fun hi =>
    match P.underlying t with
    | some .string => some (.slcs x lo hi)
    | some (.slice e) => (sizeT P e).bind fun w => if w = 0 then none else some (.slc w x lo hi)
    | some (.array n e) => (sizeT P e).bind fun w => if w = 0 then none else some (.slca n w x lo hi)
    | some (.pointer a) => match P.underlying a with
      | some (.array n e) => (sizeT P e).bind fun w => if w = 0 then none else some (.slca n w x lo hi)
      | _ => none
    | _ => none
  | .fieldAddr t x f => match P.underlying t with
    | some (.struct fs) => (fs[f]?).bind fun f => (sizeT P f.type).bind fun w => if w = 0 then none else (compO x).map fun x => .fld f.offset x
    | _ => none
  | .field t x f => match P.underlying t with
    | some (.struct fs) => (fs[f]?).bind fun f => (sizeT P f.type).bind fun w => (aggT P f.type).bind fun g => (compO x).map fun x => .fldv g f.offset w x
    | _ => none
  | .indexAddr t x i => (compO x).bind fun x => (compO i).bind fun i =>
    match P.underlying t with
    | some (.array n e) => (sizeT P e).bind fun w => if w = 0 then none else some (.idxa n w x i)
    | some (.slice e) => (sizeT P e).bind fun w => if w = 0 then none else some (.idxs w x i)
    | _ => none
  | .index t x i => (compO x).bind fun x => (compO i).bind fun i =>
    match P.underlying t with
    | some (.array n e) => (sizeT P e).bind fun w => (aggT P e).map fun g => .idxv n w g x i
    | some .string => some (.idxt x i)
    | _ => none
  | .lookup t m k ok => match P.underlying t with
    | some (.map kt e) => (flatK P 20 kt).bind fun ks => (aggT P kt).bind fun kg => (compO m).bind fun m => (compO k).bind fun k => (zeroVT P e).map fun z => .lkp kg ks z m k ok
    | _ => none
  | .mapUpdate t m k v | .insert t m k v => match P.underlying t with
    | some (.map kt _) => (flatK P 20 kt).bind fun ks => (aggT P kt).bind fun kg => (compO m).bind fun m => (compO k).bind fun k => (compO v).map fun v => .mset kg ks m k v
    | _ => none
  | .extract x i => (compO x).map fun x => .ext x i
  | .call c => compCall P c
  | .defer c => match c.callee with
    | .value f => (compO f).bind fun f => (compOs c.args.toList).map fun xs => .dfr f xs
    | _ => none
  | .panic x => (compO x).map .pan
  | .typeAssert x _ t ok => match P.underlying t with
    | some (.interface _) | none => none
    | some _ => (zeroVT P t).bind fun z => (compO x).map fun x => .tas t z x ok
  | _ => none

/-- May it write or make a block? -/
def AOp.eff : AOp → Bool
  | .alloc _ | .box _ | .bsl _ _ _ | .store _ _ _ | .mkmap | .mksl _ _ _ _ | .mset _ _ _ _ _ | .app _ _ _ _ | .copy _ _ _ | .call _ _ _ | .inv _ _ _ _ | .rcv | .dfr _ _ => true
  | _ => false

def compGuard (ops : Array Oper) : Option (Nat × Bool) → Option (Option (Nat × Bool))
  | none => some none
  | some (j, want) => ((ops[j]?).bind (·.dst)).map fun t => some (t, want)

def compAO (ops : Array Oper) : List Oper → Option (List AO)
  | [] => some []
  | o :: r => (compGuard ops o.guard).bind fun g => (compOp P o).bind fun a => (compAO ops r).map fun s => ⟨o.dst, g, a⟩ :: s

/-- The pairs of operations that Go leaves unordered, one of which may write or make a block. -/
def loose (ops : Array Oper) (l : List AO) : List (Nat × Nat) :=
  let b := Region.before ops
  let n := l.length
  (List.range n).flatMap fun i => if !((l[i]?).any (·.op.eff)) then [] else
    (List.range n).filterMap fun j => if i = j || (b.getD i 0).testBit j || (b.getD j 0).testBit i then none else
      match l[j]? with
      | some ⟨_, _, .mv _⟩ | some ⟨_, _, .pick _ _ _⟩ | some ⟨_, _, .fld _ _⟩ | some ⟨_, _, .ext _ _⟩ | some ⟨_, _, .bin _ _ _⟩ | some ⟨_, _, .eqb _ _ _⟩ | some ⟨_, _, .eqf _ _ _ _⟩ | some ⟨_, _, .eqn _ _ _ _⟩ | some ⟨_, _, .un _ _⟩ | some ⟨_, _, .conv _ _⟩ | some ⟨_, _, .len _⟩ | some ⟨_, _, .lent _⟩ | some ⟨_, _, .cvs _⟩
      | some ⟨_, _, .idxs _ _ _⟩ | some ⟨_, _, .idxa _ _ _ _⟩ | some ⟨_, _, .fldv _ _ _ _⟩ | some ⟨_, _, .build _ _⟩ | some ⟨_, _, .mkfn _ _ _⟩ | some ⟨_, _, .mkif _ _⟩ | some ⟨_, _, .nilc _⟩ => none
      | _ => some (i, j)

/-- What a drawn region's text must keep (mixed: the orders of several compilers may be mixed): every operation hangs on earlier ones alone; what it reads is written, if in the region, by one that Go orders before it or behind it; no two write the same. -/
def drawOk (mixed : Bool) (ops : Array Oper) (l : List AO) : Bool :=
  let b := Region.before ops
  (mixed || !Region.departs ops) && (ops.toList.zipIdx.all fun (o, i) => o.after.all fun e => !Region.binds .any e || e.on < i) &&
  l.zipIdx.all fun (o, j) => l.zipIdx.all fun (p, i) => match p.dst with
    | none => true
    | some t => (i == j || o.dst != some t) && ((b.getD j 0).testBit i || (b.getD i 0).testBit j || !(o.op.opds.any (fun x => match x with | .t u => u == t | _ => false) || o.guard.any (·.1 == t)))

/-- Without the hints. -/
def AOp.erase : AOp → AOp
  | .call _ f xs => .call 0 f xs
  | .inv _ r n xs => .inv 0 r n xs
  | o => o
def AC.erase : AC → AC
  | .ops l d => .ops (l.map fun o => { o with op := o.op.erase }) d
  | .hint _ c => c.erase
  | .seq a b => .seq a.erase b.erase
  | .cond c t e => .cond c t.erase e.erase
  | .block id b => .block id b.erase
  | .loop b => .loop b.erase
  | .rng f ps a b => .rng f ps a.erase b.erase
  | c => c

def comp : Code → Option AC
  | .skip => some .skip
  | .region _ ops draw => (compAO P ops ops.toList).bind fun l => if draw then (if drawOk (P.follows .mixedOrders) ops l then some (.ops l (some (loose ops l))) else none) else some (.ops l none)
  | .seq a b => (comp a).bind fun a => (comp b).map fun b => .seq a b
  | .cond c t e => (compO c).bind fun c => (comp t).bind fun t => (comp e).map fun e => .cond c t e
  | .block id b => (comp b).map (.block id)
  | .loop b => (comp b).map .loop
  | .rangeFunc f ps a b => if ¬ ps.toList.Nodup then none else (compO f).bind fun f => (comp a).bind fun a => (comp b).map fun b => .rng f ps.toList a b
  | .exit id => some (.exit id)
  | .ret => some .ret
  | _ => none
end

end Go.Abs
end

section
/- The run of the walk's own code: a plain function of what is told without addresses. Conditions: none. -/
namespace Go.Abs

mutual
/-- Blocks by other numbers. -/
def AV.ren (f : Nat → Option Nat) : AV → Option AV
  | .ptr b o => (f b).map fun b => .ptr b o
  | .msl b o l c => (f b).map fun b => .msl b o l c
  | .gsl b l w => (f b).map fun b => .gsl b l w
  | .mp b => (f b).map .mp
  | .yld b => (f b).map .yld
  | .cptr cs => (AV.rens f cs).map .cptr
  | .csl cs l c nn => (AV.rens f cs).map fun cs => .csl cs l c nn
  | .agg cs => (AV.rens f cs).map .agg
  | .tup cs => (AV.rens f cs).map .tup
  | .fn g a b => (AV.rens f a).bind fun a => (AV.rens f b).map fun b => .fn g a b
  | .iface t v => (v.ren f).map fun v => .iface t v
  | v => some v
def AV.rens (f : Nat → Option Nat) : List AV → Option (List AV)
  | [] => some []
  | v :: r => (v.ren f).bind fun v => (AV.rens f r).map fun r => v :: r
end

/-- Blocks by other numbers: what names none stays. -/
def AV.renP (f : Nat → Option Nat) (v : AV) : Option AV := if v.pure then some v else v.ren f
def rensP (f : Nat → Option Nat) (l : List AV) : Option (List AV) := if AV.pures l then some l else optAll (AV.renP f) l

/-- A list of values, each by f, if it is not yet in the form asked. -/
def frzL (ar : Bool) (f : AV → Option AV) (l : List AV) : Option (List AV) := if AV.canons l || ar && AV.pures l then some l else optAll f l

/-- What a value reads as where all that it leads to is left alone from now on. ar: an argument's (a slice that is not nil is known as such); else a result's, in its one form. -/
def frz (H : List AB) (ar : Bool) : Nat → AV → Option AV
  | 0, v => if v.canon || ar && v.pure then some v else none
  | n + 1, v => if v.canon || ar && v.pure then some v else
    match v with
    | .nils => some (.csl [] 0 none false)
    | .ptr b off => match H[b]? with
      | some (.row cs) => if off ≤ cs.length then (frzL ar (frz H ar n) (cs.drop off)).map .cptr else none
      | _ => none
    | .msl b off len _ => match H[b]? with
      | some (.row cs) => if off ≤ cs.length then (frzL ar (frz H ar n) (cs.drop off)).map fun cs => .csl cs len none ar else none
      | _ => none
    | .gsl b len w => match H[b]? with
      | some (.row cs) => if len * w ≤ cs.length then (frzL ar (frz H ar n) (cs.take (len * w))).map fun cs => .csl cs len none ar else none
      | _ => none
    | .fn f a b => (frzL ar (frz H ar n) a).bind fun a => (frzL ar (frz H ar n) b).map fun b => .fn f a b
    | .cptr cs => (frzL ar (frz H ar n) cs).map .cptr
    | .csl cs l _ nn => (frzL ar (frz H ar n) cs).map fun cs => .csl cs l none (ar && nn)
    | .iface t v => (frz H ar n v).map fun v => .iface t v
    | .agg cs => (frzL ar (frz H ar n) cs).map .agg
    | .tup cs => (frzL ar (frz H ar n) cs).map .tup
    | _ => none

/-- The blocks that freezing a value shuts. -/
def kil (H : List AB) : Nat → AV → List Nat
  | 0, _ => []
  | n + 1, v => if v.pure then [] else
    match v with
    | .ptr b _ | .msl b _ _ _ | .gsl b _ _ => b :: (match H[b]? with | some (.row cs) => if AV.pures cs then [] else cs.flatMap (kil H n) | _ => [])
    | .fn _ a b => a.flatMap (kil H n) ++ b.flatMap (kil H n)
    | .cptr cs | .csl cs _ _ _ | .agg cs | .tup cs => cs.flatMap (kil H n)
    | .iface _ v => kil H n v
    | .mp b | .yld b => [b]
    | _ => []

def depthF : Nat := 30

abbrev Env := List (Nat × AV)

def Env.get : Env → Nat → Option AV
  | [], _ => none
  | (k, v) :: r, t => if k = t then some v else Env.get r t
def Env.del : Env → Nat → Env
  | [], _ => []
  | (k, v) :: r, t => if k = t then Env.del r t else (k, v) :: Env.del r t
def Env.keep (e : Env) : List Nat → Env
  | [] => []
  | t :: r => match e.get t with
    | some v => (t, v) :: Env.keep e r
    | none => Env.keep e r

inductive ADf where
  | mark (b : Nat)
  | call (f : Nat) (xs : List AV)
  deriving Inhabited

/-- The state of a frame: what its temporaries tell, the blocks, its deferred calls; ahead of it: base blocks that were there when the function (or the round) began, nt temporaries; ro: in a round of that loop. -/
structure ASt where
  env : Env
  H : List AB
  dfs : List ADf
  base : Nat
  nt : Nat
  ro : Option Nat
  deriving Inhabited

inductive AExit where
  | normal
  | ret
  | exit (id : Nat)
  | panic (v : AV)
  deriving Inhabited

inductive AEnd where
  | ret (v : AV)
  | pan (v : AV)
  deriving Inhabited

inductive ARs where
  | t (n : Nat)
  | cell (agg : Bool) (n : Nat) (t : Nat)
  deriving Inhabited

structure AFun where
  nt : Nat
  body : AC
  res : List ARs
  deriving Inhabited

/-- The functions by number; what package-level variables hold; the methods by a type and a name, with what is read through the pointer first. -/
structure Tab where
  fn : Nat → Option AFun
  gl : Nat → Option (List AV)
  meth : Nat → String → Option (Nat × Option (Bool × Nat))
  prim : Nat → List AV → Option AV

structure Sems where
  code : AC → ASt → Option (AExit × ASt)
  call : Nat → List AV → List AB → Option (AEnd × List AB)

section
variable (T : Tab) (S : Sems)

def val (e : Env) : Opd → Option AV
  | .t n => e.get n
  | .c v => some v
  | .g n => (T.gl n).map .cptr

def ASt.put (st : ASt) (d : Option Nat) (v : AV) : Option ASt :=
  match d with
  | none => some st
  | some d => if d < st.nt then some { st with env := (d, v) :: st.env } else none

def renB (f : Nat → Option Nat) : AB → Option AB
  | .row cs => (rensP f cs).map .row
  | .map es => (rensP f (es.map (·.1))).bind fun ks => (rensP f (es.map (·.2))).map fun vs => .map (ks.zip vs)
  | .loop r => (rensP f (r.env.map (·.2))).map fun vs => .loop { r with env := (r.env.map (·.1)).zip vs }
  | B => some B

/-- The blocks that arguments lead to are left alone from now on. -/
def shut (H : List AB) (xs : List AV) : List AB := (xs.flatMap (kil H depthF)).foldl (fun H b => H.set b .dead) H

/-- no memory but blocks of the call's own -/
def noc1 : AV → Bool
  | .ptr _ _ | .msl _ _ _ _ | .gsl _ _ _ | .mp _ => true
  | v => v.flat
def noc : AV → Bool
  | .tup vs => vs.all noc1
  | v => noc1 v
def nocB : AB → Bool
  | .row cs => cs.all noc
  | .map es => es.all fun p => noc p.1 && noc p.2
  | .loop _ => false
  | _ => true

/-- A call of a function. -/
def enter (m : Nat) (f : Nat) (xs : List AV) (H : List AB) : Option (AEnd × List AB) :=
  match T.prim f xs with
  | some v => some (.ret v, H)
  | none =>
    if m = 2 then S.call f xs H
    else (optAll (frz H true depthF) xs).bind fun ys => (S.call f ys []).bind fun r =>
      match r with
      | (.ret v, H') =>
        if m = 1 then
          (v.renP fun b => some (b + H.length)).bind fun v => (optAll (renB fun b => some (b + H.length)) H').map fun Hn =>
            (.ret v, (if AV.pures xs || noc v && Hn.all nocB then H else shut H xs) ++ Hn)
        else (frz H' false depthF v).map fun v => (.ret v, if AV.pures xs || v.flat then H else shut H xs)
      | (.pan v, H') => (frz H' false depthF v).bind fun v => if v.flat then some (.pan v, H) else none

/-- A round of a range over a function. -/
def round (b : Nat) (xs : List AV) (H : List AB) : Option (AEnd × List AB) :=
  match H[b]? with
  | some (.loop r) =>
    if r.state = .ready ∧ xs.length = r.ps.length then
      match S.code r.a ⟨r.ps.zip xs ++ r.env, H, [], H.length, r.nt, some b⟩ with
      | some (.normal, st) =>
        match st.H[b]? with
        | some (.loop r1) =>
          if r1.state = .ready then
            match S.code r.b { st with H := st.H.set b (.loop { r1 with state := .busy }) } with
            | some (e, st2) =>
              match st2.H[b]? with
              | some (.loop r2) =>
                match e with
                | .normal => some (.ret (.bool true), st2.H.set b (.loop { r2 with state := .ready, pend := none }))
                | .ret => some (.ret (.bool false), st2.H.set b (.loop { r2 with state := .done, pend := some .ret }))
                | .exit id => some (.ret (.bool false), st2.H.set b (.loop { r2 with state := .done, pend := some (.exit id) }))
                | .panic _ => none
              | _ => none
            | none => none
          else none
        | _ => none
      | _ => none
    else none
  | _ => none

/-- A call of a function value. -/
def invoke (m : Nat) (f : AV) (xs : List AV) (H : List AB) : Option (AEnd × List AB) :=
  match f with
  | .fn (.func k) [] caps => enter T S m k (xs ++ caps) H
  | .yld b => round S b xs H
  | _ => none

inductive AStep where
  | next (st : ASt)
  | out (e : AExit) (st : ASt)

/-- Behind a call. -/
def finO (d : Option Nat) (st : ASt) : AEnd × List AB → Option AStep
  | (.ret v, H) => (({ st with H := H } : ASt).put d v).map .next
  | (.pan v, H) => some (.out (.panic v) { st with H := H })

def stepO (o : AO) (st : ASt) : Option AStep :=
  let ρ := val T st.env
  match o.op with
  | .call m f xs => (ρ f).bind fun f => (optAll ρ xs).bind fun xs => (invoke T S m f xs st.H).bind (finO o.dst st)
  | .inv md r m xs => (ρ r).bind fun r => (optAll ρ xs).bind fun xs =>
    match r with
    | .iface t v => (T.meth t m).bind fun q =>
      match q with
      | (k, none) => (enter T S md k (v :: xs) st.H).bind (finO o.dst st)
      | (k, some (g, n)) =>
        match v with
        | .ptr b off => match st.H[b]? with
          | some (.row cs) => (takeV g n (cs.drop off)).bind fun v => (enter T S md k (v :: xs) st.H).bind (finO o.dst st)
          | _ => none
        | .cptr cs => (takeV g n cs).bind fun v => (enter T S md k (v :: xs) st.H).bind (finO o.dst st)
        | _ => none
    | _ => none
  | .rcv => none
  | .dfr f xs => (ρ f).bind fun f => (optAll ρ xs).bind fun xs =>
    match f, st.ro, o.dst with
    | .fn (.func k) [] caps, none, none => some (.next { st with dfs := .call k (xs ++ caps) :: st.dfs })
    | _, _, _ => none
  | op =>
    match aop ρ (st.H[·]?) st.H.length op with
    | some (.val v e) => ({ st with H := e.at st.H }.put o.dst v).map .next
    | some (.pan v) => some (.out (.panic v) st)
    | none => none

/-- Is an operation let by? -/
def guardO (o : AO) (st : ASt) : Option Bool :=
  match o.guard with
  | none => some true
  | some (t, want) => match st.env.get t with
    | some (.bool b) => some (b == want)
    | some (.tup []) => some false
    | _ => none

def skipO (o : AO) (st : ASt) : Option ASt := st.put o.dst (.tup [])

def runOps : List AO → ASt → Option AStep
  | [], st => some (.next st)
  | o :: r, st =>
    match guardO o st with
    | some true => match stepO T S o st with
      | some (.next st) => runOps r st
      | x => x
    | some false => (skipO o st).bind (runOps r)
    | none => none

/-- The block that a value leads to at once. -/
def topB : AV → List Nat
  | .ptr b _ | .msl b _ _ _ | .gsl b _ _ | .mp b => [b]
  | _ => []

/-- The blocks that an effect turns or makes. -/
def AEff.tch (n : Nat) : AEff → List Nat
  | .no => []
  | .upd b _ => [b]
  | .new _ => [n]
  | .mv b _ => [b, n]

def dead? : Option AB → Bool
  | some .dead | none => true
  | _ => false

/-- What an operation comes to: the blocks that it turns or makes (none: it may be any), those that it reads, and whether all that is made or turned must stand as it does in the text's order. -/
structure Tch where
  tau : Option (List Nat)
  acc : List Nat
  rigid : Bool

def pureCall (o : AO) (st : ASt) : Bool :=
  match o.op with
  | .call 0 f xs => match val T st.env f, optAll (val T st.env) xs with
    | some (.fn (.func _) [] caps), some vs => AV.pures (vs ++ caps)
    | _, _ => false
  | _ => false

/-- The blocks that an operation's operands lead to at once. -/
def accO (E : Env) (op : AOp) : List Nat := op.opds.flatMap fun o => ((val T E o).map topB).getD []

/-- The blocks that a call has made or shut. -/
def shutBy (st st1 : ASt) : List Nat := (List.range st1.H.length).filter fun b => st.H.length ≤ b || (!dead? st.H[b]? && dead? st1.H[b]?)

def tchO (o : AO) (st st1 : ASt) : Tch :=
  match o.op with
  | .call m f _ =>
    if pureCall T o st then ⟨some [], [], false⟩
    else match val T st.env f with
      | some (.yld _) => ⟨none, [], true⟩
      | _ => if m < 2 then ⟨some (shutBy st st1), [], true⟩ else ⟨none, [], true⟩
  | .inv m _ _ _ => if m < 2 then ⟨some (shutBy st st1), [], true⟩ else ⟨none, [], true⟩
  | .rcv | .dfr _ _ => ⟨none, [], true⟩
  | op => match aop (val T st.env) (st.H[·]?) st.H.length op with
    | some (.val _ e) => ⟨some (e.tch st.H.length), accO T st.env op, false⟩
    | _ => ⟨none, [], true⟩

def trace : List AO → ASt → List Tch
  | [], _ => []
  | o :: r, st =>
    match guardO o st with
    | some true => match stepO T S o st with
      | some (.next st1) => tchO T o st st1 :: trace r st1
      | _ => []
    | some false => match skipO o st with
      | some st1 => ⟨some [], [], false⟩ :: trace r st1
      | none => []
    | none => []

/-- Neither defer, nor recover, nor panic. -/
def AOp.calm : AOp → Bool
  | .dfr _ _ | .rcv | .pan _ => false
  | _ => true

def looseOk (l : List AO) (st : ASt) (inc : List (Nat × Nat)) : Bool :=
  l.all (·.op.calm) && (inc.isEmpty || (let tr := trace T S l st; inc.all fun (i, j) =>
    match tr[i]?, tr[j]? with
    | some ⟨some a, _, _⟩, some ⟨c, d, r⟩ => a.isEmpty || (!r && a.all fun x => !(c.getD []).contains x && !d.contains x)
    | _, _ => false))

mutual
/-- The blocks that a value names. -/
def AV.ids : AV → List Nat
  | .ptr b _ | .msl b _ _ _ | .gsl b _ _ | .mp b | .yld b => [b]
  | .cptr cs | .csl cs _ _ _ | .agg cs | .tup cs => AV.idss cs
  | .fn _ a b => AV.idss a ++ AV.idss b
  | .iface _ v => v.ids
  | _ => []
def AV.idss : List AV → List Nat
  | [] => []
  | v :: r => v.ids ++ AV.idss r
end
def idsP (l : List AV) : List Nat := if AV.pures l then [] else AV.idss l

def AB.ids : AB → List Nat
  | .row cs => idsP cs
  | .map es => idsP (es.map (·.1)) ++ idsP (es.map (·.2))
  | .loop r => idsP (r.env.map (·.2))
  | _ => []

/-- All that is come to from the blocks of a list, in the order in which they are found. -/
def visit (H : List AB) (base : Nat) : Nat → List Nat → List Nat → List Nat
  | 0, _, seen => seen
  | _ + 1, [], seen => seen
  | n + 1, b :: r, seen => if b < base || seen.contains b then visit H base n r seen else visit H base n (((H[b]?).map AB.ids).getD [] ++ r) (seen ++ [b])

/-- The blocks from base on told anew: those that are come to, in the order in which they are found. -/
def norm (st : ASt) : Option ASt :=
  if st.H.length ≤ st.base then some st else
  let roots := idsP (st.env.map (·.2)) ++ (st.H.take st.base).flatMap AB.ids ++ st.dfs.flatMap fun d => match d with | .mark b => [b] | .call _ xs => idsP xs
  let seen := visit st.H st.base (2 * (st.H.length + roots.length) + 100) roots []
  let f (b : Nat) : Option Nat := if b < st.base then some b else (seen.findIdx? (· == b)).map (· + st.base)
  (rensP f (st.env.map (·.2))).bind fun vs => (optAll (renB f) (st.H.take st.base ++ seen.map fun b => (st.H[b]?).getD .dead)).bind fun H =>
    (optAll (fun d => match d with | .mark b => (f b).map .mark | .call k xs => (rensP f xs).map (.call k)) st.dfs).map fun ds =>
      { st with env := (st.env.map (·.1)).zip vs, H := H, dfs := ds }

def doHint (h : Hint) (st : ASt) : Option ASt :=
  match h with
  | .keep ts => some { st with env := st.env.keep ts }
  | .norm => norm st
  | .fz t => match st.env.get t with
    | some v => if v.canon then some st else (frz st.H false depthF v).map fun w =>
      { st with env := (t, w) :: st.env, H := (kil st.H depthF v).foldl (fun H b => H.set b .dead) st.H }
    | none => some st
  | .fzc t off => match st.env.get t with
    | some (.ptr b o) => match st.H[b]? with
      | some (.row cs) => match cs[o + off]? with
        | some v => if v.canon then some st else (frz st.H false depthF v).map fun w =>
          { st with H := (kil st.H depthF v).foldl (fun H b => H.set b .dead) (st.H.set b (.row (cs.set (o + off) w))) }
        | none => none
      | _ => none
    | _ => none

/-- May a range over a function be entered here? What is laid for it. -/
def rngOk (st : ASt) (ps : List Nat) : Bool := (match st.ro with | none => true | some b => match st.H[b]? with | some (.loop _) => true | _ => false) && ps.all (· < st.nt)
def rngH (st : ASt) : List AB := match st.ro with | none => st.H ++ [AB.dfr] | some _ => st.H
def rngD (st : ASt) : List ADf := match st.ro with | none => ADf.mark st.H.length :: st.dfs | some _ => st.dfs

/-- One more round of fuel: the code of a frame. -/
def code : AC → ASt → Option (AExit × ASt)
  | .skip, st => some (.normal, st)
  | .ops l draw, st =>
    match runOps T S l st with
    | some (.next st') => match draw with
      | none => some (.normal, st')
      | some inc => if looseOk T S l st inc then some (.normal, st') else none
    | some (.out e st') => match draw with
      | none => some (e, st')
      | some _ => none
    | none => none
  | .seq a b, st => match code a st with
    | some (.normal, st') => code b st'
    | x => x
  | .cond c t e, st => match val T st.env c with
    | some (.bool b) => if b then code t st else code e st
    | _ => none
  | .block id b, st => match code b st with
    | some (.exit id', st') => if id' = id then some (.normal, st') else some (.exit id', st')
    | x => x
  | .loop b, st => match code b st with
    | some (.normal, st') => S.code (.loop b) st'
    | x => x
  | .rng f ps a b, st => (val T st.env f).bind fun f =>
    if rngOk st ps then
      match f with
      | .fn (.func k) [] caps =>
        match S.call k (.yld (rngH st).length :: caps) (rngH st ++ [AB.loop ⟨.ready, none, st.env, st.nt, ps, a, b⟩]) with
        | some (.ret _, H3) => match H3[(rngH st).length]? with
          | some (.loop r) => if r.state = .busy then none else
            match r.pend with
            | none => some (.normal, { st with H := H3.set (rngH st).length .dead, dfs := rngD st })
            | some .ret => some (.ret, { st with H := H3.set (rngH st).length .dead, dfs := rngD st })
            | some (.exit id) => some (.exit id, { st with H := H3.set (rngH st).length .dead, dfs := rngD st })
          | _ => none
        | some (.pan v, H3) => some (.panic v, { st with H := H3, dfs := rngD st })
        | none => none
      | _ => none
    else none
  | .exit id, st => some (.exit id, st)
  | .ret, st => some (.ret, st)
  | .hint h c, st => match doHint h st with
    | some st => code c st
    | none => none

def results (st : ASt) (rs : List ARs) : Option AV :=
  (optAll (fun r => match r with
    | .t n => st.env.get n
    | .cell g n t => match st.env.get t with
      | some (.ptr b off) => match st.H[b]? with
        | some (.row cs) => takeV g n (cs.drop off)
        | _ => none
      | _ => none) rs).map fun l => match l with
    | [v] => v
    | l => .tup l

/-- A deferred call of a function that begins with recover: ch: the panic under way. What it leaves; whether it has recovered. -/
def dcall (k : Nat) (xs : List AV) (H : List AB) (ch : Option AV) : Option (List AB) :=
  match T.fn k with
  | some ⟨nt, .seq (.ops (⟨some d, none, .rcv⟩ :: l) none) rest, []⟩ =>
    if xs.length ≤ nt ∧ d < nt then
      match code T S (.seq (.ops l none) rest) ⟨(d, ch.getD .nili) :: (List.range xs.length).zip xs, H, [], H.length, nt, none⟩ with
      | some (.normal, st) | some (.ret, st) => if st.dfs.isEmpty then some st.H else none
      | _ => none
    else none
  | _ => none

/-- Deferred calls; how the frame leaves. ch: none: it returns. -/
def leave (F : AFun) : List ADf → Option AV → ASt → Option (AEnd × List AB)
  | [], none, st => (results st F.res).map fun v => (.ret v, st.H)
  | [], some v, st => some (.pan v, st.H)
  | .mark b :: ds, ch, st => match st.H[b]? with
    | some .dfr => leave F ds ch { st with H := st.H.set b .dead }
    | _ => none
  | .call k xs :: ds, ch, st => (dcall T S k xs st.H ch).bind fun H => leave F ds none { st with H := H }

/-- One more round of fuel: a call. -/
def call (f : Nat) (xs : List AV) (H : List AB) : Option (AEnd × List AB) :=
  match T.fn f with
  | none => none
  | some F =>
    if xs.length ≤ F.nt then
      match code T S F.body ⟨(List.range xs.length).zip xs, H, [], H.length, F.nt, none⟩ with
      | some (.normal, st) | some (.ret, st) => leave T S F st.dfs none st
      | some (.panic v, st) => leave T S F st.dfs (some v) st
      | _ => none
    else none
end

def sems (T : Tab) : Nat → Sems
  | 0 => ⟨fun _ _ => none, fun _ _ _ => none⟩
  | n + 1 => ⟨code T (sems T n), call T (sems T n)⟩

end Go.Abs

namespace Go.Abs
/-- A table of functions by number. -/
inductive NT where
  | leaf
  | node (l : NT) (k : Nat) (v : AFun) (r : NT)
def NT.get : NT → Nat → Option AFun
  | .leaf, _ => none
  | .node l k v r, n => bif Nat.beq n k then some v else bif Nat.blt n k then l.get n else r.get n
end Go.Abs
namespace Go.Abs.Y
open Go.Abs
abbrev o (d : Nat) (op : AOp) : AO := ⟨some d, none, op⟩
abbrev g (t : Nat) (w : Bool) (d : Nat) (op : AOp) : AO := ⟨some d, some (t, w), op⟩
abbrev s (op : AOp) : AO := ⟨none, none, op⟩
abbrev I (n : Int) : Opd := .c (.int .i64 n)
abbrev B (b : Bool) : Opd := .c (.bool b)
abbrev F (k : Nat) : Opd := .c (.fn (.func k) [] [])
abbrev t (k : Nat) : Opd := .t k
end Go.Abs.Y
end

section
/- The memory of the machine against the blocks of the walk: how they are told by each other, and what becomes of that when a block is made, written over, or left. Conditions: none. -/
namespace Go.Abs

def AB.isDead : AB → Bool
  | .dead => true
  | _ => false

/-- The machine's blocks that the walk's living blocks stand for. -/
def Live (ι : Nat → Option Nat) (H : List AB) (k : Nat) : Prop := ∃ (b : Nat) (B : AB), H[b]? = some B ∧ B.isDead = false ∧ ι b = some k

def AJ.code : AJ → Code
  | .ret => .ret
  | .exit id => .exit id

section
variable (P : Program)

/-- What temporaries tell. -/
def EnvRel (w : World) (D : Nat → Prop) (ι : Nat → Option Nat) (env : Env) (tmps : Array Value) : Prop :=
  ∀ (t : Nat) (v : AV), env.get t = some v → ∃ x, tmps[t]? = some x ∧ VRel w D ι v x

/-- The stamps of a map's entries: one each, below its clock. -/
def Stamps (en : Array MapEntry) (cl : Nat) : Prop := (∀ e ∈ en.toList, e.born < cl) ∧ (en.toList.map (·.born)).Nodup

def BRel (w : World) (D : Nat → Prop) (ι : Nat → Option Nat) (k : Nat) : AB → Prop
  | .dead => True
  | .row cs => ∃ c e, w.heap[k]? = some (.cells c e (0, 0)) ∧ cs.length ≤ c.size ∧ ∀ (j : Nat) (v : AV) (x : Value), cs[j]? = some v → c[j]? = some x → VRel w D ι v x
  | .map es => ∃ en cl, w.heap[k]? = some (.map en cl) ∧ en.size = es.length ∧ (∀ (j : Nat) (p : AV × AV) (e : MapEntry), es[j]? = some p → en[j]? = some e → VRel w D ι p.1 e.key ∧ VRel w D ι p.2 e.val) ∧ Stamps en cl
  | .loop r => ∃ L : Loop, w.heap[k]? = some (.loop L) ∧ L.state = r.state ∧ L.pending = r.pend.map AJ.code ∧ L.tmps.size = r.nt ∧ EnvRel w D ι r.env L.tmps ∧ L.params.toList = r.ps ∧
      comp P L.assign = some r.a.erase ∧ comp P L.body = some r.b.erase ∧ r.ps.Nodup ∧ ∀ t ∈ r.ps, t < r.nt
  | .dfr => w.heap[k]? = some (.deferred (some []))

structure HRel (w : World) (D : Nat → Prop) (ι : Nat → Option Nat) (H : List AB) : Prop where
  dom : ∀ (b k : Nat), ι b = some k → b < H.length
  dlt : ∀ k, D k → k < w.heap.size
  ilt : ∀ (b k : Nat), ι b = some k → k < w.heap.size
  blk : ∀ (b : Nat) (B : AB) (k : Nat), H[b]? = some B → B.isDead = false → ι b = some k → ¬ D k ∧ BRel P w D ι k B
  inj : ∀ (b b' : Nat) (B B' : AB) (k : Nat), H[b]? = some B → B.isDead = false → H[b']? = some B' → B'.isDead = false → ι b = some k → ι b' = some k → b = b'
end

/-- What a piece of a run may do to the world: blocks of L may turn, others stay. -/
structure Ext (w : World) (D L : Nat → Prop) (w' : World) (D' L' : Nat → Prop) : Prop where
  os : w'.os = w.os
  tape : w'.tape = w.tape
  output : w'.output = w.output
  size : w.heap.size ≤ w'.heap.size
  keep : ∀ k, k < w.heap.size → ¬ L k → w'.heap[k]? = w.heap[k]?
  live : ∀ k, L' k → L k ∨ w.heap.size ≤ k
  dmono : ∀ k, D k → D' k
  dnew : ∀ k, D' k → D k ∨ L k ∨ w.heap.size ≤ k
  shape : ∀ k c e f, w'.heap[k]? = some (.cells c e f) → k < w.heap.size → ∃ c' f', w.heap[k]? = some (.cells c' e f') ∧ c'.size = c.size

theorem Ext.refl (w : World) (D L : Nat → Prop) : Ext w D L w D L :=
  ⟨rfl, rfl, rfl, Nat.le_refl _, fun _ _ _ => rfl, fun _ h => .inl h, fun _ h => h, fun _ h => .inl h, fun _ c _ f h _ => ⟨c, f, h, rfl⟩⟩

theorem Ext.trans {w w1 w2 : World} {D D1 D2 L L1 L2 : Nat → Prop} (h : Ext w D L w1 D1 L1) (g : Ext w1 D1 L1 w2 D2 L2) : Ext w D L w2 D2 L2 where
  os := g.os.trans h.os
  tape := g.tape.trans h.tape
  output := g.output.trans h.output
  size := Nat.le_trans h.size g.size
  keep k hk hL := (g.keep k (Nat.lt_of_lt_of_le hk h.size) fun h1 => (h.live k h1).elim hL fun h2 => by omega).trans (h.keep k hk hL)
  live k hk := (g.live k hk).elim (h.live k) fun h2 => .inr (Nat.le_trans h.size h2)
  dmono k hk := g.dmono k (h.dmono k hk)
  dnew k hk := by
    rcases g.dnew k hk with h1 | h1 | h1
    · exact h.dnew k h1
    · exact .inr (h.live k h1)
    · exact .inr (.inr (Nat.le_trans h.size h1))
  shape k c e f hc hk := by
    obtain ⟨c', f', h1, h2⟩ := g.shape k c e f hc (Nat.lt_of_lt_of_le hk h.size)
    obtain ⟨c'', f'', h3, h4⟩ := h.shape k c' e f' h1 hk
    exact ⟨c'', f'', h3, h4.trans h2⟩

theorem Ext.keeps {w w' : World} {D D' L L' : Nat → Prop} (h : Ext w D L w' D' L') (hd : ∀ k, D k → k < w.heap.size ∧ ¬ L k) : Keeps D w w' :=
  ⟨fun k hk => h.keep k (hd k hk).1 (hd k hk).2, h.shape⟩

section
variable {P : Program} {w w' : World} {D D' : Nat → Prop} {ι ι' : Nat → Option Nat} {H H' : List AB}

theorem HRel.dnl (h : HRel P w D ι H) : ∀ k, D k → k < w.heap.size ∧ ¬ Live ι H k :=
  fun k hk => ⟨h.dlt k hk, fun ⟨b, B, h1, h2, h3⟩ => (h.blk b B k h1 h2 h3).1 hk⟩

/-- What stands told stays told. -/
theorem HRel.vrel (h : HRel P w D ι H) {L' : Nat → Prop} (g : Ext w D (Live ι H) w' D' L') (hι : ∀ (b k : Nat), ι b = some k → ι' b = some k) {v : AV} {x : Value} (hv : VRel w D ι v x) : VRel w' D' ι' v x :=
  hv.mono (g.keeps h.dnl) g.dmono fun b k hb => ⟨hι b k hb, h.ilt b k hb⟩

theorem HRel.vrels (h : HRel P w D ι H) {L' : Nat → Prop} (g : Ext w D (Live ι H) w' D' L') (hι : ∀ (b k : Nat), ι b = some k → ι' b = some k) {cs : List AV} {xs : Array Value} (hv : VRels w D ι cs xs) : VRels w' D' ι' cs xs :=
  hv.mono (g.keeps h.dnl) g.dmono fun b k hb => ⟨hι b k hb, h.ilt b k hb⟩

theorem HRel.env (h : HRel P w D ι H) {L' : Nat → Prop} (g : Ext w D (Live ι H) w' D' L') (hι : ∀ (b k : Nat), ι b = some k → ι' b = some k) {env : Env} {tm : Array Value} (hv : EnvRel w D ι env tm) : EnvRel w' D' ι' env tm :=
  fun t v ht => let ⟨x, h1, h2⟩ := hv t v ht; ⟨x, h1, h.vrel g hι h2⟩

/-- A block's cells, by what it holds in the new world. -/
theorem BRel.mono {B : AB} {k k' : Nat} (hb : BRel P w D ι k B) (he : w'.heap[k']? = w.heap[k]?) (hv : ∀ v x, VRel w D ι v x → VRel w' D' ι' v x) : BRel P w' D' ι' k' B := by
  cases B with
  | dead => trivial
  | row cs => obtain ⟨c, e, h1, h2, h3⟩ := hb; exact ⟨c, e, he.trans h1, h2, fun j v x a b => hv _ _ (h3 j v x a b)⟩
  | map es => obtain ⟨en, cl, h1, h2, h3, h4⟩ := hb; exact ⟨en, cl, he.trans h1, h2, fun j p e a b => ⟨hv _ _ (h3 j p e a b).1, hv _ _ (h3 j p e a b).2⟩, h4⟩
  | loop r => obtain ⟨L, h1, h2, h3, h4, h5, h6⟩ := hb; exact ⟨L, he.trans h1, h2, h3, h4, fun t v ht => let ⟨x, a, b⟩ := h5 t v ht; ⟨x, a, hv _ _ b⟩, h6⟩
  | dfr => exact he.trans hb

/-- A draw. -/
theorem Ext.drawn (w : World) (D L : Nat → Prop) (n : Nat) : Ext w D L { w with drawn := n } D L :=
  ⟨rfl, rfl, rfl, Nat.le_refl _, fun _ _ _ => rfl, fun _ h => .inl h, fun _ h => h, fun _ h => .inl h, fun _ c _ f h _ => ⟨c, f, h, rfl⟩⟩

theorem HRel.drawn (h : HRel P w D ι H) (n : Nat) : HRel P { w with drawn := n } D ι H :=
  ⟨h.dom, h.dlt, h.ilt, fun b B k h1 h2 h3 => ⟨(h.blk b B k h1 h2 h3).1, ((h.blk b B k h1 h2 h3).2).mono rfl fun _ _ hv => h.vrel (Ext.drawn w D (Live ι H) n) (fun _ _ hb => hb) hv⟩, h.inj⟩

/-- A block placed under a number. -/
def putB (H : List AB) (n : Nat) (B : AB) : List AB := if n < H.length then H.set n B else H ++ List.replicate (n - H.length) .dead ++ [B]

/-- One number more. -/
def ins (ι : Nat → Option Nat) (n k : Nat) : Nat → Option Nat := fun b => if b = n then some k else ι b

theorem ins_self (ι : Nat → Option Nat) (n k : Nat) : ins ι n k n = some k := by simp [ins]

theorem ins_mono {n k : Nat} (hn : ι n = none) : ∀ (b j : Nat), ι b = some j → ins ι n k b = some j := fun b j h => by
  unfold ins
  rw [if_neg (fun e => by subst e; rw [hn] at h; cases h)]
  exact h

theorem ins_back {n k : Nat} : ∀ (b j : Nat), ins ι n k b = some j → ι b = some j ∨ b = n := fun b j h => by
  unfold ins at h
  split at h
  · rename_i e; exact .inr e
  · exact .inl h

theorem putB_end (H : List AB) (B : AB) : putB H H.length B = H ++ [B] := by simp [putB]

theorem putB_len (H : List AB) (n : Nat) (B : AB) : H.length ≤ (putB H n B).length ∧ n < (putB H n B).length := by
  unfold putB
  split
  · simp; omega
  · simp; omega

theorem putB_get {H : List AB} {n : Nat} {B C : AB} {b : Nat} (h : (putB H n B)[b]? = some C) (hd : C.isDead = false) : (b = n ∧ C = B) ∨ (b ≠ n ∧ H[b]? = some C) := by
  unfold putB at h
  split at h
  · rw [List.getElem?_set] at h
    split at h
    · rename_i he
      subst he
      cases h; exact .inl ⟨rfl, rfl⟩
    · rename_i hne; exact .inr ⟨fun e => hne e.symm, h⟩
  · by_cases h1 : b < H.length
    · rw [List.append_assoc, List.getElem?_append_left h1] at h
      exact .inr ⟨by omega, h⟩
    · rw [List.append_assoc, List.getElem?_append_right (by omega)] at h
      by_cases h2 : b < n
      · rw [List.getElem?_append_left (by simp; omega), List.getElem?_replicate] at h
        split at h
        · cases h; simp [AB.isDead] at hd
        · cases h
      · rw [List.getElem?_append_right (by simp; omega)] at h
        have h3 := (List.getElem?_eq_some_iff.1 h).1
        simp at h3
        have h4 : b = n := by omega
        subst h4
        rw [List.length_replicate, Nat.sub_self] at h
        simp at h
        exact .inl ⟨rfl, h.symm⟩

theorem putB_self {H : List AB} {n : Nat} {B : AB} : (putB H n B)[n]? = some B := by
  unfold putB
  split
  · rename_i h; rw [List.getElem?_set_self h]
  · rw [List.append_assoc, List.getElem?_append_right (by omega), List.getElem?_append_right (by simp)]; simp

theorem putB_old {H : List AB} {n : Nat} {B C : AB} {b : Nat} (h : H[b]? = some C) (hne : b ≠ n) : (putB H n B)[b]? = some C := by
  have hlt := (List.getElem?_eq_some_iff.1 h).1
  unfold putB
  split
  · rw [List.getElem?_set, if_neg (fun e => hne e.symm)]; exact h
  · rw [List.append_assoc, List.getElem?_append_left hlt]; exact h

theorem live_put {B : AB} {n k0 k : Nat} (hn : ι n = none) : Live (ins ι n k0) (putB H n B) k ↔ Live ι H k ∨ (B.isDead = false ∧ k = k0) := by
  constructor
  · rintro ⟨b, C, h1, h2, h3⟩
    rcases putB_get h1 h2 with ⟨rfl, rfl⟩ | ⟨hne, h4⟩
    · rw [ins_self] at h3; cases h3; exact .inr ⟨h2, rfl⟩
    · simp only [ins, if_neg hne] at h3
      exact .inl ⟨b, C, h4, h2, h3⟩
  · rintro (⟨b, C, h1, h2, h3⟩ | ⟨h1, rfl⟩)
    · exact ⟨b, C, putB_old h1 (fun e => by subst e; rw [hn] at h3; cases h3), h2, ins_mono hn b k h3⟩
    · exact ⟨n, B, putB_self, h1, ins_self ι n k⟩

/-- A new block of the machine's, which the walk knows by a new number. -/
theorem ext_new (o : Obj) (d : Nat) (B : AB) {n : Nat} (hn : ι n = none) :
    Ext w D (Live ι H) { w with heap := w.heap.push o, drawn := d } D (Live (ins ι n w.heap.size) (putB H n B)) where
  os := rfl
  tape := rfl
  output := rfl
  size := by simp
  keep k hk _ := by simp only [Array.getElem?_push]; rw [if_neg (by omega)]
  live k hk := by
    rw [live_put hn] at hk
    rcases hk with h1 | ⟨_, rfl⟩
    · exact .inl h1
    · exact .inr (Nat.le_refl _)
  dmono _ h := h
  dnew _ h := .inl h
  shape k c e f hc hk := by
    simp only [Array.getElem?_push] at hc
    rw [if_neg (by omega)] at hc
    exact ⟨c, f, hc, rfl⟩

theorem get_append_left {α : Type} {l : List α} (r : List α) {b : Nat} {x : α} (h : l[b]? = some x) : (l ++ r)[b]? = some x := by
  rw [List.getElem?_append_left (List.getElem?_eq_some_iff.1 h).1]; exact h

theorem hrel_new {o : Obj} {d : Nat} (h : HRel P w D ι H) (B : AB) {n : Nat} (hn : ι n = none)
    (hB : BRel P { w with heap := w.heap.push o, drawn := d } D (ins ι n w.heap.size) w.heap.size B) :
    HRel P { w with heap := w.heap.push o, drawn := d } D (ins ι n w.heap.size) (putB H n B) where
  dom b k hb := by
    have h1 := putB_len H n B
    unfold ins at hb
    split at hb
    · rename_i e; subst e; exact h1.2
    · have := h.dom b k hb; omega
  dlt k hk := by have := h.dlt k hk; simp; omega
  ilt b k hb := by
    unfold ins at hb
    split at hb
    · cases hb; simp
    · have := h.ilt b k hb; simp; omega
  blk b C k h1 h2 h3 := by
    rcases putB_get h1 h2 with ⟨rfl, rfl⟩ | ⟨hne, h4⟩
    · rw [ins_self] at h3; cases h3
      exact ⟨fun hd => by have := h.dlt _ hd; omega, hB⟩
    · simp only [ins, if_neg hne] at h3
      obtain ⟨a, c⟩ := h.blk b C k h4 h2 h3
      refine ⟨a, c.mono ?_ fun v x hv => h.vrel (ext_new o d B hn) (ins_mono hn) hv⟩
      have := h.ilt b k h3
      simp only [Array.getElem?_push]; rw [if_neg (by omega)]
  inj b b' C C' k h1 h2 h3 h4 h5 h6 := by
    rcases putB_get h1 h2 with ⟨rfl, rfl⟩ | ⟨hne, g1⟩ <;> rcases putB_get h3 h4 with ⟨rfl, rfl⟩ | ⟨hne', g2⟩
    · rfl
    · rw [ins_self] at h5; cases h5
      simp only [ins, if_neg hne'] at h6
      have := h.ilt b' _ h6; omega
    · rw [ins_self] at h6; cases h6
      simp only [ins, if_neg hne] at h5
      have := h.ilt b _ h5; omega
    · simp only [ins, if_neg hne] at h5
      simp only [ins, if_neg hne'] at h6
      exact h.inj b b' C C' k g1 h2 g2 h4 h5 h6

/-- A block is left: dead to the walk; if wished, known from now on as one that nobody writes. -/
theorem hrel_kill (h : HRel P w D ι H) (b : Nat) : HRel P w D ι (H.set b .dead) where
  dom b k hb := by have := h.dom b k hb; simpa using this
  dlt := h.dlt
  ilt := h.ilt
  blk c C k h1 h2 h3 := by
    rw [List.getElem?_set] at h1
    split at h1
    · split at h1
      · cases h1; simp [AB.isDead] at h2
      · cases h1
    · exact h.blk c C k h1 h2 h3
  inj c c' C C' k h1 h2 h3 h4 h5 h6 := by
    rw [List.getElem?_set] at h1 h3
    split at h1
    · split at h1
      · cases h1; simp [AB.isDead] at h2
      · cases h1
    · split at h3
      · split at h3
        · cases h3; simp [AB.isDead] at h4
        · cases h3
      · exact h.inj c c' C C' k h1 h2 h3 h4 h5 h6

theorem live_set {B : AB} {b k : Nat} (hk : Live ι (H.set b B) k) : Live ι H k ∨ (ι b = some k ∧ B.isDead = false) := by
  obtain ⟨c, C, h1, h2, h3⟩ := hk
  rw [List.getElem?_set] at h1
  split at h1
  · rename_i he
    split at h1
    · cases h1; subst he; exact .inr ⟨h3, h2⟩
    · cases h1
  · exact .inl ⟨c, C, h1, h2, h3⟩

theorem ext_kill (w : World) (D : Nat → Prop) (ι : Nat → Option Nat) (H : List AB) (b : Nat) : Ext w D (Live ι H) w D (Live ι (H.set b .dead)) :=
  ⟨rfl, rfl, rfl, Nat.le_refl _, fun _ _ _ => rfl, fun k hk => (live_set hk).elim .inl fun h => by simp [AB.isDead] at h, fun _ h => h, fun _ h => .inl h, fun _ c _ f h _ => ⟨c, f, h, rfl⟩⟩

/-- A living block is written over: what was there becomes o'. -/
theorem ext_upd {b k : Nat} {B0 B : AB} {o' : Obj} {n : Nat} (_h : HRel P w D ι H) (hb : H[b]? = some B0) (hd : B0.isDead = false) (hk : ι b = some k)
    (hs : ∀ c e f, o' = .cells c e f → ∃ c' f', w.heap[k]? = some (.cells c' e f') ∧ c'.size = c.size) :
    Ext w D (Live ι H) { w with heap := w.heap.setIfInBounds k o', drawn := n } D (Live ι (H.set b B)) where
  os := rfl
  tape := rfl
  output := rfl
  size := by simp
  keep j hj hL := by
    simp only [Array.getElem?_setIfInBounds]
    split
    · rename_i he; subst he; exact absurd ⟨b, B0, hb, hd, hk⟩ hL
    · rfl
  live j hj := (live_set hj).elim .inl fun h1 => by
    have : k = j := by have := h1.1; rw [hk] at this; exact Option.some.inj this
    subst this; exact .inl ⟨b, B0, hb, hd, hk⟩
  dmono _ h := h
  dnew _ h := .inl h
  shape j c e f hc hj := by
    simp only [Array.getElem?_setIfInBounds] at hc
    split at hc
    · rename_i he; subst he
      rw [if_pos hj] at hc
      cases hc; exact hs c e f rfl
    · exact ⟨c, f, hc, rfl⟩

theorem hrel_upd {b k : Nat} {B0 B : AB} {o' : Obj} {n : Nat} (h : HRel P w D ι H) (hb : H[b]? = some B0) (hd : B0.isDead = false) (hk : ι b = some k)
    (hs : ∀ c e f, o' = .cells c e f → ∃ c' f', w.heap[k]? = some (.cells c' e f') ∧ c'.size = c.size)
    (hB : BRel P { w with heap := w.heap.setIfInBounds k o', drawn := n } D ι k B) :
    HRel P { w with heap := w.heap.setIfInBounds k o', drawn := n } D ι (H.set b B) where
  dom b k hb := by have := h.dom b k hb; simpa using this
  dlt j hj := by have := h.dlt j hj; simpa using this
  ilt c j hc := by have := h.ilt c j hc; simpa using this
  blk c C j h1 h2 h3 := by
    rw [List.getElem?_set] at h1
    split at h1
    · rename_i he
      split at h1
      · cases h1; subst he
        rw [hk] at h3; cases h3
        exact ⟨(h.blk b B0 k hb hd hk).1, hB⟩
      · cases h1
    · rename_i hne
      obtain ⟨a, r⟩ := h.blk c C j h1 h2 h3
      refine ⟨a, r.mono ?_ fun v x hv => h.vrel (ext_upd (B := B) (n := n) h hb hd hk hs) (fun _ _ hb => hb) hv⟩
      simp only [Array.getElem?_setIfInBounds]
      split
      · rename_i he; subst he; exact absurd (h.inj b c B0 C k hb hd h1 h2 hk h3) (by omega)
      · rfl
  inj c c' C C' j h1 h2 h3 h4 h5 h6 := by
    rw [List.getElem?_set] at h1 h3
    have key : ∀ (d : Nat) (E : AB), (if b = d then if b < H.length then some B else none else H[d]?) = some E → E.isDead = false → ι d = some j → ∃ E', H[d]? = some E' ∧ E'.isDead = false := by
      intro d E he hE hi
      split at he
      · rename_i hd'; subst hd'; exact ⟨B0, hb, hd⟩
      · exact ⟨E, he, hE⟩
    obtain ⟨E1, a1, a2⟩ := key c C h1 h2 h5
    obtain ⟨E2, b1, b2⟩ := key c' C' h3 h4 h6
    exact h.inj c c' E1 E2 j a1 a2 b1 b2 h5 h6
end
end Go.Abs
end

section
/- Each operation of the machine does what the walk's own operation does (1): operands; values; what only reads. Conditions: none. -/
namespace Go.Abs

section
variable {P : Program} {T : Tab} {w : World} {D : Nat → Prop} {ι : Nat → Option Nat}

theorem ofVal_ok : ∀ {x : Value} {v : AV}, ofVal x = some v → VRel w D ι v x := by
  intro x v h
  unfold ofVal at h
  split at h <;> first
    | (cases h; done)
    | (cases h; first | exact .bool _ | exact .int _ _ | exact .str _ | exact .nilp | exact .nils | exact .nilm | exact .nilf | exact .nili)

theorem ofCells_ok : ∀ {l : List Value} {cs : List AV}, ofCells l = some cs → VRels w D ι cs l.toArray
  | [], cs, h => by cases h; exact VRels.nil
  | x :: l, cs, h => by
    simp only [ofCells, Option.bind_eq_some_iff, Option.map_eq_some_iff] at h
    obtain ⟨v, hv, r, hr, rfl⟩ := h
    obtain ⟨h1, h2⟩ := ofCells_ok hr
    refine ⟨by simp at h1 ⊢; exact h1, fun j u y hj hy => ?_⟩
    cases j with
    | zero => simp at hj hy; subst hj hy; exact ofVal_ok hv
    | succ j => simp at hj hy; exact h2 j u y hj (by simpa using hy)

/-- What package-level variables hold, and nobody writes. -/
def GL (T : Tab) (w : World) (D : Nat → Prop) : Prop := ∀ g cs, T.gl g = some cs → AV.pures cs = true ∧ VRel w D (fun _ => none) (.cptr cs) (.pointer (some ⟨g, 0, none⟩))

/-- The state of a frame, told. -/
structure SRel (P : Program) (T : Tab) (st : ASt) (D : Nat → Prop) (ι : Nat → Option Nat) (a : Act) (w : World) : Prop where
  h : HRel P w D ι st.H
  nt : a.tmps.size = st.nt
  env : EnvRel w D ι st.env a.tmps
  gl : GL T w D

variable {st : ASt} {a : Act}

theorem eval_tmp {t : Nat} {x : Value} (h : a.tmps[t]? = some x) : a.eval (.tmp t) = x := by simp [Act.eval, h]

theorem opd_ok (hs : SRel P T st D ι a w) {x : Operand} {y : Opd} (hc : compO x = some y) {v : AV} (hv : val T st.env y = some v) : VRel w D ι v (a.eval x) := by
  unfold compO at hc
  split at hc
  · cases hc
    obtain ⟨z, h1, h2⟩ := hs.env _ _ hv
    rw [eval_tmp h1]; exact h2
  · simp only [Option.map_eq_some_iff] at hc
    obtain ⟨l, hl, rfl⟩ := hc
    cases hv
    obtain ⟨h1, h2⟩ := ofCells_ok (w := w) (D := D) (ι := ι) hl
    exact .agg (by simpa using h1) (by simpa using h2)
  · simp only [Option.map_eq_some_iff] at hc
    obtain ⟨l, hl, rfl⟩ := hc
    cases hv
    exact ofVal_ok hl
  · cases hc
    simp only [val, Option.map_eq_some_iff] at hv
    obtain ⟨cs, hg, rfl⟩ := hv
    exact (hs.gl _ _ hg).2.pure_names ι (by simpa [AV.pure] using (hs.gl _ _ hg).1)
  · cases hc
    cases hv
    exact .fn rfl rfl (fun j v x h => by simp at h) (fun j v x h => by simp at h)

theorem opds_ok (hs : SRel P T st D ι a w) : ∀ {xs : List Operand} {ys : List Opd}, compOs xs = some ys → ∀ {vs : List AV}, optAll (val T st.env) ys = some vs → VRels w D ι vs (xs.map a.eval).toArray
  | [], ys, hc, vs, hv => by cases hc; cases hv; exact VRels.nil
  | x :: xs, ys, hc, vs, hv => by
    simp only [compOs, Option.bind_eq_some_iff, Option.map_eq_some_iff] at hc
    obtain ⟨y, hy, r, hr, rfl⟩ := hc
    simp only [optAll, Option.bind_eq_some_iff, Option.map_eq_some_iff] at hv
    obtain ⟨v, hv, s, hs', rfl⟩ := hv
    obtain ⟨h1, h2⟩ := opds_ok hs hr hs'
    refine ⟨by simp at h1 ⊢; exact h1, fun j u z hj hz => ?_⟩
    cases j with
    | zero => simp at hj hz; subst hj hz; exact opd_ok hs hy hv
    | succ j => simp at hj hz; exact h2 j u z hj (by simpa using hz)

/-- The blocks after an operation's effect, its new block placed under the number n. -/
def AEff.atn (n : Nat) (H : List AB) : AEff → List AB
  | .no => H
  | .upd b B => H.set b B
  | .new B => putB H n B
  | .mv b B => putB (H.set b .dead) n B

theorem AEff.atn_len (H : List AB) (e : AEff) : e.atn H.length H = e.at H := by
  cases e with
  | no => rfl
  | upd b B => rfl
  | new B => exact putB_end H B
  | mv b B =>
    have := putB_end (H.set b .dead) B
    rw [List.length_set] at this
    exact this

/-- What an operation of the machine must come to, for the walk's (v, e), its new block under the number n. -/
def OpRes (P : Program) (n : Nat) (H : List AB) (D : Nat → Prop) (ι : Nat → Option Nat) (w : World) (r : Result Next) (v : AV) (e : AEff) : Prop :=
  ∃ nx x w' ι', r = .ok nx w' ∧ (nx = .value x ∨ (nx = .skip ∧ x = undef)) ∧ HRel P w' D ι' (e.atn n H) ∧ VRel w' D ι' v x ∧
    Ext w D (Live ι H) w' D (Live ι' (e.atn n H)) ∧ (∀ (b k : Nat), ι b = some k → ι' b = some k) ∧ ∀ (b k : Nat), ι' b = some k → ι b = some k ∨ b = n

theorem res_no {n : Nat} {H : List AB} (h : HRel P w D ι H) {r : Result Next} {x : Value} {v : AV} (hr : r = .ok (.value x) w) (hv : VRel w D ι v x) : OpRes P n H D ι w r v .no :=
  ⟨_, x, w, ι, hr, .inl rfl, h, hv, Ext.refl _ _ _, fun _ _ h => h, fun _ _ h => .inl h⟩

theorem run_val (s : Sem Value) {x : Value} {w' : World} (h : s.run P w = .ok x w') : (do pure (Next.value (← s)) : Sem Next).run P w = .ok (.value x) w' := by
  simp [h]

theorem size_ok {t : TypeId} {n : Nat} (h : sizeT P t = some n) : (sizeOf t).run P w = .ok n w := by
  simp only [sizeT, Option.map_eq_some_iff] at h
  obtain ⟨i, hi, rfl⟩ := h
  simp [sizeOf, typeInfo, hi]

theorem under_ok {t : TypeId} {d : TypeDesc} (h : P.underlying t = some d) : (underlying t).run P w = .ok d w := by simp [underlying, h]

theorem isAgg_ok {t : TypeId} {g : Bool} (h : aggT P t = some g) : (isAgg t).run P w = .ok g w := by
  unfold aggT at h
  unfold isAgg
  split at h
  · rename_i hu; cases h; simp [under_ok hu]
  · rename_i hu; cases h; simp [under_ok hu]
  · rename_i d h1 h2 hu
    cases h
    simp only [Sem.run_bind, under_ok hu, Result.andThen_ok]
    rfl
  · cases h

/-! reading cells -/

theorem run_loadCellsFrom {b o : Nat} : ∀ (n i : Nat) (acc : Array Value) (xs : List Value), xs.length = n → (∀ j x, xs[j]? = some x → w.cell? ⟨b, o + (i + j), none⟩ = some x) →
    (loadCellsFrom ⟨b, o, none⟩ i n acc).run P w = .ok (acc ++ xs.toArray) w
  | 0, i, acc, xs, hl, _ => by
    have : xs = [] := List.length_eq_zero_iff.1 hl
    subst this; simp [loadCellsFrom]
  | n + 1, i, acc, xs, hl, hc => by
    cases xs with
    | nil => simp at hl
    | cons x xs =>
      have h0 := hc 0 x rfl
      have ha : (Addr.add ⟨b, o, none⟩ i) = ⟨b, o + i, none⟩ := by unfold Addr.add; split <;> simp_all
      simp only [Nat.add_zero] at h0
      simp only [loadCellsFrom, Sem.run_bind, ha, run_load, h0, Result.andThen_ok]
      rw [run_loadCellsFrom n (i + 1) (acc.push x) xs (by simpa using hl) (fun j y hj => by
        have := hc (j + 1) y (by simpa using hj)
        rwa [show o + (i + (j + 1)) = o + (i + 1 + j) from by omega] at this)]
      congr 1
      apply Array.ext'
      simp

/-- Cells that are told read as a value that is told. -/
theorem run_loadVar {t : TypeId} {g : Bool} {n : Nat} (hg : aggT P t = some g) (hn : sizeT P t = some n) {b o : Nat} {cs : List AV} {v : AV} (ht : takeV g n cs = some v)
    (hc : ∀ (j : Nat) (u : AV), cs[j]? = some u → ∃ x, w.cell? ⟨b, o + j, none⟩ = some x ∧ VRel w D ι u x) :
    ∃ x, (loadVar t ⟨b, o, none⟩).run P w = .ok x w ∧ VRel w D ι v x := by
  cases g with
  | false =>
    simp only [takeV, Bool.false_eq_true, if_false] at ht
    obtain ⟨x, h1, h2⟩ := hc 0 v (by rw [← List.head?_eq_getElem?]; exact ht)
    refine ⟨x, ?_, h2⟩
    simp only [Nat.add_zero] at h1
    simp [loadVar, isAgg_ok hg, h1]
  | true =>
    simp only [takeV, if_true] at ht
    split at ht
    · cases ht
      rename_i hle
      have hx : ∀ j, j < n → ∃ u x, cs[j]? = some u ∧ w.cell? ⟨b, o + j, none⟩ = some x ∧ VRel w D ι u x := fun j hj => by
        obtain ⟨x, h1, h2⟩ := hc j cs[j] (List.getElem?_eq_getElem (by omega))
        exact ⟨_, x, List.getElem?_eq_getElem (by omega), h1, h2⟩
      let xs : List Value := (List.range n).map fun j => (w.cell? ⟨b, o + j, none⟩).getD undef
      have hxs : ∀ j x, xs[j]? = some x → j < n ∧ w.cell? ⟨b, o + j, none⟩ = some x := fun j x hj => by
        have hjn : j < n := by have := (List.getElem?_eq_some_iff.1 hj).1; simpa [xs] using this
        obtain ⟨u, y, _, h2, _⟩ := hx j hjn
        simp [xs, hjn, h2] at hj
        exact ⟨hjn, hj ▸ h2⟩
      refine ⟨.agg xs.toArray, ?_, .agg (by simp [xs]; omega) fun j u x hj hxj => ?_⟩
      · simp only [loadVar, Sem.run_bind, isAgg_ok hg, Result.andThen_ok, if_true, size_ok hn, loadCells]
        rw [run_loadCellsFrom n 0 #[] xs (by simp [xs]) (fun j x hj => by rw [Nat.zero_add]; exact (hxs j x hj).2)]
        simp
      · obtain ⟨hjn, hcell⟩ := hxs j x (by simpa using hxj)
        obtain ⟨u', y, h1, h2, h3⟩ := hx j hjn
        rw [h2] at hcell; cases hcell
        have : u = u' := by
          have hj' := List.getElem?_take_of_lt (l := cs) hjn
          rw [hj'] at hj
          exact Option.some.inj (hj.symm.trans h1)
        exact this ▸ h3
    · cases ht

/-- The cells of a living block of the walk's. -/
theorem HRel.cells {H : List AB} (h : HRel P w D ι H) {b k off : Nat} {cs : List AV} (hb : H[b]? = some (.row cs)) (hk : ι b = some k) :
    ∀ (j : Nat) (u : AV), (cs.drop off)[j]? = some u → ∃ x, w.cell? ⟨k, off + j, none⟩ = some x ∧ VRel w D ι u x := by
  intro j u hj
  obtain ⟨c, e, h1, h2, h3⟩ := (h.blk b _ k hb rfl hk).2
  rw [List.getElem?_drop] at hj
  have hlt := (List.getElem?_eq_some_iff.1 hj).1
  refine ⟨c[off + j], ?_, h3 _ _ _ hj (Array.getElem?_eq_getElem (by omega))⟩
  simp [World.cell?, h1]

theorem VRel.ptr_inv {b off : Nat} {x : Value} (h : VRel w D ι (.ptr b off) x) : ∃ k, ι b = some k ∧ x = .pointer (some ⟨k, off, none⟩) := by cases h; exact ⟨_, ‹_›, rfl⟩

theorem VRel.cptr_inv {cs : List AV} {x : Value} (h : VRel w D ι (.cptr cs) x) : ∃ b o, x = .pointer (some ⟨b, o, none⟩) ∧ D b ∧
    ∀ (j : Nat) (u : AV), cs[j]? = some u → ∃ y, w.cell? ⟨b, o + j, none⟩ = some y ∧ VRel w D ι u y := by
  cases h with
  | cptr xs h1 h2 h3 h4 =>
    rename_i a
    obtain ⟨b, o, s⟩ := a
    simp only at h2
    subst h2
    exact ⟨b, o, rfl, h1, fun j u hj => ⟨_, h3 j u hj, h4 j u hj⟩⟩

end
end Go.Abs
end

section
/- Each operation of the machine does what the walk's own operation does (2): new blocks, loads and stores, aggregates. Conditions: none. -/
namespace Go.Abs

section
variable {P : Program} {T : Tab} {w : World} {D : Nat → Prop} {ι : Nat → Option Nat} {H : List AB}

theorem VRels.push {w w' : World} {D D' ι ι'} {cs : List AV} {xs : Array Value} (h : VRels w D ι cs xs) (hm : ∀ v x, VRel w D ι v x → VRel w' D' ι' v x) : VRels w' D' ι' cs xs := ⟨h.1, fun j v x a b => hm _ _ (h.2 j v x a b)⟩

theorem res_new {n : Nat} (hn : ι n = none) (h : HRel P w D ι H) {o : Obj} {d : Nat} {r : Result Next} {x : Value} {v : AV} {B : AB} (hr : r = .ok (.value x) { w with heap := w.heap.push o, drawn := d })
    (hB : BRel P { w with heap := w.heap.push o, drawn := d } D (ins ι n w.heap.size) w.heap.size B)
    (hv : VRel { w with heap := w.heap.push o, drawn := d } D (ins ι n w.heap.size) v x) : OpRes P n H D ι w r v (.new B) :=
  ⟨_, x, _, ins ι n w.heap.size, hr, .inl rfl, hrel_new h B hn hB, hv, ext_new o d B hn, ins_mono hn, ins_back⟩

/-- A new row of cells. -/
theorem row_new {n : Nat} (hn : ι n = none) (h : HRel P w D ι H) {xs : Array Value} {cs : List AV} (t : TypeId) (d : Nat) (hc : cs.length ≤ xs.size) (hv : ∀ (j : Nat) (v : AV) (x : Value), cs[j]? = some v → xs[j]? = some x → VRel w D ι v x) :
    BRel P { w with heap := w.heap.push (.cells xs t), drawn := d } D (ins ι n w.heap.size) w.heap.size (.row cs) :=
  ⟨xs, t, by simp, hc, fun j v x a b => h.vrel (ext_new (.cells xs t) d (.row cs) hn) (ins_mono hn) (hv j v x a b)⟩

theorem row_new' {n : Nat} (hn : ι n = none) (h : HRel P w D ι H) {xs : Array Value} {cs : List AV} (t : TypeId) (d : Nat) (hv : VRels w D ι cs xs) :
    BRel P { w with heap := w.heap.push (.cells xs t), drawn := d } D (ins ι n w.heap.size) w.heap.size (.row cs) := row_new hn h t d (by rw [hv.1]; exact Nat.le_refl _) hv.2

theorem zero_ok {t : TypeId} {z : List AV} (h : zeroT P t = some z) : ∃ v, (zeroValue t).run P w = .ok v w ∧ VRels w D ι z v.cells := by
  simp only [zeroT, Option.bind_eq_some_iff] at h
  obtain ⟨i, hi, v, hz, hc⟩ := h
  exact ⟨v, by simp [zeroValue, typeInfo, hi, hz], by simpa using ofCells_ok (w := w) (D := D) (ι := ι) hc⟩

theorem VRel.cells {v : AV} {x : Value} (h : VRel w D ι v x) : VRels w D ι v.cells x.cells := by
  have one : ∀ {v : AV} {x : Value}, VRel w D ι v x → VRels w D ι [v] #[x] := fun h => ⟨rfl, fun j u y a b => by
    cases j with
    | zero => simp at a b; subst a b; exact h
    | succ j => simp at a⟩
  cases h with
  | agg hn h => exact ⟨hn, h⟩
  | _ => exact one (by first | assumption | constructor <;> assumption)

/-- What an aggregate's parts are told by. -/
theorem fill_ok {place : Nat → Option (Nat × Nat)} : ∀ {l : List (Nat × Value)} {ps : List (Nat × Nat × AV)} {cs : List AV} {xs : Array Value} {out : List AV},
    VRels w D ι cs xs → l.length = ps.length → (∀ (j : Nat) (q : Nat × Value) (p : Nat × Nat × AV), l[j]? = some q → ps[j]? = some p → place q.1 = some (p.1, p.2.1) ∧ VRel w D ι p.2.2 q.2) →
    fillC cs ps = some out → ∃ ys, Instr.fill place xs l = some ys ∧ VRels w D ι out ys := by
  intro l
  induction l with
  | nil =>
    intro ps cs xs out hv hl _ hf
    cases ps with
    | nil => cases hf; exact ⟨xs, rfl, hv⟩
    | cons _ _ => simp at hl
  | cons q l ih =>
    intro ps cs xs out hv hl hp hf
    cases ps with
    | nil => simp at hl
    | cons p ps =>
      obtain ⟨off, n, v⟩ := p
      simp only [fillC] at hf
      split at hf
      · rename_i hcond
        obtain ⟨i, x⟩ := q
        obtain ⟨h1, h2⟩ := hp 0 _ _ rfl rfl
        simp only at h1 h2
        have hvc := h2.cells
        have hsz : x.cells.size = n := by rw [hvc.1]; exact hcond.1
        simp only [Instr.fill, h1]
        rw [if_neg (by rw [hsz, hv.1]; simp; exact hcond.2)]
        refine ih ?_ (by simpa using hl) (fun j q p a b => hp (j + 1) q p (by simpa using a) (by simpa using b)) hf
        -- the cells laid over
        have key : ∀ (zs : List (Value × Nat)) (ys : Array Value), (zs.foldl (fun cs p => cs.setIfInBounds (off + p.2) p.1) ys).size = ys.size := by
          intro zs
          induction zs with
          | nil => intro ys; rfl
          | cons z zs ih => intro ys; simp [ih]
        have get : ∀ (m : Nat) (vs : List Value) (s : Nat) (ys : Array Value), vs.length = m → ∀ (j : Nat),
            ((vs.zipIdx s).foldl (fun cs p => cs.setIfInBounds (off + p.2) p.1) ys)[j]? =
              if off + s ≤ j ∧ j < off + s + m ∧ j < ys.size then vs[j - (off + s)]? else ys[j]? := by
          intro m
          induction m with
          | zero => intro vs s ys hl j; have : vs = [] := List.length_eq_zero_iff.1 hl; subst this; rw [if_neg (by omega)]; rfl
          | succ m ihm =>
            intro vs s ys hl j
            cases vs with
            | nil => simp at hl
            | cons u vs =>
              simp only [List.zipIdx_cons, List.foldl_cons]
              rw [ihm vs (s + 1) _ (by simpa using hl) j]
              simp only [Array.size_setIfInBounds, Array.getElem?_setIfInBounds]
              by_cases hj : off + s = j
              · subst hj
                rw [if_neg (by omega), if_pos rfl]
                by_cases hlt : off + s < ys.size
                · rw [if_pos hlt, if_pos (by omega)]; simp
                · rw [if_neg hlt, if_neg (by omega), Array.getElem?_eq_none (by omega)]
              · by_cases h1 : off + (s + 1) ≤ j ∧ j < off + (s + 1) + m ∧ j < ys.size
                · rw [if_pos h1, if_pos (by omega)]
                  rw [show j - (off + s) = (j - (off + (s + 1))) + 1 from by omega]
                  simp
                · rw [if_neg h1, if_neg hj, if_neg (by omega)]
        have hfold : x.cells.zipIdx.foldl (fun cs p => cs.setIfInBounds (off + p.2) p.1) xs = (x.cells.toList.zipIdx 0).foldl (fun cs p => cs.setIfInBounds (off + p.2) p.1) xs := by
          rw [← Array.foldl_toList, Array.toList_zipIdx]
        refine ⟨?_, fun j u y hj hy => ?_⟩
        · show (x.cells.zipIdx.foldl (fun cs p => cs.setIfInBounds (off + p.2) p.1) xs).size = _
          rw [hfold, key, hv.1]
          simp [over]; omega
        · have hy' : (x.cells.zipIdx.foldl (fun cs p => cs.setIfInBounds (off + p.2) p.1) xs)[j]? = some y := hy
          rw [hfold, get n x.cells.toList 0 xs (by simpa using hsz) j] at hy'
          simp only [Nat.add_zero, Array.getElem?_toList] at hy'
          have hlen : cs.length = xs.size := hv.1.symm
          simp only [over] at hj
          rw [List.append_assoc] at hj
          by_cases hlo : j < off
          · rw [if_neg (by omega)] at hy'
            rw [List.getElem?_append_left (by simp; omega), List.getElem?_take_of_lt hlo] at hj
            exact hv.2 j u y hj hy'
          · rw [List.getElem?_append_right (by simp; omega)] at hj
            have htl : (cs.take off).length = off := by simp; omega
            rw [htl] at hj
            by_cases hhi : j < off + n
            · rw [if_pos (by omega)] at hy'
              rw [List.getElem?_append_left (by omega)] at hj
              exact hvc.2 _ u y hj hy'
            · rw [if_neg (by omega)] at hy'
              rw [List.getElem?_append_right (by omega), List.getElem?_drop] at hj
              rw [show off + v.cells.length + (j - off - v.cells.length) = j from by omega] at hj
              exact hv.2 j u y hj hy'
      · cases hf

variable {st : ASt} {a : Act}

theorem parts_ok (hs : SRel P T st D ι a w) {place : Nat → Option (Nat × Nat)} : ∀ {ps : List (Nat × Operand)} {qs : List (Nat × Nat × Opd)}, compParts place ps = some qs → ∀ {vs : List (Nat × Nat × AV)},
    parts (val T st.env) qs = some vs → ps.length = vs.length ∧ ∀ (j : Nat) (q : Nat × Operand) (p : Nat × Nat × AV), ps[j]? = some q → vs[j]? = some p → place q.1 = some (p.1, p.2.1) ∧ VRel w D ι p.2.2 (a.eval q.2)
  | [], qs, hc, vs, hv => by cases hc; cases hv; exact ⟨rfl, fun j q p h => by simp at h⟩
  | (i, x) :: ps, qs, hc, vs, hv => by
    simp only [compParts, Option.bind_eq_some_iff, Option.map_eq_some_iff] at hc
    obtain ⟨pl, hpl, y, hy, r, hr, rfl⟩ := hc
    simp only [parts, optAll, Option.bind_eq_some_iff, Option.map_eq_some_iff] at hv
    obtain ⟨_, ⟨v, hv, rfl⟩, s, hs', rfl⟩ := hv
    obtain ⟨h1, h2⟩ := parts_ok hs hr (vs := s) hs'
    refine ⟨by simp [h1], fun j q p hq hp => ?_⟩
    cases j with
    | zero => simp at hq hp; subst hq hp; exact ⟨hpl, opd_ok hs hy hv⟩
    | succ j => exact h2 j q p (by simpa using hq) (by simpa using hp)

theorem places_ok : ∀ {fs : List Field} {pl : List (Nat × Nat)}, places P fs = some pl → (fs.mapM fun f => (do pure (f.offset, ← sizeOf f.type) : Sem (Nat × Nat))).run P w = .ok pl w
  | [], pl, h => by cases h; rfl
  | f :: fs, pl, h => by
    simp only [places, Option.bind_eq_some_iff, Option.map_eq_some_iff] at h
    obtain ⟨n, hn, r, hr, rfl⟩ := h
    have ih := places_ok hr
    rw [List.mapM_cons]
    simp only [Sem.run_bind, size_ok hn, Result.andThen_ok, Sem.run_pure, ih]

theorem ok_mv {nb : Nat} {o : Oper} {x : Operand} {y : Opd} (hs : SRel P T st D ι a w) (ho : o.op = .move x ∨ o.op = .assign x) (hx : compO x = some y) {v e} (h : aop (val T st.env) (st.H[·]?) nb (.mv y) = some (.val v e)) :
    OpRes P nb st.H D ι w ((execOp a.eval o).run P w) v e := by
  simp only [aop, Option.map_eq_some_iff] at h
  obtain ⟨u, hu, h⟩ := h
  cases h
  refine res_no hs.h (x := a.eval x) ?_ (opd_ok hs hx hu)
  rcases ho with ho | ho <;> simp [execOp, ho]

theorem ok_pick {nb : Nat} {o : Oper} {c x y : Operand} {c' x' y' : Opd} (hs : SRel P T st D ι a w) (ho : o.op = .pick c x y) (hc : compO c = some c') (hx : compO x = some x') (hy : compO y = some y') {v e}
    (h : aop (val T st.env) (st.H[·]?) nb (.pick c' x' y') = some (.val v e)) : OpRes P nb st.H D ι w ((execOp a.eval o).run P w) v e := by
  simp only [aop] at h
  split at h
  · rename_i b hb
    have hcv := opd_ok hs hc hb
    generalize hcx : a.eval c = cx at hcv
    cases hcv
    simp only [Option.map_eq_some_iff] at h
    obtain ⟨u, hu, h⟩ := h
    cases h
    cases b
    · exact res_no hs.h (x := a.eval y) (by simp [execOp, ho, hcx, asBool]) (opd_ok hs hy (by simpa using hu))
    · exact res_no hs.h (x := a.eval x) (by simp [execOp, ho, hcx, asBool]) (opd_ok hs hx (by simpa using hu))
  · cases h

theorem ok_alloc {nb : Nat} (hnb : ι nb = none) {o : Oper} {t : TypeId} {z : List AV} (hs : SRel P T st D ι a w) (ho : o.op = .alloc t) (hz : zeroT P t = some z) {v e}
    (h : aop (val T st.env) (st.H[·]?) nb (.alloc z) = some (.val v e)) : OpRes P nb st.H D ι w ((execOp a.eval o).run P w) v e := by
  simp only [aop] at h
  cases h
  obtain ⟨x, hx, hv⟩ := zero_ok (w := w) (D := D) (ι := ι) hz
  exact res_new hnb hs.h (d := w.drawn) (by simp [execOp, ho, Instr.alloc, hx, newVar, newRow]) (row_new' hnb hs.h t w.drawn hv) (.ptr (ins_self _ _ _))

theorem ok_box {nb : Nat} (hnb : ι nb = none) {o : Oper} {t : TypeId} {x : Operand} {y : Opd} (hs : SRel P T st D ι a w) (ho : o.op = .box t x) (hx : compO x = some y) {v e}
    (h : aop (val T st.env) (st.H[·]?) nb (.box y) = some (.val v e)) : OpRes P nb st.H D ι w ((execOp a.eval o).run P w) v e := by
  simp only [aop, Option.map_eq_some_iff] at h
  obtain ⟨u, hu, h⟩ := h
  cases h
  exact res_new hnb hs.h (d := w.drawn) (by simp [execOp, ho, Instr.box, newVar, newRow]) (row_new' hnb hs.h t w.drawn (opd_ok hs hx hu).cells) (.ptr (ins_self _ _ _))

theorem ok_load {nb : Nat} {o : Oper} {t : TypeId} {g n} {x : Operand} {y : Opd} (hs : SRel P T st D ι a w) (ho : o.op = .load t x) (hg : aggT P t = some g) (hn : sizeT P t = some n) (hx : compO x = some y) {v e}
    (h : aop (val T st.env) (st.H[·]?) nb (.load g n y) = some (.val v e)) : OpRes P nb st.H D ι w ((execOp a.eval o).run P w) v e := by
  simp only [aop] at h
  split at h
  · rename_i b off hp
    split at h
    · rename_i cs hrow
      simp only [Option.map_eq_some_iff] at h
      obtain ⟨u, hu, h⟩ := h
      cases h
      obtain ⟨k, hk, hxv⟩ := (opd_ok hs hx hp).ptr_inv
      obtain ⟨z, h1, h2⟩ := run_loadVar hg hn hu (hs.h.cells hrow hk)
      exact res_no hs.h (by simp [execOp, ho, hxv, Instr.loadAt, Instr.sureAddr, h1]) h2
    · cases h
  · rename_i cs hp
    simp only [Option.map_eq_some_iff] at h
    obtain ⟨u, hu, h⟩ := h
    cases h
    obtain ⟨b, off, hxv, _, hc⟩ := (opd_ok hs hx hp).cptr_inv
    obtain ⟨z, h1, h2⟩ := run_loadVar hg hn hu hc
    exact res_no hs.h (by simp [execOp, ho, hxv, Instr.loadAt, Instr.sureAddr, h1]) h2
  · cases h

theorem ok_build {nb : Nat} {o : Oper} {t : TypeId} {ps : Array (Nat × Operand)} {op : AOp} (hs : SRel P T st D ι a w) (ho : o.op = .build t ps) (hc : compOp P o = some op) {v e}
    (h : aop (val T st.env) (st.H[·]?) nb op = some (.val v e)) : OpRes P nb st.H D ι w ((execOp a.eval o).run P w) v e := by
  simp only [compOp, ho, Option.bind_eq_some_iff] at hc
  obtain ⟨z, hz, hc⟩ := hc
  obtain ⟨zv, hz1, hz2⟩ := zero_ok (w := w) (D := D) (ι := ι) hz
  have hlist : (ps.map fun p => (p.1, a.eval p.2)).toList = ps.toList.map fun p => (p.1, a.eval p.2) := by simp
  split at hc
  · rename_i fs hu
    simp only [Option.bind_eq_some_iff, Option.map_eq_some_iff] at hc
    obtain ⟨pl, hpl, l, hl, rfl⟩ := hc
    simp only [aop, Option.bind_eq_some_iff, Option.map_eq_some_iff] at h
    obtain ⟨vs, hvs, cs, hcs, h⟩ := h
    cases h
    obtain ⟨g1, g2⟩ := parts_ok hs hl hvs
    obtain ⟨ys, h1, h2⟩ := fill_ok (place := (pl[·]?)) (l := ps.toList.map fun p => (p.1, a.eval p.2)) hz2 (by simpa using g1) (fun j q p hq hp => by
      simp only [List.getElem?_map, Option.map_eq_some_iff] at hq
      obtain ⟨q', hq', rfl⟩ := hq
      exact g2 j q' p hq' hp) hcs
    refine res_no hs.h (x := .agg ys) ?_ (.agg h2.1 h2.2)
    have h1' : Instr.fill (pl.toArray[·]?) zv.cells (ps.toList.map fun p => (p.1, a.eval p.2)) = some ys := by simpa using h1
    simp [execOp, ho, Instr.build, hz1, under_ok hu, Array.mapM_eq_mapM_toList, h1']
    have hp := places_ok (w := w) hpl
    simp at hp
    simp [hp, h1]
  · rename_i n el hu
    simp only [Option.bind_eq_some_iff, Option.map_eq_some_iff] at hc
    obtain ⟨sz, hsz, l, hl, rfl⟩ := hc
    simp only [aop, Option.bind_eq_some_iff, Option.map_eq_some_iff] at h
    obtain ⟨vs, hvs, cs, hcs, h⟩ := h
    cases h
    obtain ⟨g1, g2⟩ := parts_ok hs hl hvs
    obtain ⟨ys, h1, h2⟩ := fill_ok (place := fun i => some (i * sz, sz)) (l := ps.toList.map fun p => (p.1, a.eval p.2)) hz2 (by simpa using g1) (fun j q p hq hp => by
      simp only [List.getElem?_map, Option.map_eq_some_iff] at hq
      obtain ⟨q', hq', rfl⟩ := hq
      exact g2 j q' p hq' hp) hcs
    refine res_no hs.h (x := .agg ys) ?_ (.agg h2.1 h2.2)
    simp [execOp, ho, Instr.build, hz1, under_ok hu, size_ok hsz, h1]
  · cases hc

theorem cell_one {v : AV} {x : Value} (h : VRel w D ι v x) (hc : v.isCell = true) : x.oneCell' = true := by
  cases h <;> first | rfl | simp [AV.isCell] at hc

end
end Go.Abs
end

section
/- Each operation of the machine does what the walk's own operation does (3): rows written over, slices built and made, arithmetic, comparisons. Conditions: none. -/
namespace Go.Abs

section
variable {P : Program} {T : Tab} {w : World} {D : Nat → Prop} {ι : Nat → Option Nat} {H : List AB} {st : ASt} {a : Act}

theorem get_rep (z : List AV) : ∀ (n j : Nat), (List.replicate n z).flatten[j]? = if j < n * z.length then z[j % z.length]? else none
  | 0, j => by simp
  | n + 1, j => by
    simp only [List.replicate_succ, List.flatten_cons]
    by_cases hj : j < z.length
    · rw [List.getElem?_append_left hj, Nat.mod_eq_of_lt hj, if_pos (by rw [Nat.add_mul]; omega)]
    · rw [List.getElem?_append_right (by omega), get_rep z n]
      by_cases h2 : j < (n + 1) * z.length
      · rw [Nat.add_mul] at h2
        rw [if_pos (by omega), if_pos (by rw [Nat.add_mul]; omega)]
        rw [Nat.mod_eq_sub_mod (a := j) (by omega)]
      · rw [Nat.add_mul] at h2
        rw [if_neg (by omega), if_neg (by rw [Nat.add_mul]; omega)]

theorem len_rep (z : List AV) (n : Nat) : (List.replicate n z).flatten.length = n * z.length := by simp

/-- A row of n zero values. -/
theorem zeros_ok {z : List AV} {zc : Array Value} (hz : VRels w D ι z zc) (n : Nat) : VRels w D ι (List.replicate n z).flatten ((Array.range (n * z.length)).map (zc[· % zc.size]!)) := by
  refine ⟨by simp, fun j v x hj hx => ?_⟩
  rw [get_rep] at hj
  split at hj
  · rename_i hlt
    have hx' : zc[j % zc.size]! = x := by
      rw [Array.getElem?_map, Array.getElem?_range, if_pos hlt] at hx
      exact Option.some.inj hx
    rw [hz.1] at hx'
    have hpos : 0 < z.length := by
      rcases Nat.eq_zero_or_pos z.length with h | h
      · rw [h] at hlt; omega
      · exact h
    have hm := Nat.mod_lt j hpos
    have hsz : j % z.length < zc.size := by rw [hz.1]; exact hm
    refine hz.2 (j % z.length) v x hj ?_
    rw [getElem!_pos zc _ hsz] at hx'
    rw [Array.getElem?_eq_getElem hsz, hx']
  · cases hj

theorem setRow_eq {k : Nat} {c c' : Array Value} {e : TypeId} {f : Nat × Nat} (h : w.heap[k]? = some (.cells c e f)) : w.setRow k c' = { w with heap := w.heap.setIfInBounds k (.cells c' e f), drawn := w.drawn } := by
  have hlt : k < w.heap.size := (Array.getElem?_eq_some_iff.1 h).1
  have hv : w.heap[k] = .cells c e f := (Array.getElem?_eq_some_iff.1 h).2
  unfold World.setRow
  congr 1
  apply Array.ext
  · simp
  · intro i h1 h2
    rw [Array.getElem_modify, Array.getElem_setIfInBounds (by simpa using h1)]
    by_cases hi : k = i
    · subst hi; simp [hv]
    · simp [hi]

theorem over_get {cs vs : List AV} {off : Nat} (hl : off + vs.length ≤ cs.length) (j : Nat) : (over cs off vs)[j]? = if off ≤ j ∧ j < off + vs.length then vs[j - off]? else cs[j]? := by
  unfold over
  rw [List.append_assoc]
  have htl : (cs.take off).length = off := by simp; omega
  by_cases h1 : j < off
  · rw [if_neg (by omega), List.getElem?_append_left (by omega), List.getElem?_take_of_lt h1]
  · rw [List.getElem?_append_right (by omega), htl]
    by_cases h2 : j < off + vs.length
    · rw [if_pos (by omega), List.getElem?_append_left (by omega)]
    · rw [if_neg (by omega), List.getElem?_append_right (by omega), List.getElem?_drop]
      congr 1; omega

theorem over_len {cs vs : List AV} {off : Nat} (hl : off + vs.length ≤ cs.length) : (over cs off vs).length = cs.length := by simp [over]; omega

/-- Cells of a living row written over: the machine's store. -/
theorem store_ok (h : HRel P w D ι H) {b k off : Nat} {cs vs : List AV} {xs : Array Value} (hb : H[b]? = some (.row cs)) (hk : ι b = some k) (hl : off + vs.length ≤ cs.length) (hv : VRels w D ι vs xs) (h1 : vs.all AV.isCell = true) :
    ∃ w' , (storeCells ⟨k, off, none⟩ xs.toList 0).run P w = .ok () w' ∧ HRel P w' D ι (H.set b (.row (over cs off vs))) ∧ Ext w D (Live ι H) w' D (Live ι (H.set b (.row (over cs off vs)))) := by
  obtain ⟨c, e, hc, hle, hcv⟩ := (h.blk b _ k hb rfl hk).2
  have hrun := run_storeCells_at (P := P) k off e xs.toList 0 c w hc (by simp [hv.1]; omega) (fun x hx => by
    obtain ⟨j, hj⟩ := List.getElem?_of_mem hx
    have hlt : j < vs.length := by have := (List.getElem?_eq_some_iff.1 hj).1; simp [hv.1] at this; exact this
    have hu := hv.2 j vs[j] x (List.getElem?_eq_getElem hlt) (by simpa using hj)
    exact cell_one hu (by simpa using List.all_eq_true.1 h1 vs[j] (List.getElem_mem hlt)))
  rw [setRow_eq hc] at hrun
  refine ⟨_, hrun, ?_, ?_⟩
  · refine hrel_upd h hb rfl hk (fun c2 e2 f2 he => by cases he; exact ⟨c, (0, 0), hc, by simp [hv.1]; omega⟩) ?_
    refine ⟨_, e, by simp only [Array.getElem?_setIfInBounds]; rw [if_pos trivial, if_pos (Array.getElem?_eq_some_iff.1 hc).1], by rw [over_len hl]; simp [hv.1]; omega, fun j v x hj hx => ?_⟩
    have hext := ext_upd (B := .row (over cs off vs)) (n := w.drawn) (o' := .cells (c.toList.take (off + 0) ++ xs.toList ++ c.toList.drop (off + 0 + xs.toList.length)).toArray e (0, 0)) h hb rfl hk (fun c2 e2 f2 he => by cases he; exact ⟨c, (0, 0), hc, by simp [hv.1]; omega⟩)
    refine h.vrel hext (fun _ _ h => h) ?_
    rw [over_get hl] at hj
    rw [List.getElem?_toArray, Nat.add_zero, List.append_assoc] at hx
    have htl : (c.toList.take off).length = off := by simp; omega
    by_cases h1 : j < off
    · rw [if_neg (by omega)] at hj
      rw [List.getElem?_append_left (by omega), List.getElem?_take_of_lt h1] at hx
      exact hcv j v x hj (by simpa using hx)
    · rw [List.getElem?_append_right (by omega), htl] at hx
      by_cases h2 : j < off + vs.length
      · rw [if_pos (by omega)] at hj
        rw [List.getElem?_append_left (by simp [hv.1]; omega)] at hx
        exact hv.2 _ v x hj (by simpa using hx)
      · rw [if_neg (by omega)] at hj
        rw [List.getElem?_append_right (by simp [hv.1]; omega), List.getElem?_drop] at hx
        refine hcv j v x hj ?_
        simp only [Array.length_toList, hv.1, Array.getElem?_toList] at hx
        rw [show off + vs.length + (j - off - vs.length) = j from by omega] at hx
        exact hx
  · exact ext_upd h hb rfl hk (fun c2 e2 f2 he => by cases he; exact ⟨c, (0, 0), hc, by simp [hv.1]; omega⟩)

theorem ok_store {nb : Nat} {o : Oper} {t : TypeId} {n} {x y : Operand} {x' y' : Opd} (hs : SRel P T st D ι a w) (ho : o.op = .store t x y) (hn : sizeT P t = some n) (hx : compO x = some x') (hy : compO y = some y') {v e}
    (h : aop (val T st.env) (st.H[·]?) nb (.store n x' y') = some (.val v e)) : OpRes P nb st.H D ι w ((execOp a.eval o).run P w) v e := by
  simp only [aop] at h
  split at h
  · rename_i b off u hp hu
    split at h
    · rename_i cs hrow
      split at h
      · rename_i hcond
        cases h
        obtain ⟨k, hk, hxv⟩ := (opd_ok hs hx hp).ptr_inv
        have huv := opd_ok hs hy hu
        obtain ⟨w', h1, h2, h3⟩ := store_ok hs.h hrow hk (by rw [hcond.1]; exact hcond.2.1) huv.cells hcond.2.2
        refine ⟨.skip, undef, w', ι, ?_, .inr ⟨rfl, rfl⟩, h2, .tup rfl (fun j v x h => by simp at h), h3, fun _ _ h => h, fun _ _ h => .inl h⟩
        have hsz : (a.eval y).cells.size = n := by rw [huv.cells.1]; exact hcond.1
        simp [execOp, ho, hxv, Instr.storeAt, Instr.sureAddr, storeVar, size_ok hn, hsz, h1]
      · cases h
    · cases h
  · cases h

theorem range0 : Array.range 0 = #[] := rfl

theorem ok_bsl {nb : Nat} (hnb : ι nb = none) {o : Oper} {t : TypeId} {len : Nat} {ps : Array (Nat × Operand)} {op : AOp} (hs : SRel P T st D ι a w) (ho : o.op = .buildSlice t len ps) (hc : compOp P o = some op) {v e}
    (h : aop (val T st.env) (st.H[·]?) nb op = some (.val v e)) : OpRes P nb st.H D ι w ((execOp a.eval o).run P w) v e := by
  simp only [compOp, ho] at hc
  split at hc
  · rename_i el hu
    simp only [Option.bind_eq_some_iff] at hc
    obtain ⟨sz, hsz, z, hz, hc⟩ := hc
    split at hc
    · cases hc
    · rename_i hcond
      simp only [Option.map_eq_some_iff] at hc
      obtain ⟨l, hl, rfl⟩ := hc
      have hc1 : ¬ len * sz > 2 ^ 24 := fun h => hcond (.inl h)
      have hc2 : z.length = sz := Decidable.not_not.1 fun h => hcond (.inr (.inl h))
      have hc3 : sz ≠ 0 := fun h => hcond (.inr (.inr h))
      simp only [aop, Option.bind_eq_some_iff, Option.map_eq_some_iff] at h
      obtain ⟨vs, hvs, cs, hcs, h⟩ := h
      cases h
      obtain ⟨g1, g2⟩ := parts_ok hs hl hvs
      obtain ⟨zv, hz1, hz2⟩ := zero_ok (w := w) (D := D) (ι := ι) hz
      have hzs := zeros_ok hz2 len
      obtain ⟨ys, h1, h2⟩ := fill_ok (place := fun i => some (i * sz, sz)) (l := ps.toList.map fun p => (p.1, a.eval p.2)) hzs (by simpa using g1) (fun j q p hq hp => by
        simp only [List.getElem?_map, Option.map_eq_some_iff] at hq
        obtain ⟨q', hq', rfl⟩ := hq
        exact g2 j q' p hq' hp) hcs
      rw [hc2] at h1
      refine res_new hnb hs.h (d := w.drawn) (x := .slice (some ⟨w.heap.size, 0, none⟩) len len) ?_ (row_new' hnb hs.h el w.drawn h2) (.msl (ins_self _ _ _) (Nat.le_refl _))
      by_cases h0 : len * sz = 0
      · rw [h0, range0] at h1
        simp [execOp, ho, Instr.buildSlice, under_ok hu, size_ok hsz, h0, range0, newRow]
        rw [show Array.map (fun x => zv.cells[x % zv.cells.size]!) #[] = (#[] : Array Value) from by simp] at h1
        simp [h1]
      · simp [execOp, ho, Instr.buildSlice, under_ok hu, size_ok hsz, hc1, h0, hz1, newRow]
        simp [h1]
  · cases hc

end
end Go.Abs
end

section
/- '==' at the types whose values lie as bools, numbers and strings in order. Conditions: none. -/
namespace Go.Abs

section
variable {P : Program} {T : Tab} {w : World} {D : Nat → Prop} {ι : Nat → Option Nat} {H : List AB} {st : ASt} {a : Act}

theorem aeqs_len : ∀ {ks : List Nat} {c d : List AV} {r : Bool}, aeqs ks c d = some r → c.length = ks.length ∧ d.length = ks.length
  | [], c, d, r, h => by cases c <;> cases d <;> simp [aeqs] at h ⊢
  | k :: ks, c, d, r, h => by
    unfold aeqs at h
    split at h
    · cases ‹_ :: _ = _›
    · rename_i q _ _ _ _ _; simp only [Option.map_eq_some_iff] at h; obtain ⟨t, ht, _⟩ := h; have := aeqs_len ht; simp_all
    · split at h
      · simp only [Option.map_eq_some_iff] at h; obtain ⟨t, ht, _⟩ := h; have := aeqs_len ht; simp_all
      · cases h
    · simp only [Option.map_eq_some_iff] at h; obtain ⟨t, ht, _⟩ := h; have := aeqs_len ht; simp_all
    · cases h

theorem aeqs_append : ∀ (k1 k2 : List Nat) {c d : List AV} {r : Bool}, aeqs (k1 ++ k2) c d = some r → ∃ r1 r2, aeqs k1 (c.take k1.length) (d.take k1.length) = some r1 ∧ aeqs k2 (c.drop k1.length) (d.drop k1.length) = some r2 ∧ r = (r1 && r2)
  | [], k2, c, d, r, h => ⟨true, r, by simp [aeqs], by simpa using h, by simp⟩
  | k :: k1, k2, c, d, r, h => by
    rw [List.cons_append] at h
    unfold aeqs at h
    split at h
    · cases ‹_ :: _ = _›
    · rename_i q a r' b s he
      cases he
      simp only [Option.map_eq_some_iff] at h; obtain ⟨t, ht, rfl⟩ := h
      obtain ⟨r1, r2, h1, h2, rfl⟩ := aeqs_append k1 k2 ht
      exact ⟨a == b && r1, r2, by simp [aeqs, h1], by simpa using h2, by simp [Bool.and_assoc]⟩
    · rename_i q j a r' k b s he
      cases he
      split at h
      · rename_i hjk
        simp only [Option.map_eq_some_iff] at h; obtain ⟨t, ht, rfl⟩ := h
        obtain ⟨r1, r2, h1, h2, rfl⟩ := aeqs_append k1 k2 ht
        exact ⟨a == b && r1, r2, by simp [aeqs, h1, hjk], by simpa using h2, by simp [Bool.and_assoc]⟩
      · cases h
    · rename_i q a r' b s he
      cases he
      simp only [Option.map_eq_some_iff] at h; obtain ⟨t, ht, rfl⟩ := h
      obtain ⟨r1, r2, h1, h2, rfl⟩ := aeqs_append k1 k2 ht
      exact ⟨a == b && r1, r2, by simp [aeqs, h1], by simpa using h2, by simp [Bool.and_assoc]⟩
    · cases h

/-- A value of a type that lies in cells. -/
def TV (P : Program) (w : World) (D : Nat → Prop) (ι : Nat → Option Nat) (t : TypeId) (cs : List AV) (x : Value) : Prop :=
  match aggT P t with
    | some true => ∃ xs, x = .agg xs ∧ VRels w D ι cs xs
    | _ => ∃ v, cs = [v] ∧ VRel w D ι v x

theorem part_ok {t : TypeId} {g : Bool} {n off : Nat} (hg : aggT P t = some g) (hn : sizeT P t = some n) (h1 : g = false → n = 1) {cs : List AV} {xs : Array Value} (hv : VRels w D ι cs xs) (hl : off + n ≤ cs.length) :
    ∃ x, (part t xs off).run P w = .ok x w ∧ TV P w D ι t ((cs.drop off).take n) x := by
  cases g with
  | true =>
    refine ⟨.agg (xs.extract off (off + n)), by simp [part, isAgg_ok hg, size_ok hn], ?_⟩
    unfold TV
    rw [hg]
    refine ⟨_, rfl, by simp [hv.1]; omega, fun j v x hj hx => ?_⟩
    have hlt : j < n := by have := (List.getElem?_eq_some_iff.1 hj).1; simp at this; omega
    rw [List.getElem?_take_of_lt hlt, List.getElem?_drop] at hj
    rw [Array.getElem?_extract_of_lt (by rw [hv.1]; omega), ← Array.getElem?_eq_getElem] at hx
    exact hv.2 _ v x hj (by simpa using hx)
  | false =>
    have := h1 rfl
    subst this
    have hlt : off < xs.size := by rw [hv.1]; omega
    have hlt' : off < cs.length := by omega
    refine ⟨xs[off], by simp [part, isAgg_ok hg, hlt], ?_⟩
    unfold TV
    rw [hg]
    refine ⟨cs[off], ?_, hv.2 off _ _ (List.getElem?_eq_getElem hlt') (Array.getElem?_eq_getElem hlt)⟩
    rw [List.drop_eq_getElem_cons hlt', List.take_succ_cons, List.take_zero]

theorem aeqs_one {k : Nat} {u v : AV} {r : Bool} (h : aeqs [k] [u] [v] = some r) : (k = 1 ∧ ∃ q m n, u = .int q m ∧ v = .int q n ∧ r = (m == n)) ∨ (k = 0 ∧ ∃ b c, u = .bool b ∧ v = .bool c ∧ r = (b == c)) ∨ (k = 2 ∧ ∃ s t, u = .str s ∧ v = .str t ∧ r = (s == t)) := by
  unfold aeqs at h
  split at h
  · cases ‹_ :: _ = _›
  · rename_i q a r' b s he h2 h3; cases he; cases h2; cases h3; simp [aeqs] at h; exact .inr (.inl ⟨rfl, _, _, rfl, rfl, h.symm⟩)
  · rename_i q j a r' k b s he h2 h3; cases he; cases h2; cases h3; simp [aeqs] at h; obtain ⟨rfl, h⟩ := h; exact .inl ⟨rfl, _, _, _, rfl, rfl, h.symm⟩
  · rename_i q a r' b s he h2 h3; cases he; cases h2; cases h3; simp [aeqs] at h; exact .inr (.inr ⟨rfl, _, _, rfl, rfl, h.symm⟩)
  · cases h

theorem flatK_facts {d : Nat} {t : TypeId} {ks : List Nat} (h : flatK P d t = some ks) : sizeT P t = some ks.length ∧ ∃ g, aggT P t = some g ∧ (g = false → ks.length = 1) := by
  cases d with
  | zero => simp [flatK] at h
  | succ d =>
    simp only [flatK] at h
    split at h
    · rename_i hu; split at h <;> cases h; exact ⟨by simpa, false, by simp [aggT, hu], fun _ => rfl⟩
    · rename_i hu; split at h <;> cases h; exact ⟨by simpa, false, by simp [aggT, hu], fun _ => rfl⟩
    · rename_i hu; split at h <;> cases h; exact ⟨by simpa, false, by simp [aggT, hu], fun _ => rfl⟩
    · rename_i fs hu
      split at h
      · cases h
      · simp only [Option.bind_eq_some_iff] at h
        obtain ⟨ks', hks, h⟩ := h
        split at h <;> cases h
        exact ⟨by assumption, true, by simp [aggT, hu], fun h => by cases h⟩
    · rename_i n e hu
      simp only [Option.bind_eq_some_iff] at h
      obtain ⟨ks', hks, h⟩ := h
      split at h <;> cases h
      exact ⟨by simpa, true, by simp [aggT, hu], fun h => by cases h⟩
    · cases h

theorem take_drop_comm (cs : List AV) (o n k : Nat) (h : o + n ≤ k) : ((cs.take k).drop o).take n = (cs.drop o).take n := by
  rw [List.drop_take, List.take_take]
  congr 1; omega

theorem eq_flat : ∀ (d : Nat) (t : TypeId) (ks : List Nat), flatK P d t = some ks → ∀ (m : Nat), d ≤ m → ∀ (cs ds : List AV) (r : Bool) (x y : Value), TV P w D ι t cs x → TV P w D ι t ds y → aeqs ks cs ds = some r →
    (Op.equalIn m t x y).run P w = .ok r w := by
  intro d
  induction d with
  | zero => intro t ks h; simp [flatK] at h
  | succ d ih =>
    intro t ks h m hm cs ds r x y hx hy hr
    obtain ⟨m, rfl⟩ : ∃ k, m = k + 1 := ⟨m - 1, by omega⟩
    have hfacts := flatK_facts h
    simp only [flatK] at h
    split at h
    · rename_i hu
      split at h <;> cases h
      have hg : aggT P t = some false := by simp [aggT, hu]
      simp only [TV, hg] at hx hy
      obtain ⟨u, rfl, hxu⟩ := hx
      obtain ⟨v, rfl, hyv⟩ := hy
      rcases aeqs_one hr with ⟨hk, _⟩ | ⟨_, b, c, rfl, rfl, rfl⟩ | ⟨hk, _⟩
      · cases hk
      · cases hxu; cases hyv; simp [Op.equalIn, under_ok hu]
      · cases hk
    · rename_i hu
      split at h <;> cases h
      have hg : aggT P t = some false := by simp [aggT, hu]
      simp only [TV, hg] at hx hy
      obtain ⟨u, rfl, hxu⟩ := hx
      obtain ⟨v, rfl, hyv⟩ := hy
      rcases aeqs_one hr with ⟨_, q, i, j, rfl, rfl, rfl⟩ | ⟨hk, _⟩ | ⟨hk, _⟩
      · cases hxu; cases hyv; simp [Op.equalIn, under_ok hu]
      · cases hk
      · cases hk
    · rename_i hu
      split at h <;> cases h
      have hg : aggT P t = some false := by simp [aggT, hu]
      simp only [TV, hg] at hx hy
      obtain ⟨u, rfl, hxu⟩ := hx
      obtain ⟨v, rfl, hyv⟩ := hy
      rcases aeqs_one hr with ⟨hk, _⟩ | ⟨hk, _⟩ | ⟨_, s, t', rfl, rfl, rfl⟩
      · cases hk
      · cases hk
      · cases hxu; cases hyv; simp [Op.equalIn, under_ok hu]
    · -- a struct
      rename_i fs hu
      split at h
      · cases h
      · rename_i hst
        simp only [Option.bind_eq_some_iff] at h
        obtain ⟨ks', hks, h⟩ := h
        split at h <;> cases h
        rename_i hsz
        have hg : aggT P t = some true := by simp [aggT, hu]
        simp only [TV, hg] at hx hy
        obtain ⟨xs, rfl, hxs⟩ := hx
        obtain ⟨ys, rfl, hys⟩ := hy
        obtain ⟨hl1, hl2⟩ := aeqs_len hr
        have hst' : P.stoodInHeld t = false := by simpa using hst
        have mono : ∀ (l : List Field) (acc ks : List Nat), flatGo (flatK P d) l acc = some ks → ∃ rest, ks = acc ++ rest := by
          intro l
          induction l with
          | nil => intro acc ks h; cases h; exact ⟨[], by simp⟩
          | cons f l ihl =>
            intro acc ks h
            simp only [flatGo] at h
            split at h
            · simp only [Option.bind_eq_some_iff] at h
              obtain ⟨q, _, h⟩ := h
              obtain ⟨rest, rfl⟩ := ihl _ _ h
              exact ⟨q ++ rest, by simp⟩
            · cases h
        have key : ∀ (l : List Field) (acc rest : List Nat) (r : Bool), flatGo (flatK P d) l acc = some ks → ks = acc ++ rest → aeqs rest (cs.drop acc.length) (ds.drop acc.length) = some r →
            Sem.run P (forIn l ((none : Option Bool), ()) fun f __s =>
              if f.name ≠ "_" then do
                let __do_lift ← part f.type xs f.offset
                let __do_lift_1 ← part f.type ys f.offset
                let __do_lift ← Op.equalIn m f.type __do_lift __do_lift_1
                if (!__do_lift) = true then pure (ForInStep.done (some false, ())) else pure (ForInStep.yield (none, ()))
              else pure (ForInStep.yield (none, ()))) w = .ok (if r then (none, ()) else (some false, ())) w := by
          intro l
          induction l with
          | nil =>
            intro acc rest r hgo he hr'
            simp only [flatGo, Option.some.injEq] at hgo
            have : rest = [] := by rw [← hgo] at he; simpa using he
            subst this
            have h0 := aeqs_len hr'
            have e1 : cs.drop acc.length = [] := List.length_eq_zero_iff.1 h0.1
            have e2 : ds.drop acc.length = [] := List.length_eq_zero_iff.1 h0.2
            rw [e1, e2] at hr'
            simp [aeqs] at hr'
            subst hr'
            rfl
          | cons f l ihl =>
            intro acc rest r hgo he hr'
            simp only [flatGo] at hgo
            split at hgo
            · rename_i hcond
              simp only [Bool.and_eq_true, bne_iff_ne, ne_eq, beq_iff_eq] at hcond
              simp only [Option.bind_eq_some_iff] at hgo
              obtain ⟨q, hq, hgo⟩ := hgo
              obtain ⟨rest', he'⟩ := mono _ _ _ hgo
              have hrest : rest = q ++ rest' := by rw [he] at he'; simpa using he'
              subst hrest
              obtain ⟨r1, r2, h1, h2, rfl⟩ := aeqs_append q rest' hr'
              obtain ⟨hsq, g, hgq, hg1⟩ := flatK_facts hq
              have hlen : acc.length + q.length ≤ cs.length := by rw [hl1, he]; simp
              have hlen' : acc.length + q.length ≤ ds.length := by rw [hl2, he]; simp
              obtain ⟨px, hp1, hp2⟩ := part_ok (off := acc.length) hgq hsq hg1 hxs hlen
              obtain ⟨py, hp3, hp4⟩ := part_ok (off := acc.length) hgq hsq hg1 hys hlen'
              have heq := ih f.type q hq m (by omega) _ _ r1 px py hp2 hp4 h1
              have ihr := ihl (acc ++ q) rest' r2 hgo he' (by
                rw [List.length_append, ← List.drop_drop, ← List.drop_drop]; exact h2)
              rw [List.forIn_cons]
              simp only [ne_eq, hcond.1, not_false_eq_true, if_true, hcond.2, Sem.run_bind, hp1, hp3, heq, Result.andThen_ok]
              cases r1
              · simp
              · simp only [Bool.not_true, Bool.false_eq_true, if_false, Sem.run_pure, Result.andThen_ok, Bool.true_and]
                exact ihr
            · cases hgo
        have hk := key fs.toList [] ks r hks (by simp) (by simpa using hr)
        simp only [Op.equalIn, Sem.run_bind, under_ok hu, Result.andThen_ok, run_program, hst', Bool.false_eq_true, if_false]
        rw [← Array.forIn_toList, hk]
        cases r <;> rfl
    · rename_i n e hu
      simp only [Option.bind_eq_some_iff] at h
      obtain ⟨ks', hks, h⟩ := h
      split at h <;> cases h
      rename_i hsz
      have hg : aggT P t = some true := by simp [aggT, hu]
      simp only [TV, hg] at hx hy
      obtain ⟨xs, rfl, hxs⟩ := hx
      obtain ⟨ys, rfl, hys⟩ := hy
      obtain ⟨hl1, hl2⟩ := aeqs_len hr
      obtain ⟨hsq, g, hgq, hg1⟩ := flatK_facts hks
      have key : ∀ (j i : Nat) (r : Bool), i + j = n → aeqs (List.replicate j ks').flatten (cs.drop (i * ks'.length)) (ds.drop (i * ks'.length)) = some r →
          Sem.run P (forIn (List.range' i j) ((none : Option Bool), ()) fun i __s => do
            let __do_lift ← part e xs (i * ks'.length)
            let __do_lift_1 ← part e ys (i * ks'.length)
            let __do_lift ← Op.equalIn m e __do_lift __do_lift_1
            if (!__do_lift) = true then pure (ForInStep.done (some false, ())) else pure (ForInStep.yield (none, ()))) w = .ok (if r then (none, ()) else (some false, ())) w := by
        intro j
        induction j with
        | zero =>
          intro i r hi hr'
          have h0 := aeqs_len hr'
          simp only [List.replicate_zero, List.flatten_nil, List.length_nil] at h0 hr'
          rw [List.length_eq_zero_iff.1 h0.1, List.length_eq_zero_iff.1 h0.2] at hr'
          simp [aeqs] at hr'
          subst hr'
          rfl
        | succ j ihj =>
          intro i r hi hr'
          rw [List.replicate_succ, List.flatten_cons] at hr'
          obtain ⟨r1, r2, h1, h2, rfl⟩ := aeqs_append ks' _ hr'
          have hb : i * ks'.length + ks'.length ≤ n * ks'.length := by
            have := Nat.mul_le_mul_right ks'.length (show i + 1 ≤ n by omega)
            rw [Nat.add_mul] at this; omega
          have hn : (List.replicate n ks').flatten.length = n * ks'.length := by simp
          obtain ⟨px, hp1, hp2⟩ := part_ok (off := i * ks'.length) hgq hsq hg1 hxs (by rw [hl1, hn]; exact hb)
          obtain ⟨py, hp3, hp4⟩ := part_ok (off := i * ks'.length) hgq hsq hg1 hys (by rw [hl2, hn]; exact hb)
          have heq := ih e ks' hks m (by omega) _ _ r1 px py hp2 hp4 h1
          have ihr := ihj (i + 1) r2 (by omega) (by
            rw [show (i + 1) * ks'.length = i * ks'.length + ks'.length from by rw [Nat.add_mul]; omega, ← List.drop_drop, ← List.drop_drop]; exact h2)
          rw [List.range'_succ, List.forIn_cons]
          simp only [Sem.run_bind, hp1, hp3, heq, Result.andThen_ok]
          cases r1
          · simp
          · simp only [Bool.not_true, Bool.false_eq_true, if_false, Sem.run_pure, Result.andThen_ok, Bool.true_and]
            exact ihr
      have hk := key n 0 r (by omega) (by simpa using hr)
      simp only [Op.equalIn, Sem.run_bind, under_ok hu, Result.andThen_ok, size_ok hsq]
      rw [Std.Legacy.Range.forIn_eq_forIn_range']
      simp only [Std.Legacy.Range.size, Nat.sub_zero, Nat.add_sub_cancel, Nat.div_one]
      rw [hk]
      cases r <;> rfl
    · cases h

end
end Go.Abs
end

section
/- Each operation of the machine does what the walk's own operation does (4): numbers, comparisons, addresses, function values, interface values. Conditions: none. -/
namespace Go.Abs

section
variable {P : Program} {T : Tab} {w : World} {D : Nat → Prop} {ι : Nat → Option Nat} {H : List AB} {st : ASt} {a : Act}

/-- what is proved of each operation -/
abbrev OkOp (P : Program) (T : Tab) (w : World) (D : Nat → Prop) (ι : Nat → Option Nat) (st : ASt) (a : Act) (o : Oper) (op : AOp) : Prop :=
  ∀ nb, ι nb = none → ∀ v e, aop (val T st.env) (st.H[·]?) nb op = some (.val v e) → OpRes P nb st.H D ι w ((execOp a.eval o).run P w) v e

theorem VRel.int_inv {k n x} (h : VRel w D ι (.int k n) x) : x = .int k n := by cases h; rfl
theorem VRel.bool_inv {b x} (h : VRel w D ι (.bool b) x) : x = .bool b := by cases h; rfl
theorem VRel.str_inv {s x} (h : VRel w D ι (.str s) x) : x = .string s := by cases h; rfl

theorem ok_nilc {o : Oper} {x : Operand} {y : Opd} (hs : SRel P T st D ι a w) (ho : o.op = .nilCheck x) (hx : compO x = some y) : OkOp P T w D ι st a o (.nilc y) := by
  intro nb hnb v e h
  simp only [aop] at h
  split at h
  · cases h
  · cases h
  · cases h
  · cases h
  · rename_i u h1 h2 h3 h4 hu
    cases h
    have hv := opd_ok hs hx hu
    refine res_no hs.h (x := a.eval x) ?_ hv
    simp only [execOp, ho]
    generalize a.eval x = z at hv
    cases hv <;> first | rfl | exact absurd rfl (by assumption) | skip
    rename_i f fi ca xs ys _ _ _ _
    cases f <;> first | rfl | exact absurd rfl (h4 _ _ _)
  · cases h

theorem wrap_sub0 (k : IntKind) (n : Int) : (Op.intArith .sub k 0 n).run P w = .ok (.int k (k.wrap (0 - n))) w := rfl

theorem ok_un {o : Oper} {op : UnOp} {t : TypeId} {x : Operand} {y : Opd} (hs : SRel P T st D ι a w) (ho : o.op = .unOp op t x) (hx : compO x = some y) : OkOp P T w D ι st a o (.un op y) := by
  intro nb hnb v e h
  simp only [aop, Option.bind_eq_some_iff, Option.map_eq_some_iff] at h
  obtain ⟨u, hu, q, hq, h⟩ := h
  cases h
  have hv := opd_ok hs hx hu
  unfold aun at hq
  split at hq
  · split at hq
    · cases hq
      exact res_no hs.h (by simp [execOp, ho, hv.bool_inv, Op.unary]) (.bool _)
    · cases hq
  · split at hq
    · cases hq
      exact res_no hs.h (by simp [execOp, ho, hv.int_inv, Op.unary, Op.intArith]) (.int _ _)
    · cases hq
  · cases hq

theorem aint_ok {op : BinOp} {k : IntKind} {m n : Int} {v : AV} (h : aint op k m n = some v) : ∃ x, VRel w D ι v x ∧ (match op with
    | .add | .sub | .mul => Op.intArith op k m n
    | .quo | .rem => Op.intDiv op k m n
    | .and | .or | .xor | .andNot => Op.intBits op k m n
    | _ => Op.intCmp op m n).run P w = .ok x w := by
  unfold aint at h
  split at h <;> try (split at h)
  all_goals (cases h)
  all_goals first
    | exact ⟨_, .int _ _, rfl⟩
    | exact ⟨_, .bool _, rfl⟩
    | (refine ⟨_, .int _ _, ?_⟩; simp only [Op.intDiv]; rw [if_neg (by assumption)]; rfl)

theorem ok_bin {o : Oper} {op : BinOp} {t t' : TypeId} {x y : Operand} {x' y' : Opd} (hs : SRel P T st D ι a w) (ho : o.op = .binOp op t x y t') (hx : compO x = some x') (hy : compO y = some y') : OkOp P T w D ι st a o (.bin op x' y') := by
  intro nb hnb v e h
  simp only [aop] at h
  split at h
  · rename_i u1 u2 h1 h2
    simp only [Option.map_eq_some_iff] at h
    obtain ⟨q, hq, h⟩ := h
    cases h
    have hv1 := opd_ok hs hx h1
    have hv2 := opd_ok hs hy h2
    unfold abin at hq
    split at hq
    · rename_i k m k' n
      have e1 := hv1.int_inv
      have e2 := hv2.int_inv
      have hg : (eqGuard op t x y (.int k m) (.int k' n)).run P w = .ok () w := by
        simp only [eqGuard]; split <;> rfl
      split at hq
      · unfold ashift at hq
        split at hq
        · cases hq
        · rename_i hn
          cases hq
          exact res_no hs.h (by simp only [execOp, ho, e1, e2, binOp, Op.shift, Sem.run_bind, hg, Result.andThen_ok]; rw [if_neg hn]; rfl) (.int _ _)
      · unfold ashift at hq
        split at hq
        · cases hq
        · rename_i hn
          cases hq
          exact res_no hs.h (by simp only [execOp, ho, e1, e2, binOp, Op.shift, Sem.run_bind, hg, Result.andThen_ok]; rw [if_neg hn]; rfl) (.int _ _)
      · rename_i hn1 hn2
        split at hq
        · rename_i hkk
          subst hkk
          obtain ⟨z, hz1, hz2⟩ := aint_ok (P := P) (w := w) (D := D) (ι := ι) hq
          refine res_no hs.h ?_ hz1
          simp only [execOp, ho, e1, e2, Sem.run_bind, hg, Result.andThen_ok]
          have : (binOp op t (.int k m) (.int k n)).run P w = .ok z w := by
            unfold binOp
            cases op <;> first | exact absurd rfl hn1 | exact absurd rfl hn2 | (simp only [ne_eq, not_true_eq_false, if_false]; exact hz2)
          simp [this]
        · cases hq
    · rename_i s1 s2
      have e1 := hv1.str_inv
      have e2 := hv2.str_inv
      have hg : (eqGuard op t x y (.string s1) (.string s2)).run P w = .ok () w := by
        simp only [eqGuard]; split <;> rfl
      have key : ∃ z, VRel w D ι v z ∧ (Op.stringOp op s1 s2).run P w = .ok z w := by
        unfold astr at hq
        split at hq <;> try (split at hq)
        all_goals (cases hq)
        · rename_i hn
          refine ⟨_, .str _, ?_⟩
          simp only [Op.stringOp]; rw [if_neg hn]; rfl
        all_goals exact ⟨_, .bool _, rfl⟩
      obtain ⟨z, hz1, hz2⟩ := key
      refine res_no hs.h ?_ hz1
      simp only [execOp, ho, e1, e2, Sem.run_bind, hg, Result.andThen_ok]
      have : (binOp op t (.string s1) (.string s2)).run P w = .ok z w := by
        unfold binOp
        cases op <;> exact hz2
      simp [this]
    · cases hq
  · cases h

theorem equal_bool (d : Nat) {t : TypeId} (hu : P.underlying t = some .bool) (b c : Bool) : (Op.equalIn (d + 1) t (.bool b) (.bool c)).run P w = .ok (b == c) w := by
  simp [Op.equalIn, under_ok hu]

theorem ok_eqb {o : Oper} {neg : Bool} {t t' : TypeId} {x y : Operand} {x' y' : Opd} (hs : SRel P T st D ι a w) (ho : o.op = .binOp (if neg then .neq else .eql) t x y t') (hx : compO x = some x') (hy : compO y = some y') (hu : P.underlying t = some .bool) :
    OkOp P T w D ι st a o (.eqb neg x' y') := by
  intro nb hnb v e h
  simp only [aop] at h
  split at h
  · rename_i b1 b2 h1 h2
    cases h
    have e1 := (opd_ok hs hx h1).bool_inv
    have e2 := (opd_ok hs hy h2).bool_inv
    refine res_no hs.h ?_ (.bool _)
    have hg : (eqGuard (if neg then .neq else .eql) t x y (.bool b1) (.bool b2)).run P w = .ok () w := by
      simp only [eqGuard]; split <;> rfl
    have he : (Op.equal t (.bool b1) (.bool b2)).run P w = .ok (b1 == b2) w := equal_bool 9999 hu b1 b2
    simp only [execOp, ho, e1, e2, Sem.run_bind, hg, Result.andThen_ok]
    cases neg <;> simp [binOp, he]
  · cases h

theorem ok_eqf {o : Oper} {neg : Bool} {t t' : TypeId} {x y : Operand} {x' y' : Opd} {ks : List Nat} (hs : SRel P T st D ι a w) (ho : o.op = .binOp (if neg then .neq else .eql) t x y t') (hx : compO x = some x') (hy : compO y = some y')
    (hk : flatK P 20 t = some ks) (hg0 : P.eqGuardType P.depth t = false) (hagg : aggT P t = some true) : OkOp P T w D ι st a o (.eqf neg ks x' y') := by
  intro nb hnb v e h
  simp only [aop] at h
  split at h
  · rename_i c1 c2 h1 h2
    simp only [Option.map_eq_some_iff] at h
    obtain ⟨r, hr, h⟩ := h
    cases h
    have v1 := opd_ok hs hx h1
    have v2 := opd_ok hs hy h2
    generalize hx' : a.eval x = xv at v1
    generalize hy' : a.eval y = yv at v2
    cases v1 with
    | agg n1 q1 =>
    cases v2 with
    | agg n2 q2 =>
    rename_i xs ys
    refine res_no hs.h ?_ (.bool _)
    have hg : (eqGuard (if neg then .neq else .eql) t x y (.agg xs) (.agg ys)).run P w = .ok () w := by
      cases neg <;> simp [eqGuard, hg0]
    have he : (Op.equal t (.agg xs) (.agg ys)).run P w = .ok r w :=
      eq_flat 20 t ks hk 10000 (by omega) c1 c2 r _ _ (by unfold TV; rw [hagg]; exact ⟨xs, rfl, n1, q1⟩) (by unfold TV; rw [hagg]; exact ⟨ys, rfl, n2, q2⟩) hr
    simp only [execOp, ho, hx', hy', Sem.run_bind, hg, Result.andThen_ok]
    cases neg <;> simp [binOp, he]
  · cases h

/-- the types at which one of two values is likely nil -/
def nilKind (P : Program) (t : TypeId) (k : Nat) : Prop :=
  match k with
  | 0 => ∃ e, P.underlying t = some (.pointer e)
  | 1 => ∃ e, P.underlying t = some (.slice e)
  | 2 => ∃ q e, P.underlying t = some (.map q e)
  | 3 => ∃ p r v, P.underlying t = some (.func p r v)
  | _ => ∃ m, P.underlying t = some (.interface m)

theorem csl_cons {c : AV} {cs : List AV} {l co nn x} (h : VRel w D ι (.csl (c :: cs) l co nn) x) : ∃ p n k, x = .slice (some p) n k := by
  cases h with
  | csl xs hl hnn hco hn hD hc hv =>
    rename_i a' cap
    cases a' with
    | none => cases (hn rfl).1
    | some p => exact ⟨p, _, _, rfl⟩

theorem csl_nn {cs : List AV} {l co x} (h : VRel w D ι (.csl cs l co true) x) : ∃ p n k, x = .slice (some p) n k := by
  cases h with
  | csl xs hl hnn hco hn hD hc hv =>
    rename_i a' cap
    cases a' with
    | none => exact absurd rfl (hnn rfl)
    | some p => exact ⟨p, _, _, rfl⟩

set_option maxHeartbeats 4000000 in
theorem aeqn_ok (d : Nat) {t : TypeId} {k : Nat} (hk : nilKind P t k) {a b : AV} {r : Bool} (h : aeqn k a b = some r) {x y : Value} (hx : VRel w D ι a x) (hy : VRel w D ι b y) :
    (Op.equalIn (d + 1) t x y).run P w = .ok r w ∧ (∀ xs, x ≠ .agg xs) ∧ (k ≠ 4 → x ≠ .nilIface) ∧ (∀ s, x ≠ .string s) ∧ (∀ q n, x ≠ .int q n) ∧ (∀ q n, y ≠ .int q n) := by
  unfold aeqn at h
  split at h <;> cases h
  all_goals first
    | (obtain ⟨p, n, q, rfl⟩ := csl_cons hx; obtain ⟨e, hu⟩ := hk; cases hy; simp [Op.equalIn, under_ok hu]; done)
    | (obtain ⟨p, n, q, rfl⟩ := csl_cons hy; obtain ⟨e, hu⟩ := hk; cases hx; simp [Op.equalIn, under_ok hu]; done)
    | (obtain ⟨p, n, q, rfl⟩ := csl_nn hx; obtain ⟨e, hu⟩ := hk; cases hy; simp [Op.equalIn, under_ok hu]; done)
    | (obtain ⟨p, n, q, rfl⟩ := csl_nn hy; obtain ⟨e, hu⟩ := hk; cases hx; simp [Op.equalIn, under_ok hu]; done)
    | (cases hx; cases hy; first | (obtain ⟨e, hu⟩ := hk; simp [Op.equalIn, under_ok hu]; done) | (obtain ⟨q, e, hu⟩ := hk; simp [Op.equalIn, under_ok hu]; done) | (obtain ⟨q, e, z, hu⟩ := hk; simp [Op.equalIn, under_ok hu]; done))

end
end Go.Abs
end

section
/- Each operation of the machine does what the walk's own operation does (5): comparisons with nil, conversions, addresses, slices, function values, interface values, maps. Conditions: none. -/
namespace Go.Abs

section
variable {P : Program} {T : Tab} {w : World} {D : Nat → Prop} {ι : Nat → Option Nat} {H : List AB} {st : ASt} {a : Act}

/-- no number, no string -/
def Value.plainEq : Value → Bool
  | .int _ _ | .float _ _ | .complex _ _ _ | .string _ => false
  | _ => true

theorem disp_eql (t : TypeId) (x y : Value) (h : Value.plainEq x = true) : binOp .eql t x y = (do pure (.bool (← Op.equal t x y)) : Sem Value) := by
  cases x <;> first | (cases h; done) | rfl | (cases y <;> rfl)
theorem disp_neq (t : TypeId) (x y : Value) (h : Value.plainEq x = true) : binOp .neq t x y = (do pure (.bool (!(← Op.equal t x y))) : Sem Value) := by
  cases x <;> first | (cases h; done) | rfl | (cases y <;> rfl)

theorem aeqn_plain {k : Nat} {a b : AV} {r : Bool} (h : aeqn k a b = some r) {x : Value} (hx : VRel w D ι a x) : Value.plainEq x = true ∧ (∀ xs, x ≠ .agg xs) ∧ (k ≠ 4 → x ≠ .nilIface) := by
  unfold aeqn at h
  split at h <;> cases h
  all_goals (cases hx; simp [Value.plainEq])

theorem ok_eqn {o : Oper} {neg : Bool} {k : Nat} {t t' : TypeId} {x y : Operand} {x' y' : Opd} (hs : SRel P T st D ι a w) (ho : o.op = .binOp (if neg then .neq else .eql) t x y t') (hx : compO x = some x') (hy : compO y = some y') (hk : nilKind P t k)
    (hc : k = 4 → (isK x || isK y) = true) : OkOp P T w D ι st a o (.eqn neg k x' y') := by
  intro nb hnb v e h
  simp only [aop] at h
  split at h
  · rename_i u1 u2 h1 h2
    simp only [Option.map_eq_some_iff] at h
    obtain ⟨r, hr, h⟩ := h
    cases h
    have v1 := opd_ok hs hx h1
    have v2 := opd_ok hs hy h2
    obtain ⟨g1, g2, g3⟩ := aeqn_plain hr v1
    have he : (Op.equal t (a.eval x) (a.eval y)).run P w = .ok r w := (aeqn_ok 9999 hk hr v1 v2).1
    have hm : ∀ z : Operand, (match z with | Operand.const _ => true | _ => false) = isK z := fun z => by cases z <;> rfl
    have hg : (eqGuard (if neg then .neq else .eql) t x y (a.eval x) (a.eval y)).run P w = .ok () w := by
      generalize a.eval x = xv at g2 g3
      generalize a.eval y = yv
      have hcc : xv = .nilIface → (isK x || isK y) = true := fun e => by
        by_cases hk4 : k = 4
        · exact hc hk4
        · exact absurd e (g3 hk4)
      have key : ∀ b : BinOp, (b = .eql ∨ b = .neq) → (eqGuard b t x y xv yv).run P w = .ok () w := by
        intro b hb
        rcases hb with rfl | rfl
        all_goals
          unfold eqGuard
          simp only [Bool.not_true, Bool.false_eq_true, if_false, hm]
          split
          · have h0 := hcc rfl
            cases x <;> cases y <;> first | rfl | (simp [isK] at h0)
          · exact absurd rfl (g2 _)
          · rfl
      cases neg
      · exact key _ (.inl rfl)
      · exact key _ (.inr rfl)
    refine res_no hs.h ?_ (.bool _)
    simp only [execOp, ho, Sem.run_bind, hg, Result.andThen_ok]
    cases neg
    · simp [disp_eql t _ _ g1, he]
    · simp [disp_neq t _ _ g1, he]
  · cases h

theorem ok_conv {o : Oper} {s d : TypeId} {k k0 : IntKind} {x : Operand} {y : Opd} (hs : SRel P T st D ι a w) (ho : o.op = .convert s d x) (hx : compO x = some y) (h1 : P.underlying s = some (.int k0)) (h2 : P.underlying d = some (.int k)) : OkOp P T w D ι st a o (.conv k y) := by
  intro nb hnb v e h
  simp only [aop] at h
  split at h
  · rename_i q m hm
    cases h
    have e1 := (opd_ok hs hx hm).int_inv
    exact res_no hs.h (by simp [execOp, ho, e1, convert, under_ok h1, under_ok h2, Conv.intToInt]) (.int _ _)
  · cases h

theorem ok_cvs {o : Oper} {s d : TypeId} {x : Operand} {y : Opd} (hs : SRel P T st D ι a w) (ho : o.op = .convert s d x) (hx : compO x = some y) (h1 : P.underlying s = some .string) (h2 : P.underlying d = some .string) : OkOp P T w D ι st a o (.cvs y) := by
  intro nb hnb v e h
  simp only [aop] at h
  split at h
  · rename_i q hq
    cases h
    have e1 := (opd_ok hs hx hq).str_inv
    exact res_no hs.h (x := .string q) (by simp [execOp, ho, e1, convert, under_ok h1, under_ok h2]) (.str q)
  · cases h

theorem ok_mkif {o : Oper} {t : TypeId} {d : TypeDesc} {x : Operand} {y : Opd} (hs : SRel P T st D ι a w) (ho : o.op = .makeInterface t x) (hx : compO x = some y) (hu : P.underlying t = some d) (hd : ∀ m, d ≠ .interface m) : OkOp P T w D ι st a o (.mkif t y) := by
  intro nb hnb v e h
  simp only [aop, Option.map_eq_some_iff] at h
  obtain ⟨u, hu', h⟩ := h
  cases h
  refine res_no hs.h (x := .iface t (a.eval x)) ?_ (.iface (opd_ok hs hx hu'))
  have : (Instr.makeInterface t (a.eval x)).run P w = .ok (.iface t (a.eval x)) w := by
    simp only [Instr.makeInterface, Sem.run_bind, under_ok hu, Result.andThen_ok]
    rfl
  simp [execOp, ho, this]

theorem ok_mkfn {o : Oper} {f : Fn} {xs ys : Array Operand} {xs' ys' : List Opd} (hs : SRel P T st D ι a w) (ho : o.op = .makeFunc f xs ys) (hx : compOs xs.toList = some xs') (hy : compOs ys.toList = some ys') : OkOp P T w D ι st a o (.mkfn f xs' ys') := by
  intro nb hnb v e h
  simp only [aop, Option.bind_eq_some_iff, Option.map_eq_some_iff] at h
  obtain ⟨us, hu, vs, hv, h⟩ := h
  cases h
  have v1 := opds_ok hs hx hu
  have v2 := opds_ok hs hy hv
  have e1 : (xs.toList.map a.eval).toArray = xs.map a.eval := by apply Array.ext'; simp
  have e2 : (ys.toList.map a.eval).toArray = ys.map a.eval := by apply Array.ext'; simp
  rw [e1] at v1; rw [e2] at v2
  exact res_no hs.h (by simp [execOp, ho, Instr.makeFunc]) (.fn v1.1 v2.1 v1.2 v2.2)

theorem ok_fld {o : Oper} {t : TypeId} {x : Operand} {y : Opd} {i : Nat} {fs : Array Field} {f : Field} {n : Nat} (hs : SRel P T st D ι a w) (ho : o.op = .fieldAddr t x i) (hx : compO x = some y) (hu : P.underlying t = some (.struct fs)) (hf : fs[i]? = some f)
    (hn : sizeT P f.type = some n) (h0 : n ≠ 0) : OkOp P T w D ι st a o (.fld f.offset y) := by
  intro nb hnb v e h
  have hadd : ∀ (b q : Nat), (Addr.add ⟨b, q, none⟩ f.offset) = ⟨b, q + f.offset, none⟩ := fun b q => by unfold Addr.add; split <;> simp_all
  have hrun : ∀ b q, a.eval x = .pointer (some ⟨b, q, none⟩) → (execOp a.eval o).run P w = .ok (.value (.pointer (some ⟨b, q + f.offset, none⟩))) w := fun b q he => by
    simp [execOp, ho, he, Instr.fieldAt, under_ok hu, hf, Instr.sureAddr, fieldPlace, size_ok hn, h0, hadd]
  simp only [aop] at h
  split at h
  · rename_i b q hp
    cases h
    obtain ⟨k, hk, he⟩ := (opd_ok hs hx hp).ptr_inv
    exact res_no hs.h (hrun _ _ he) (.ptr hk)
  · rename_i cs hp
    cases h
    obtain ⟨b, q, he, hD, hc⟩ := (opd_ok hs hx hp).cptr_inv
    refine res_no hs.h (hrun _ _ he) ?_
    let g : Nat → Value := fun j => (w.cell? ⟨b, q + f.offset + j, none⟩).getD undef
    have hg : ∀ (j : Nat) (u : AV), (cs.drop f.offset)[j]? = some u → w.cell? ⟨b, q + f.offset + j, none⟩ = some (g j) ∧ VRel w D ι u (g j) := fun j u hj => by
      rw [List.getElem?_drop] at hj
      obtain ⟨z, h1, h2⟩ := hc _ u hj
      rw [← Nat.add_assoc] at h1
      exact ⟨by simp [g, h1], by simp [g, h1]; exact h2⟩
    exact .cptr g hD rfl (fun j u hj => (hg j u hj).1) (fun j u hj => (hg j u hj).2)
  · cases h

end
end Go.Abs
end

section
/- Each operation of the machine does what the walk's own operation does (6): fields, elements, slices. Conditions: none. -/
namespace Go.Abs

section
variable {P : Program} {T : Tab} {w : World} {D : Nat → Prop} {ι : Nat → Option Nat} {H : List AB} {st : ASt} {a : Act}

/-- what cells from an address on are told by -/
def Cells (w : World) (D : Nat → Prop) (ι : Nat → Option Nat) (b o : Nat) (cs : List AV) : Prop := ∀ (j : Nat) (u : AV), cs[j]? = some u → ∃ y, w.cell? ⟨b, o + j, none⟩ = some y ∧ VRel w D ι u y

theorem Cells.drop {b o : Nat} {cs : List AV} (h : Cells w D ι b o cs) (n : Nat) : Cells w D ι b (o + n) (cs.drop n) := fun j u hj => by
  rw [List.getElem?_drop] at hj
  obtain ⟨y, h1, h2⟩ := h _ u hj
  exact ⟨y, by rw [Nat.add_assoc]; exact h1, h2⟩

theorem Cells.take {b o : Nat} {cs : List AV} (h : Cells w D ι b o cs) (n : Nat) : Cells w D ι b o (cs.take n) := fun j u hj => by
  have hlt : j < n := by have := (List.getElem?_eq_some_iff.1 hj).1; simp at this; omega
  rw [List.getElem?_take_of_lt hlt] at hj
  exact h j u hj

theorem cptr_mk {b o : Nat} {cs : List AV} (hD : D b) (h : Cells w D ι b o cs) : VRel w D ι (.cptr cs) (.pointer (some ⟨b, o, none⟩)) := by
  let g : Nat → Value := fun j => (w.cell? ⟨b, o + j, none⟩).getD undef
  have hg : ∀ (j : Nat) (u : AV), cs[j]? = some u → w.cell? ⟨b, o + j, none⟩ = some (g j) ∧ VRel w D ι u (g j) := fun j u hj => by
    obtain ⟨z, h1, h2⟩ := h j u hj
    exact ⟨by simp [g, h1], by simp [g, h1]; exact h2⟩
  exact .cptr g hD rfl (fun j u hj => (hg j u hj).1) (fun j u hj => (hg j u hj).2)

theorem csl_mk {b o len cap : Nat} {cs : List AV} {co : Option Nat} (nn : Bool) (hD : D b) (h : Cells w D ι b o cs) (hl : len ≤ cap) (hc : ∀ c, co = some c → cap = c) : VRel w D ι (.csl cs len co nn) (.slice (some ⟨b, o, none⟩) len cap) := by
  let g : Nat → Value := fun j => (w.cell? ⟨b, o + j, none⟩).getD undef
  have hg : ∀ (j : Nat) (u : AV), cs[j]? = some u → w.cell? ⟨b, o + j, none⟩ = some (g j) ∧ VRel w D ι u (g j) := fun j u hj => by
    obtain ⟨z, h1, h2⟩ := h j u hj
    exact ⟨by simp [g, h1], by simp [g, h1]; exact h2⟩
  exact .csl g hl (fun _ => by simp) hc (fun h => by cases h) (fun a' e _ => by cases e; exact ⟨hD, rfl⟩) (fun a' e j u hj => by cases e; exact (hg j u hj).1) (fun j u hj => (hg j u hj).2)

theorem imp_or {p q : Prop} (h : ¬ p → q) : p ∨ q := by
  by_cases hp : p
  · exact .inl hp
  · exact .inr (h hp)

theorem csl_inv {cs : List AV} {len : Nat} {co : Option Nat} {nn : Bool} {x : Value} (h : VRel w D ι (.csl cs len co nn) x) :
    ∃ p cap, x = .slice p len cap ∧ len ≤ cap ∧ (nn = true → p ≠ none) ∧ (∀ c, co = some c → cap = c) ∧ (p = none → cs = [] ∧ cap = 0) ∧
      ∀ q, p = some q → ¬ Bare cs len co nn → ∃ b o, q = ⟨b, o, none⟩ ∧ D b ∧ Cells w D ι b o cs := by
  cases h with
  | csl xs hl hnn hco hn hD hc hv =>
    refine ⟨_, _, rfl, hl, hnn, hco, hn, fun q hq hb => ?_⟩
    obtain ⟨b, o, s⟩ := q
    have hs := (hD _ hq hb).2
    simp only at hs
    subst hs
    exact ⟨b, o, rfl, (hD _ hq hb).1, fun j u hj => ⟨_, hc _ hq j u hj, hv j u hj⟩⟩

theorem VRel.msl_inv {b off len cap x} (h : VRel w D ι (.msl b off len cap) x) : ∃ k, ι b = some k ∧ len ≤ cap ∧ x = .slice (some ⟨k, off, none⟩) len cap := by cases h; exact ⟨_, ‹_›, ‹_›, rfl⟩
theorem VRel.gsl_inv {b len d x} (h : VRel w D ι (.gsl b len d) x) : ∃ k cap, ι b = some k ∧ len ≤ cap ∧ x = .slice (some ⟨k, 0, none⟩) len cap ∧ ∀ c e f, w.heap[k]? = some (.cells c e f) → cap * d ≤ c.size := by
  cases h; exact ⟨_, _, ‹_›, ‹_›, rfl, ‹_›⟩

theorem add_plain (b o n : Nat) : (Addr.add ⟨b, o, none⟩ n) = ⟨b, o + n, none⟩ := by unfold Addr.add; split <;> simp_all

theorem takeV_cells {t : TypeId} {g : Bool} {n : Nat} (hg : aggT P t = some g) (hn : sizeT P t = some n) {cs : List AV} {xs : Array Value} (hv : VRels w D ι cs xs) {off : Nat} {v : AV} (ht : takeV g n (cs.drop off) = some v) :
    ∃ x, (part t xs off).run P w = .ok x w ∧ VRel w D ι v x := by
  cases g with
  | false =>
    simp only [takeV, Bool.false_eq_true, if_false] at ht
    rw [List.head?_eq_getElem?, List.getElem?_drop, Nat.add_zero] at ht
    have hlt : off < xs.size := by rw [hv.1]; exact (List.getElem?_eq_some_iff.1 ht).1
    exact ⟨xs[off], by simp [part, isAgg_ok hg, hlt], hv.2 off v _ ht (Array.getElem?_eq_getElem hlt)⟩
  | true =>
    simp only [takeV, if_true] at ht
    split at ht
    · cases ht
      rename_i hle
      simp at hle
      by_cases h0 : n = 0
      · subst h0
        exact ⟨.agg (xs.extract off (off + 0)), by simp [part, isAgg_ok hg, size_ok hn], .agg (by simp; omega) (fun j v x h => by simp at h)⟩
      · obtain ⟨x, h1, h2⟩ := part_ok (t := t) (off := off) hg hn (fun h => by cases h) hv (by omega)
        unfold TV at h2
        rw [hg] at h2
        obtain ⟨ys, rfl, h3, h4⟩ := h2
        exact ⟨_, h1, .agg h3 h4⟩
    · cases ht

theorem ok_fldv {o : Oper} {t : TypeId} {x : Operand} {y : Opd} {i : Nat} {fs : Array Field} {f : Field} {n : Nat} {g : Bool} (hs : SRel P T st D ι a w) (ho : o.op = .field t x i) (hx : compO x = some y) (hu : P.underlying t = some (.struct fs)) (hf : fs[i]? = some f)
    (hn : sizeT P f.type = some n) (hg : aggT P f.type = some g) : OkOp P T w D ι st a o (.fldv g f.offset n y) := by
  intro nb hnb v e h
  simp only [aop] at h
  split at h
  · rename_i cs hcs
    simp only [Option.map_eq_some_iff] at h
    obtain ⟨u, hu', h⟩ := h
    cases h
    have hv := opd_ok hs hx hcs
    generalize hxx : a.eval x = xv at hv
    cases hv with
    | agg h1 h2 =>
      obtain ⟨z, hz1, hz2⟩ := takeV_cells hg hn ⟨h1, h2⟩ hu'
      exact res_no hs.h (by simp [execOp, ho, hxx, Instr.field, under_ok hu, hf, asAgg, hz1]) hz2
  · cases h

theorem ok_idxv {o : Oper} {t el : TypeId} {x i : Operand} {y j : Opd} {k n : Nat} {g : Bool} (hs : SRel P T st D ι a w) (ho : o.op = .index t x i) (hx : compO x = some y) (hi : compO i = some j) (hu : P.underlying t = some (.array k el))
    (hn : sizeT P el = some n) (hg : aggT P el = some g) : OkOp P T w D ι st a o (.idxv k n g y j) := by
  intro nb hnb v e h
  simp only [aop] at h
  split at h
  · rename_i cs q m hcs hm
    split at h
    · rename_i hb
      simp only [Option.map_eq_some_iff] at h
      obtain ⟨u, hu', h⟩ := h
      cases h
      have hv := opd_ok hs hx hcs
      have e2 := (opd_ok hs hi hm).int_inv
      generalize hxx : a.eval x = xv at hv
      cases hv with
      | agg h1 h2 =>
        obtain ⟨z, hz1, hz2⟩ := takeV_cells hg hn ⟨h1, h2⟩ hu'
        exact res_no hs.h (by simp [execOp, ho, hxx, e2, Instr.index, under_ok hu, asIntOf, hb, size_ok hn, hz1]) hz2
    · cases h
  · cases h

theorem ok_idxt {o : Oper} {t : TypeId} {x i : Operand} {y j : Opd} (hs : SRel P T st D ι a w) (ho : o.op = .index t x i) (hx : compO x = some y) (hi : compO i = some j) (hu : P.underlying t = some .string) : OkOp P T w D ι st a o (.idxt y j) := by
  intro nb hnb v e h
  simp only [aop] at h
  split at h
  · rename_i s q m hcs hm
    split at h
    · rename_i hb
      simp only [Option.map_eq_some_iff] at h
      obtain ⟨u, hu', h⟩ := h
      cases h
      have e1 := (opd_ok hs hx hcs).str_inv
      have e2 := (opd_ok hs hi hm).int_inv
      exact res_no hs.h (by simp [execOp, ho, e1, e2, Instr.index, under_ok hu, asIntOf, hb, hu']) (.int _ _)
    · cases h
  · cases h

theorem ok_idxa {o : Oper} {t el : TypeId} {x i : Operand} {y j : Opd} {k n : Nat} (hs : SRel P T st D ι a w) (ho : o.op = .indexAddr t x i) (hx : compO x = some y) (hi : compO i = some j) (hu : P.underlying t = some (.array k el))
    (hn : sizeT P el = some n) : OkOp P T w D ι st a o (.idxa k n y j) := by
  intro nb hnb v e h
  have hrun : ∀ b off q (m : Int), a.eval x = .pointer (some ⟨b, off, none⟩) → a.eval i = .int q m → 0 ≤ m ∧ m < k → (execOp a.eval o).run P w = .ok (.value (.pointer (some ⟨b, off + m.toNat * n, none⟩))) w := fun b off q m h1 h2 h3 => by
    simp [execOp, ho, h1, h2, Instr.indexAt, under_ok hu, asIntOf, Instr.sureAddr, h3, size_ok hn, add_plain]
  simp only [aop] at h
  split at h
  · rename_i b off q m hp hm
    split at h
    · rename_i hb
      cases h
      obtain ⟨kk, hk, e1⟩ := (opd_ok hs hx hp).ptr_inv
      exact res_no hs.h (hrun _ _ _ _ e1 (opd_ok hs hi hm).int_inv hb) (.ptr hk)
    · cases h
  · rename_i cs q m hp hm
    split at h
    · rename_i hb
      cases h
      obtain ⟨b, off, e1, hD, hc⟩ := (opd_ok hs hx hp).cptr_inv
      exact res_no hs.h (hrun _ _ _ _ e1 (opd_ok hs hi hm).int_inv hb) (cptr_mk hD ((Cells.drop hc _).take _))
    · cases h
  · cases h

theorem ok_idxs {o : Oper} {t el : TypeId} {x i : Operand} {y j : Opd} {n : Nat} (hs : SRel P T st D ι a w) (ho : o.op = .indexAddr t x i) (hx : compO x = some y) (hi : compO i = some j) (hu : P.underlying t = some (.slice el))
    (hn : sizeT P el = some n) : OkOp P T w D ι st a o (.idxs n y j) := by
  intro nb hnb v e h
  have hrun : ∀ b off q (m : Int) len cap, a.eval x = .slice (some ⟨b, off, none⟩) len cap → a.eval i = .int q m → 0 ≤ m ∧ m < len → (execOp a.eval o).run P w = .ok (.value (.pointer (some ⟨b, off + m.toNat * n, none⟩))) w := fun b off q m len cap h1 h2 h3 => by
    simp [execOp, ho, h1, h2, Instr.indexAt, under_ok hu, asIntOf, h3, size_ok hn, add_plain]
  simp only [aop] at h
  split at h
  · rename_i cs len co nn q m hp hm
    split at h
    · rename_i hb
      cases h
      obtain ⟨p, cap, e1, hl, _, _, hnone, hsome⟩ := csl_inv (opd_ok hs hx hp)
      cases p with
      | none => have := (hnone rfl).2; omega
      | some p =>
        obtain ⟨b, off, rfl, hD, hc⟩ := hsome _ rfl (fun hz => by have := hz.1; omega)
        exact res_no hs.h (hrun _ _ _ _ _ _ e1 (opd_ok hs hi hm).int_inv hb) (cptr_mk hD ((Cells.drop hc _).take _))
    · cases h
  · rename_i b off len cap q m hp hm
    split at h
    · rename_i hb
      cases h
      obtain ⟨k, hk, _, e1⟩ := (opd_ok hs hx hp).msl_inv
      exact res_no hs.h (hrun _ _ _ _ _ _ e1 (opd_ok hs hi hm).int_inv hb) (.ptr hk)
    · cases h
  · rename_i b len d q m hp hm
    split at h
    · rename_i hb
      cases h
      obtain ⟨k, cap, hk, _, e1, _⟩ := (opd_ok hs hx hp).gsl_inv
      exact res_no hs.h (by have := hrun _ _ _ _ _ _ e1 (opd_ok hs hi hm).int_inv hb; rwa [Nat.zero_add] at this) (.ptr hk)
    · cases h
  · cases h

theorem bound_ok (hs : SRel P T st D ι a w) {x : Option Operand} {y : Option Opd} (hx : compOpt x = some y) {d n : Int} (h : bound (val T st.env) y d = some n) :
    (x = none ∧ n = d) ∨ ∃ z k, x = some z ∧ a.eval z = .int k n := by
  cases x with
  | none => simp [compOpt] at hx; subst hx; simp [bound] at h; exact .inl ⟨rfl, h.symm⟩
  | some z =>
    simp only [compOpt, Option.map_eq_some_iff] at hx
    obtain ⟨q, hq, rfl⟩ := hx
    simp only [bound] at h
    split at h
    · rename_i k m hm
      cases h
      exact .inr ⟨z, k, rfl, (opd_ok hs hq hm).int_inv⟩
    · cases h

/-- the bounds of a slice expression -/
theorem bounds_ok (hs : SRel P T st D ι a w) (isS : Bool) {lo hi : Option Operand} {lo' hi' : Option Opd} (hlo : compOpt lo = some lo') (hhi : compOpt hi = some hi') {len cap : Nat} {l r : Int}
    (h1 : bound (val T st.env) lo' 0 = some l) (h2 : bound (val T st.env) hi' len = some r) (hl : 0 ≤ l) (hlr : l ≤ r) (hr : r ≤ cap) :
    (Instr.sliceBounds isS len cap (lo.map a.eval) (hi.map a.eval) none).run P w = .ok (l.toNat, r.toNat, cap) w := by
  have e1 := bound_ok hs hlo h1
  have e2 := bound_ok hs hhi h2
  have hb : ∀ k (n : Int) (y : Nat) c, 0 ≤ n ∧ n ≤ y → (Instr.sliceBound (.int k n) y c).run P w = .ok n.toNat w := fun k n y c h => by simp [Instr.sliceBound, asIntOf, h]
  rcases e1 with ⟨rfl, rfl⟩ | ⟨z1, k1, rfl, hz1⟩ <;> rcases e2 with ⟨rfl, rfl⟩ | ⟨z2, k2, rfl, hz2⟩
  · simp [Instr.sliceBounds]
  · simp [Instr.sliceBounds, hz2, hb k2 r cap _ ⟨by omega, hr⟩]
  · simp [Instr.sliceBounds, hz1, hb k1 l len _ ⟨hl, hlr⟩]
  · simp [Instr.sliceBounds, hz1, hz2, hb k2 r cap _ ⟨by omega, hr⟩, hb k1 l r.toNat _ ⟨hl, by omega⟩]

theorem ok_slcs {o : Oper} {t : TypeId} {x : Operand} {y : Opd} {lo hi : Option Operand} {lo' hi' : Option Opd} (hs : SRel P T st D ι a w) (ho : o.op = .slice t x lo hi none) (hx : compO x = some y) (hlo : compOpt lo = some lo') (hhi : compOpt hi = some hi')
    (hu : P.underlying t = some .string) : OkOp P T w D ι st a o (.slcs y lo' hi') := by
  intro nb hnb v e h
  simp only [aop] at h
  split at h
  · rename_i s hsv
    simp only [Option.bind_eq_some_iff] at h
    obtain ⟨l, hl, r, hr, h⟩ := h
    split at h
    · rename_i hb
      cases h
      have e1 := (opd_ok hs hx hsv).str_inv
      have hbd := bounds_ok hs false hlo hhi hl hr hb.1 hb.2.1 hb.2.2
      exact res_no hs.h (by simp [execOp, ho, e1, Instr.sliceAt, Instr.slice, under_ok hu, hbd]) (.str _)
    · cases h
  · cases h

end
end Go.Abs
end

section
/- Each operation of the machine does what the walk's own operation does (7): slices of slices, of arrays; lengths; tuples; interface values; new slices and maps. Conditions: none. -/
namespace Go.Abs

section
variable {P : Program} {T : Tab} {w : World} {D : Nat → Prop} {ι : Nat → Option Nat} {H : List AB} {st : ASt} {a : Act}

theorem ok_slc {o : Oper} {t el : TypeId} {n : Nat} {x : Operand} {y : Opd} {lo hi : Option Operand} {lo' hi' : Option Opd} (hs : SRel P T st D ι a w) (ho : o.op = .slice t x lo hi none) (hx : compO x = some y) (hlo : compOpt lo = some lo') (hhi : compOpt hi = some hi')
    (hu : P.underlying t = some (.slice el)) (hn : sizeT P el = some n) : OkOp P T w D ι st a o (.slc n y lo' hi') := by
  intro nb hnb v e h
  have hrun : ∀ p len cap (l r : Int), a.eval x = .slice p len cap → bound (val T st.env) lo' 0 = some l → bound (val T st.env) hi' len = some r → 0 ≤ l → l ≤ r → r ≤ cap →
      (execOp a.eval o).run P w = .ok (.value (.slice (if cap = l.toNat then p else p.map (·.add (l.toNat * n))) (r.toNat - l.toNat) (cap - l.toNat))) w := fun p len cap l r h1 h2 h3 h4 h5 h6 => by
    have hb := bounds_ok hs true hlo hhi h2 h3 h4 h5 h6
    simp [execOp, ho, h1, Instr.sliceAt, Instr.slice, under_ok hu, hb, size_ok hn]
  have hsub : ∀ (l r : Int), 0 ≤ l → l ≤ r → r.toNat - l.toNat = (r - l).toNat := fun l r h1 h2 => by omega
  simp only [aop] at h
  split at h
  · rename_i cs len co nn hp
    simp only [Option.bind_eq_some_iff] at h
    obtain ⟨l, hl, r, hr, h⟩ := h
    split at h
    · rename_i hb
      cases h
      obtain ⟨p, cap, e1, hlc, hnn, hco, hnone, hsome⟩ := csl_inv (opd_ok hs hx hp)
      have hrc : r ≤ cap := by
        rcases hb.2.2 with h | ⟨c, h1, h2⟩
        · omega
        · have := hco c h1; omega
      refine res_no hs.h (hrun p len cap l r e1 hl hr hb.1 hb.2.1 hrc) ?_
      rw [hsub l r hb.1 hb.2.1]
      cases p with
      | none =>
        obtain ⟨rfl, rfl⟩ := hnone rfl
        have hnf : (nn || !([] : List AV).isEmpty) = false := by
          cases nn
          · rfl
          · exact absurd rfl (hnn rfl)
        have h0 : (r - l).toNat = 0 := by omega
        have h1 : l.toNat = 0 := by omega
        rw [hnf, h0, h1]
        simp only [Option.map_none, ite_self, List.drop_nil, List.take_nil, Nat.sub_self]
        exact .csl (fun _ => undef) (Nat.le_refl _) (fun h => by cases h) (fun c hc => by
          simp only [Option.map_eq_some_iff] at hc
          obtain ⟨c', hc', rfl⟩ := hc
          have := hco c' hc'; omega) (fun _ => ⟨rfl, rfl⟩) (fun a' e => by cases e) (fun a' e => by cases e) (fun j u hj => by simp at hj)
      | some p =>
        by_cases hbare : Bare cs len co nn
        · obtain ⟨rfl, rfl, rfl, rfl⟩ := hbare
          have h0 : (r - l).toNat = 0 := by
            rcases hb.2.2 with h | ⟨c, h1, _⟩
            · have := hb.1; have := hb.2.1; omega
            · cases h1
          have h1 : l.toNat = 0 := by
            rcases hb.2.2 with h | ⟨c, h1, _⟩
            · have := hb.1; have := hb.2.1; omega
            · cases h1
          rw [h0, h1]
          simp only [Option.map_none, List.drop_nil, List.take_nil, Bool.false_or, List.isEmpty_nil, Bool.not_true, Nat.zero_mul, Nat.sub_zero]
          have hbr : Bare ([] : List AV) 0 none false := ⟨rfl, rfl, rfl, rfl⟩
          split <;> exact .csl (fun _ => undef) (by omega) (fun h => by cases h) (fun c hc => by cases hc) (fun e => by cases e) (fun a' _ hn => absurd hbr hn) (fun a' e j u hj => by simp at hj) (fun j u hj => by simp at hj)
        obtain ⟨b, off, rfl, hD, hc⟩ := hsome _ rfl hbare
        have hcap : ∀ c, co.map (· - l.toNat) = some c → cap - l.toNat = c := fun c hc => by
          simp only [Option.map_eq_some_iff] at hc
          obtain ⟨c', hc', rfl⟩ := hc
          rw [hco c' hc']
        split
        · rename_i hcl
          have h0 : (r - l).toNat = 0 := by omega
          rw [h0, Nat.zero_mul, List.take_zero]
          exact csl_mk _ hD (fun j u hj => by simp at hj) (by omega) hcap
        · simp only [Option.map_some, add_plain]
          exact csl_mk _ hD ((hc.drop _).take _) (by omega) hcap
    · cases h
  · rename_i b off len cap hp
    simp only [Option.bind_eq_some_iff] at h
    obtain ⟨l, hl, r, hr, h⟩ := h
    split at h
    · rename_i hb
      cases h
      obtain ⟨k, hk, hlc, e1⟩ := (opd_ok hs hx hp).msl_inv
      refine res_no hs.h (hrun _ len cap l r e1 hl hr hb.1 hb.2.1 hb.2.2) ?_
      rw [hsub l r hb.1 hb.2.1]
      split
      · exact .msl hk (by omega)
      · simp only [Option.map_some, add_plain]
        exact .msl hk (by omega)
    · cases h
  · rename_i b len d hp
    simp only [Option.bind_eq_some_iff] at h
    obtain ⟨l, hl, r, hr, h⟩ := h
    split at h
    · rename_i hb
      cases h
      obtain ⟨k, cap, hk, hlc, e1, hsz⟩ := (opd_ok hs hx hp).gsl_inv
      obtain ⟨rfl, h0, hrl⟩ := hb
      refine res_no hs.h (hrun _ len cap 0 r e1 hl hr (by omega) h0 (by omega)) ?_
      have hz : (Int.toNat 0) = 0 := rfl
      rw [hz]
      simp only [Nat.sub_zero, Nat.zero_mul, Option.map_some, add_plain, Nat.add_zero, ite_self]
      exact .gsl hk (by omega) hsz
    · cases h
  · rename_i hp
    simp only [Option.bind_eq_some_iff] at h
    obtain ⟨l, hl, r, hr, h⟩ := h
    split at h
    · rename_i hb
      cases h
      obtain ⟨rfl, rfl⟩ := hb
      have hv := opd_ok hs hx hp
      generalize hxx : a.eval x = xv at hv
      cases hv
      refine res_no hs.h (hrun none 0 0 0 0 hxx hl hr (by omega) (by omega) (by omega)) ?_
      simp
      exact .nils
    · cases h
  · cases h

theorem ok_slca {o : Oper} {t el : TypeId} {n k : Nat} {x : Operand} {y : Opd} {lo hi : Option Operand} {lo' hi' : Option Opd} (hs : SRel P T st D ι a w) (ho : o.op = .slice t x lo hi none) (hx : compO x = some y) (hlo : compOpt lo = some lo') (hhi : compOpt hi = some hi')
    (hu : P.underlying t = some (.array k el) ∨ ∃ t', P.underlying t = some (.pointer t') ∧ P.underlying t' = some (.array k el)) (hn : sizeT P el = some n) : OkOp P T w D ι st a o (.slca k n y lo' hi') := by
  intro nb hnb v e h
  have hrun : ∀ b off (l r : Int), a.eval x = .pointer (some ⟨b, off, none⟩) → bound (val T st.env) lo' 0 = some l → bound (val T st.env) hi' k = some r → 0 ≤ l → l ≤ r → r ≤ k →
      (execOp a.eval o).run P w = .ok (.value (.slice (some (if k = l.toNat then ⟨b, off, none⟩ else ⟨b, off + l.toNat * n, none⟩)) (r.toNat - l.toNat) (k - l.toNat))) w := fun b off l r h1 h2 h3 h4 h5 h6 => by
    have hb := bounds_ok hs false hlo hhi h2 h3 h4 h5 h6
    rcases hu with hu | ⟨t', hu, hu'⟩
    · simp [execOp, ho, h1, Instr.sliceAt, under_ok hu, Instr.sureAddr, hb, size_ok hn, add_plain]
    · simp [execOp, ho, h1, Instr.sliceAt, Instr.slice, under_ok hu, under_ok hu', asAddr, hb, size_ok hn, add_plain]
  have hsub : ∀ (l r : Int), 0 ≤ l → l ≤ r → r.toNat - l.toNat = (r - l).toNat := fun l r h1 h2 => by omega
  simp only [aop] at h
  split at h
  · rename_i b off hp
    simp only [Option.bind_eq_some_iff] at h
    obtain ⟨l, hl, r, hr, h⟩ := h
    split at h
    · rename_i hb
      cases h
      obtain ⟨kk, hk, e1⟩ := (opd_ok hs hx hp).ptr_inv
      refine res_no hs.h (hrun _ _ l r e1 hl hr hb.1 hb.2.1 hb.2.2) ?_
      rw [hsub l r hb.1 hb.2.1]
      split
      · exact .msl hk (by omega)
      · exact .msl hk (by omega)
    · cases h
  · rename_i cs hp
    simp only [Option.bind_eq_some_iff] at h
    obtain ⟨l, hl, r, hr, h⟩ := h
    split at h
    · rename_i hb
      cases h
      obtain ⟨b, off, e1, hD, hc⟩ := (opd_ok hs hx hp).cptr_inv
      refine res_no hs.h (hrun _ _ l r e1 hl hr hb.1 hb.2.1 hb.2.2) ?_
      rw [hsub l r hb.1 hb.2.1]
      split
      · have h0 : (r - l).toNat = 0 := by omega
        rw [h0, Nat.zero_mul, List.take_zero]
        exact csl_mk _ hD (fun j u hj => by simp at hj) (by omega) (fun c hc => by cases hc; rfl)
      · exact csl_mk _ hD ((Cells.drop hc _).take _) (by omega) (fun c hc => by cases hc; rfl)
    · cases h
  · cases h

theorem ok_ext {o : Oper} {x : Operand} {y : Opd} {i : Nat} (hs : SRel P T st D ι a w) (ho : o.op = .extract x i) (hx : compO x = some y) : OkOp P T w D ι st a o (.ext y i) := by
  intro nb hnb v e h
  simp only [aop] at h
  split at h
  · rename_i vs hp
    simp only [Option.map_eq_some_iff] at h
    obtain ⟨u, hu, h⟩ := h
    cases h
    have hv := opd_ok hs hx hp
    generalize hxx : a.eval x = xv at hv
    cases hv with
    | tup h1 h2 =>
      rename_i xs
      have hlt : i < xs.size := by rw [h1]; exact (List.getElem?_eq_some_iff.1 hu).1
      exact res_no hs.h (x := xs[i]) (by simp [execOp, ho, hxx, Instr.extract, hlt]) (h2 i _ _ hu (Array.getElem?_eq_getElem hlt))
  · cases h

/-- a call of a builtin -/
theorem run_builtin {o : Oper} {c : Call} {b : Builtin} (ho : o.op = .call c) (hc : c.callee = .builtin b) {xs : Array Value} (hargs : c.args.map a.eval = xs) {r : Result Next}
    (h : ∀ k, (Go.builtin b c.argTypes o.type k xs).run P w = r) : (execOp a.eval o).run P w = r := by
  subst hargs
  simp [execOp, ho, resolve, hc, Go.invoke, h]

theorem args_one {c : Call} {x : Operand} (h : c.args.toList = [x]) : c.args.map a.eval = #[a.eval x] := by apply Array.ext'; simp [h]
theorem args_two {c : Call} {x y : Operand} (h : c.args.toList = [x, y]) : c.args.map a.eval = #[a.eval x, a.eval y] := by apply Array.ext'; simp [h]

theorem ok_len {o : Oper} {c : Call} {x : Operand} {y : Opd} {t el : TypeId} (hs : SRel P T st D ι a w) (ho : o.op = .call c) (hc : c.callee = .builtin .len) (hargs : c.args.toList = [x]) (hx : compO x = some y) (ht : c.argTypes[0]? = some t)
    (hu : P.underlying t = some (.slice el)) : OkOp P T w D ι st a o (.len y) := by
  intro nb hnb v e h
  have hrun : ∀ p (n cap : Nat), a.eval x = .slice p n cap → (execOp a.eval o).run P w = .ok (.value (.int .i64 n)) w := fun p n cap hn =>
    run_builtin ho hc (args_one hargs) fun k => by simp [Go.builtin, Builtin.len_, ht, hn, under_ok hu, goInt]
  simp only [aop] at h
  split at h
  · rename_i hp; cases h
    obtain ⟨p, cap, e1, _⟩ := csl_inv (opd_ok hs hx hp)
    exact res_no hs.h (hrun _ _ _ e1) (.int _ _)
  · rename_i hp; cases h
    obtain ⟨k, _, _, e1⟩ := (opd_ok hs hx hp).msl_inv
    exact res_no hs.h (hrun _ _ _ e1) (.int _ _)
  · rename_i hp; cases h
    obtain ⟨k, cap, _, _, e1, _⟩ := (opd_ok hs hx hp).gsl_inv
    exact res_no hs.h (hrun _ _ _ e1) (.int _ _)
  · rename_i hp; cases h
    have hv := opd_ok hs hx hp
    generalize hxx : a.eval x = xv at hv
    cases hv
    exact res_no hs.h (hrun _ _ _ hxx) (.int _ _)
  · cases h

theorem ok_lent {o : Oper} {c : Call} {x : Operand} {y : Opd} {t : TypeId} (hs : SRel P T st D ι a w) (ho : o.op = .call c) (hc : c.callee = .builtin .len) (hargs : c.args.toList = [x]) (hx : compO x = some y) (ht : c.argTypes[0]? = some t)
    (hu : P.underlying t = some .string) : OkOp P T w D ι st a o (.lent y) := by
  intro nb hnb v e h
  simp only [aop] at h
  split at h
  · rename_i s hp; cases h
    have e1 := (opd_ok hs hx hp).str_inv
    exact res_no hs.h (run_builtin ho hc (args_one hargs) fun k => by simp [Go.builtin, Builtin.len_, ht, e1, under_ok hu, goInt]) (.int _ _)
  · cases h

theorem ok_lena {o : Oper} {c : Call} {x : Operand} {t : TypeId} {n : Nat} (hs : SRel P T st D ι a w) (ho : o.op = .call c) (hc : c.callee = .builtin .len) (hargs : c.args.toList = [x]) (ht : c.argTypes[0]? = some t)
    (hu : (∃ el, P.underlying t = some (.array n el)) ∨ ∃ t' el, P.underlying t = some (.pointer t') ∧ P.underlying t' = some (.array n el)) : OkOp P T w D ι st a o (.mv (.c (.int .i64 n))) := by
  intro nb hnb v e h
  simp only [aop, val, Option.map_some, Option.some.injEq, ARes.val.injEq] at h
  obtain ⟨rfl, rfl⟩ := h
  refine res_no hs.h (run_builtin ho hc (args_one hargs) fun k => ?_) (.int _ _)
  rcases hu with ⟨el, hu⟩ | ⟨t', el, hu, hu'⟩
  · simp [Go.builtin, Builtin.len_, ht, under_ok hu, goInt]
  · simp [Go.builtin, Builtin.len_, ht, under_ok hu, under_ok hu', goInt]

theorem ok_cap {o : Oper} {c : Call} {x : Operand} {y : Opd} {t el : TypeId} (hs : SRel P T st D ι a w) (ho : o.op = .call c) (hc : c.callee = .builtin .cap) (hargs : c.args.toList = [x]) (hx : compO x = some y) (ht : c.argTypes[0]? = some t)
    (hu : P.underlying t = some (.slice el)) : OkOp P T w D ι st a o (.cap y) := by
  intro nb hnb v e h
  have hrun : ∀ p (n cap : Nat), a.eval x = .slice p n cap → (execOp a.eval o).run P w = .ok (.value (.int .i64 cap)) w := fun p n cap hn =>
    run_builtin ho hc (args_one hargs) fun k => by simp [Go.builtin, Builtin.cap_, ht, hn, under_ok hu, goInt]
  simp only [aop] at h
  split at h
  · rename_i hp; cases h
    obtain ⟨p, cap, e1, _, _, hco, _⟩ := csl_inv (opd_ok hs hx hp)
    rw [hco _ rfl] at e1
    exact res_no hs.h (hrun _ _ _ e1) (.int _ _)
  · rename_i hp; cases h
    obtain ⟨k, _, _, e1⟩ := (opd_ok hs hx hp).msl_inv
    exact res_no hs.h (hrun _ _ _ e1) (.int _ _)
  · rename_i hp; cases h
    have hv := opd_ok hs hx hp
    generalize hxx : a.eval x = xv at hv
    cases hv
    exact res_no hs.h (hrun _ _ _ hxx) (.int _ _)
  · cases h

theorem VRels.two {u v : AV} {xs : Array Value} (h : VRels w D ι [u, v] xs) : ∃ x y, xs = #[x, y] ∧ VRel w D ι u x ∧ VRel w D ι v y := by
  obtain ⟨h1, h2⟩ := h
  obtain ⟨l⟩ := xs
  match l, h1 with
  | [x, y], _ => exact ⟨x, y, rfl, h2 0 _ _ rfl rfl, h2 1 _ _ rfl rfl⟩

theorem ok_mx {o : Oper} {c : Call} {x y : Operand} {x' y' : Opd} (hs : SRel P T st D ι a w) (ho : o.op = .call c) (hc : c.callee = .builtin .max) (hargs : c.args.toList = [x, y]) (hx : compO x = some x') (hy : compO y = some y') : OkOp P T w D ι st a o (.mx [x', y']) := by
  intro nb hnb v e h
  simp only [aop, optAll, Option.bind_eq_some_iff, Option.map_eq_some_iff] at h
  obtain ⟨l, ⟨u1, h1, s, ⟨u2, h2, s', hs', rfl⟩, rfl⟩, h⟩ := h
  cases hs'
  split at h
  · rename_i k m q n he
    cases he
    cases h
    have e1 := (opd_ok hs hx h1).int_inv
    have e2 := (opd_ok hs hy h2).int_inv
    exact res_no hs.h (run_builtin ho hc (args_two hargs) fun k => by simp [Go.builtin, Builtin.max_, Builtin.max2, e1, e2]) (.int _ _)
  · cases h

theorem ok_mn {o : Oper} {c : Call} {x y : Operand} {x' y' : Opd} (hs : SRel P T st D ι a w) (ho : o.op = .call c) (hc : c.callee = .builtin .min) (hargs : c.args.toList = [x, y]) (hx : compO x = some x') (hy : compO y = some y') : OkOp P T w D ι st a o (.mn [x', y']) := by
  intro nb hnb v e h
  simp only [aop, optAll, Option.bind_eq_some_iff, Option.map_eq_some_iff] at h
  obtain ⟨l, ⟨u1, h1, s, ⟨u2, h2, s', hs', rfl⟩, rfl⟩, h⟩ := h
  cases hs'
  split at h
  · rename_i k m q n he
    cases he
    cases h
    have e1 := (opd_ok hs hx h1).int_inv
    have e2 := (opd_ok hs hy h2).int_inv
    exact res_no hs.h (run_builtin ho hc (args_two hargs) fun k => by simp [Go.builtin, Builtin.min_, Builtin.min2, e1, e2]) (.int _ _)
  · cases h

theorem zeroV {t : TypeId} {u : AV} (hz : zeroVT P t = some u) : ∃ x, (zeroValue t).run P w = .ok x w ∧ VRel w D ι u x := by
  simp only [zeroVT, Option.bind_eq_some_iff] at hz
  obtain ⟨i, hi, v, hv, hc⟩ := hz
  refine ⟨v, by simp [zeroValue, typeInfo, hi, hv], ?_⟩
  split at hc
  · simp only [Option.map_eq_some_iff] at hc
    obtain ⟨l, hl, rfl⟩ := hc
    have hrel := ofCells_ok (w := w) (D := D) (ι := ι) hl
    exact .agg (by simpa using hrel.1) (by simpa using hrel.2)
  · exact ofVal_ok hc

theorem pair_ok {u v : AV} {x y : Value} (h1 : VRel w D ι u x) (h2 : VRel w D ι v y) : VRel w D ι (.tup [u, v]) (.tuple #[x, y]) :=
  .tup rfl fun j q z hq hz => by
    match j with
    | 0 => simp at hq hz; subst hq hz; exact h1
    | 1 => simp at hq hz; subst hq hz; exact h2
    | j + 2 => simp at hq

theorem ok_tas {o : Oper} {t t' : TypeId} {d : TypeDesc} {x : Operand} {y : Opd} {z : AV} {okb : Bool} (hs : SRel P T st D ι a w) (ho : o.op = .typeAssert x t' t okb) (hx : compO x = some y) (hu : P.underlying t = some d) (hd : ∀ m, d ≠ .interface m)
    (hz : zeroVT P t = some z) : OkOp P T w D ι st a o (.tas t z y okb) := by
  intro nb hnb v e h
  obtain ⟨zx, hz1, hz2⟩ := zeroV (w := w) (D := D) (ι := ι) hz
  simp only [aop] at h
  split at h
  · rename_i u v' hp
    have hv := opd_ok hs hx hp
    generalize hxx : a.eval x = xv at hv
    cases hv with
    | iface hv =>
    rename_i xx
    split at h
    · rename_i hut
      subst hut
      cases h
      have hrun : (Instr.typeAssert (.iface u xx) t' u okb).run P w = .ok (if okb then .tuple #[xx, .bool true] else xx) w := by
        simp only [Instr.typeAssert, Sem.run_bind, under_ok hu, Result.andThen_ok]
        cases d <;> first | exact absurd rfl (hd _) | simp
      refine res_no hs.h (x := if okb then .tuple #[xx, .bool true] else xx) (by simp [execOp, ho, hxx, hrun]) ?_
      cases okb
      · exact hv
      · exact pair_ok hv (.bool true)
    · rename_i hut
      split at h
      · rename_i hok
        cases h
        have hrun : (Instr.typeAssert (.iface u xx) t' t okb).run P w = .ok (.tuple #[zx, .bool false]) w := by
          simp only [Instr.typeAssert, Sem.run_bind, under_ok hu, Result.andThen_ok]
          cases d <;> first | exact absurd rfl (hd _) | simp [hut, hok, hz1]
        exact res_no hs.h (by simp [execOp, ho, hxx, hrun]) (pair_ok hz2 (.bool false))
      · cases h
  · rename_i hp
    have hv := opd_ok hs hx hp
    generalize hxx : a.eval x = xv at hv
    cases hv
    split at h
    · rename_i hok
      cases h
      have hrun : (Instr.typeAssert .nilIface t' t okb).run P w = .ok (.tuple #[zx, .bool false]) w := by
        simp only [Instr.typeAssert, Sem.run_bind, under_ok hu, Result.andThen_ok]
        cases d <;> first | exact absurd rfl (hd _) | simp [hok, hz1]
      exact res_no hs.h (by simp [execOp, ho, hxx, hrun]) (pair_ok hz2 (.bool false))
    · cases h
  · cases h

theorem ok_mkmap {o : Oper} {t : TypeId} (hs : SRel P T st D ι a w) (ho : o.op = .makeMap t none) : OkOp P T w D ι st a o .mkmap := by
  intro nb hnb v e h
  simp only [aop] at h
  cases h
  exact res_new hnb hs.h (o := .map #[] 0) (d := w.drawn) (by simp [execOp, ho, Instr.makeMap]) ⟨#[], 0, by simp, rfl, fun j p e h => by simp at h, fun e he => by simp at he, by simp⟩ (.mp (ins_self _ _ _))

end
end Go.Abs
end

section
/- Each operation of the machine does what the walk's own operation does (8): make, append, copy, strings of bytes, maps. Conditions: none. -/
namespace Go.Abs

section
variable {P : Program} {T : Tab} {w : World} {D : Nat → Prop} {ι : Nat → Option Nat} {H : List AB} {st : ASt} {a : Act}

theorem wrap_in {n : Int} (h0 : 0 ≤ n) (h1 : n < 2 ^ 62) : IntKind.i64.wrap n = n := by
  have : n % (2 ^ 64 : Int) = n := Int.emod_eq_of_lt h0 (by omega)
  simp only [IntKind.wrap, IntKind.bits, this, IntKind.signed, Bool.true_and]
  rw [if_neg (by simp; omega)]

theorem ok_mksl {o : Oper} {t el : TypeId} {i : TypeInfo} {z : List AV} {l c : Operand} {l' c' : Opd} (hs : SRel P T st D ι a w) (ho : o.op = .makeSlice t l c) (hl : compO l = some l') (hc : compO c = some c') (hu : P.underlying t = some (.slice el))
    (hi : P.info? el = some i) (hz : zeroT P el = some z) (hzl : z.length = i.size) (h0 : i.size ≠ 0) : OkOp P T w D ι st a o (.mksl z i.bytes l' c') := by
  intro nb hnb v e h
  simp only [aop] at h
  split at h
  · rename_i k1 m k2 n hm hn
    split at h
    · rename_i hb
      cases h
      have e1 := (opd_ok hs hl hm).int_inv
      have e2 := (opd_ok hs hc hn).int_inv
      obtain ⟨zv, hz1, hz2⟩ := zero_ok (w := w) (D := D) (ι := ι) hz
      have hzs := zeros_ok hz2 n.toNat
      have w1 : IntKind.i64.wrap m = m := wrap_in hb.1 (by omega)
      have w2 : IntKind.i64.wrap n = n := wrap_in (by omega) hb.2.2.1
      have hsz : (sizeOf el).run P w = .ok i.size w := size_ok (by simp [sizeT, hi])
      have hrun : (Instr.makeSlice t (.int k1 m) (.int k2 n)).run P w = .ok (.slice (some ⟨w.heap.size, 0, none⟩) m.toNat n.toNat) (w.alloc (.cells ((Array.range (n.toNat * z.length)).map (zv.cells[· % zv.cells.size]!)) el)) := by
        have hnt : (decide (n < 0) || decide ((i.bytes : Int) * n > 2 ^ 48)) = false := by
          simp only [Bool.or_eq_false_iff, decide_eq_false_iff_not]
          exact ⟨by omega, by omega⟩
        have hg : ((decide (n < 0) || decide ((i.bytes : Int) * n > 2 ^ 48)) || decide (m < 0) || decide (m > n)) = false := by
          rw [hnt]; simp; omega
        have hti : (typeInfo el).run P w = .ok i w := by simp [typeInfo, hi]
        simp only [Instr.makeSlice, Sem.run_bind, under_ok hu, Result.andThen_ok, asInt, asIntOf, Sem.run_pure, hti, w1, w2]
        rw [if_neg (by rw [Bool.or_eq_true, Bool.or_eq_true, not_or, not_or]; refine ⟨⟨?_, ?_⟩, ?_⟩ <;> simp <;> omega)]
        by_cases hn0 : n.toNat * i.size = 0
        · have : n.toNat = 0 := by rcases Nat.mul_eq_zero.1 hn0 with h | h; exact h; exact absurd h h0
          simp [hsz, this, newRow, range0]
        · simp only [Sem.run_bind, run_askRoom, hsz, Result.andThen_ok, hn0, if_false, hz1, Sem.run_pure, newRow, run_newObj, hzl]
          rfl
      refine res_new hnb hs.h (d := w.drawn) (by simp [execOp, ho, e1, e2, hrun]) (row_new' hnb hs.h el w.drawn hzs) (.msl (ins_self _ _ _) (by omega))
    · cases h
  · cases h

theorem load_cells {b o n : Nat} {cs : List AV} (h : Cells w D ι b o cs) (hl : cs.length = n) : ∃ xs : Array Value, (loadCells ⟨b, o, none⟩ n).run P w = .ok xs w ∧ VRels w D ι cs xs := by
  let l : List Value := (List.range n).map fun j => (w.cell? ⟨b, o + j, none⟩).getD undef
  have hx : ∀ j, (hj : j < n) → ∃ x, w.cell? ⟨b, o + j, none⟩ = some x ∧ VRel w D ι (cs[j]'(by omega)) x := fun j hj => h j _ (List.getElem?_eq_getElem (by omega))
  have hl' : ∀ j x, l[j]? = some x → j < n ∧ w.cell? ⟨b, o + j, none⟩ = some x := fun j x hj => by
    have hjn : j < n := by have := (List.getElem?_eq_some_iff.1 hj).1; simpa [l] using this
    obtain ⟨y, h2, _⟩ := hx j hjn
    simp [l, hjn, h2] at hj
    exact ⟨hjn, hj ▸ h2⟩
  refine ⟨l.toArray, ?_, by simp [l]; omega, fun j u x hj hxj => ?_⟩
  · simp only [loadCells]
    rw [run_loadCellsFrom n 0 #[] l (by simp [l]) (fun j x hj => by rw [Nat.zero_add]; exact (hl' j x hj).2)]
    simp
  · obtain ⟨hjn, hcell⟩ := hl' j x (by simpa using hxj)
    obtain ⟨y, h2, h3⟩ := hx j hjn
    rw [h2] at hcell; cases hcell
    rw [List.getElem?_eq_getElem (by omega)] at hj
    cases hj
    exact h3

theorem src_ok (h : HRel P w D ι H) {d n : Nat} {v : AV} {cs : List AV} (hs : srcOf (H[·]?) d v = some (cs, n)) {x : Value} (hv : VRel w D ι v x) :
    (Builtin.lenOf x).run P w = .ok n w ∧ ∃ xs, (Builtin.firstCells d n x).run P w = .ok xs w ∧ VRels w D ι cs xs ∧ cs.length = n * d := by
  unfold srcOf at hs
  split at hs
  · cases hs
    cases hv
    exact ⟨rfl, #[], rfl, VRels.nil, by simp⟩
  · split at hs
    · rename_i hle
      cases hs
      obtain ⟨p, cap, rfl, hl, _, _, hnone, hsome⟩ := csl_inv hv
      refine ⟨rfl, ?_⟩
      cases p with
      | none =>
        obtain ⟨rfl, rfl⟩ := hnone rfl
        have h0 : n = 0 := by omega
        subst h0
        exact ⟨#[], rfl, by simpa using VRels.nil, by simp⟩
      | some p =>
        rcases imp_or (hsome _ rfl) with hbare | hsome'
        · obtain ⟨rfl, rfl, rfl, rfl⟩ := hbare
          exact ⟨#[], by simp [Builtin.firstCells, loadCells]; rfl, by simpa using VRels.nil, by simp⟩
        obtain ⟨b, o, rfl, hD, hc⟩ := hsome'
        obtain ⟨xs, h1, h2⟩ := load_cells (P := P) (n := n * d) (hc.take (n * d)) (by rw [List.length_take]; omega)
        exact ⟨xs, h1, h2, by simp; omega⟩
    · cases hs
  · rename_i b off len cap
    split at hs
    · rename_i row hrow
      split at hs
      · rename_i hle
        cases hs
        obtain ⟨k, hk, hl, rfl⟩ := hv.msl_inv
        obtain ⟨xs, h1, h2⟩ := load_cells (P := P) (n := n * d) (Cells.take (h.cells (off := off) hrow hk) (n * d)) (by rw [List.length_take, List.length_drop]; omega)
        exact ⟨rfl, xs, h1, h2, by simp; omega⟩
      · cases hs
    · cases hs
  · rename_i b len q
    split at hs
    · rename_i row hrow
      split at hs
      · rename_i hle
        cases hs
        obtain ⟨k, cap, hk, hl, rfl, _⟩ := hv.gsl_inv
        have hc := h.cells (off := 0) hrow hk
        simp only [List.drop_zero] at hc
        obtain ⟨xs, h1, h2⟩ := load_cells (P := P) (n := n * d) (Cells.take hc (n * d)) (by rw [List.length_take]; omega)
        exact ⟨rfl, xs, h1, h2, by simp; omega⟩
      · cases hs
    · cases hs
  · rename_i s
    split at hs
    · rename_i hd
      cases hs
      cases hv
      subst hd
      refine ⟨rfl, _, rfl, ⟨by simp, fun j u z hj hz => ?_⟩, by rw [List.length_map, Array.length_toList, Nat.mul_one]; rfl⟩
      have hext : (s.extract 0 s.size).data = s.data := by rw [ByteArray.extract_zero_size]
      rw [hext] at hz
      simp at hj hz
      obtain ⟨q, hq, rfl⟩ := hj
      obtain ⟨q', hq', rfl⟩ := hz
      rw [hq] at hq'; cases hq'
      exact .int _ _
    · cases hs
  · cases hs

/-- A living block by another number of the walk's. -/
theorem hrel_rename {b k n : Nat} {B : AB} (h : HRel P w D ι H) (hb : H[b]? = some B) (hd : B.isDead = false) (hk : ι b = some k) (hn : ι n = none) :
    HRel P w D (ins ι n k) (putB (H.set b .dead) n B) ∧ Ext w D (Live ι H) w D (Live (ins ι n k) (putB (H.set b .dead) n B)) := by
  have hcase : ∀ (c : Nat) (C : AB) (j : Nat), (putB (H.set b .dead) n B)[c]? = some C → C.isDead = false → ins ι n k c = some j → (c ≠ n ∧ c ≠ b ∧ H[c]? = some C ∧ ι c = some j) ∨ (c = n ∧ C = B ∧ j = k) := fun c C j hc hC hj => by
    rcases putB_get hc hC with ⟨rfl, rfl⟩ | ⟨hne, h1⟩
    · rw [ins_self] at hj; cases hj; exact .inr ⟨rfl, rfl, rfl⟩
    · simp only [ins, if_neg hne] at hj
      rw [List.getElem?_set] at h1
      split at h1
      · split at h1
        · cases h1; simp [AB.isDead] at hC
        · cases h1
      · rename_i hne'
        exact .inl ⟨hne, fun e => hne' e.symm, h1, hj⟩
  have hmono : ∀ v x, VRel w D ι v x → VRel w D (ins ι n k) v x := fun v x hv => h.vrel (Ext.refl w D (Live ι H)) (ins_mono hn) hv
  refine ⟨⟨fun c j hj => ?_, h.dlt, fun c j hj => ?_, fun c C j h1 h2 h3 => ?_, fun c c' C C' j h1 h2 h3 h4 h5 h6 => ?_⟩, ⟨rfl, rfl, rfl, Nat.le_refl _, fun _ _ _ => rfl, fun j hj => ?_, fun _ h => h, fun _ h => .inl h, fun _ c _ f h _ => ⟨c, f, h, rfl⟩⟩⟩
  · have hl := putB_len (H.set b .dead) n B
    rw [List.length_set] at hl
    unfold ins at hj
    split at hj
    · rename_i e; subst e; exact hl.2
    · have := h.dom c j hj; omega
  · unfold ins at hj
    split at hj
    · cases hj; exact h.ilt b _ hk
    · exact h.ilt c j hj
  · rcases hcase c C j h1 h2 h3 with ⟨_, _, a1, a2⟩ | ⟨_, rfl, rfl⟩
    · exact ⟨(h.blk c C j a1 h2 a2).1, (h.blk c C j a1 h2 a2).2.mono rfl hmono⟩
    · exact ⟨(h.blk b C j hb hd hk).1, (h.blk b C j hb hd hk).2.mono rfl hmono⟩
  · rcases hcase c C j h1 h2 h5 with ⟨_, n1, a1, a2⟩ | ⟨e1, rfl, rfl⟩ <;> rcases hcase c' C' _ h3 h4 h6 with ⟨_, n2, b1, b2⟩ | ⟨e2, rfl, e3⟩
    · exact h.inj c c' C C' j a1 h2 b1 h4 a2 b2
    · subst e3; exact absurd (h.inj c b C C' j a1 h2 hb hd a2 hk) n1
    · exact absurd (h.inj b c' C C' j hb hd b1 h4 hk b2).symm n2
    · omega
  · obtain ⟨c, C, h1, h2, h3⟩ := hj
    rcases hcase c C j h1 h2 h3 with ⟨_, _, a1, a2⟩ | ⟨_, rfl, rfl⟩
    · exact .inl ⟨c, C, a1, h2, a2⟩
    · exact .inl ⟨b, C, hb, hd, hk⟩

/-- append's own arithmetic -/
theorem run_append_room {c : Array TypeId} {ty el tx : TypeId} {d : TypeDesc} {sz : Nat} {base : Option Addr} {sLen sCap n : Nat} {x : Value} {news : Array Value} {w' : World} (hc : c[0]? = some ty) (hc1 : c[1]? = some tx) (hu : P.underlying ty = some (.slice el)) (hx : P.underlying tx = some d) (hd : ∀ k, d ≠ .int k)
    (hsz : sizeT P el = some sz) (hlen : (Builtin.lenOf x).run P w = .ok n w) (hnew : (Builtin.firstCells sz n x).run P w = .ok news w) (hroom : sLen + n ≤ sCap)
    (hst : ∀ p, base = some p → (storeCells (p.add (sLen * sz)) news.toList).run P w = .ok () w') (hst0 : base = none → w' = w) (rt : TypeId) :
    (Builtin.append_ c rt #[.slice base sLen sCap, x]).run P w = .ok (.slice base (sLen + n) sCap) w' := by
  unfold Builtin.append_
  simp only [hc, hc1, List.getElem?_toArray, List.getElem?_cons_zero, List.getElem?_cons_succ, Sem.run_bind, under_ok hu, under_ok hx, Result.andThen_ok, Sem.run_pure, size_ok hsz]
  simp only [Bool.false_eq_true, if_false, Sem.run_bind, hlen, Result.andThen_ok, hroom, if_true, Bool.not_false, hnew]
  cases base with
  | none => have := hst0 rfl; subst this; rfl
  | some p => simp only [Sem.run_bind, hst p rfl, Result.andThen_ok]; rfl

theorem run_append_grow {c : Array TypeId} {ty el tx : TypeId} {d : TypeDesc} {i : TypeInfo} {base : Option Addr} {sLen sCap n : Nat} {x : Value} {news olds : Array Value} {zv : Value} (hc : c[0]? = some ty) (hc1 : c[1]? = some tx) (hu : P.underlying ty = some (.slice el)) (hx : P.underlying tx = some d) (hd : ∀ k, d ≠ .int k)
    (hi : P.info? el = some i) (hb0 : i.bytes ≠ 0) (hlen : ∀ w, (Builtin.lenOf x).run P w = .ok n w) (hnew : (Builtin.firstCells i.size n x).run P w.drew = .ok news w.drew) (hold : (Builtin.firstCells i.size sLen (.slice base sLen sCap)).run P w.drew = .ok olds w.drew)
    (hz : ∀ w, (zeroValue el).run P w = .ok zv w) (hgrow : sCap < sLen + n) (hfit : (sLen + n) * i.bytes ≤ 2 ^ 47) (rt : TypeId) :
    ∃ cap, sLen + n ≤ cap ∧ (Builtin.append_ c rt #[.slice base sLen sCap, x]).run P w = .ok (.slice (some ⟨w.heap.size, 0, none⟩) (sLen + n) cap) (w.drew.alloc (.cells (olds ++ news ++ Builtin.zeroCells zv.cells (cap - (sLen + n))) el)) := by
  have hsz : sizeT P el = some i.size := by simp [sizeT, hi]
  have hnle : ¬ (sLen + n ≤ sCap) := by omega
  have hfits := growslice_fits (bytes := i.bytes) hgrow (by omega)
  have h48 : ¬ (Builtin.nextslicecap (sLen + n) sCap * i.bytes > 2 ^ 48) := by omega
  have hbound : sLen + n ≤ 2 ^ 47 := by
    have : sLen + n ≤ (sLen + n) * i.bytes := Nat.le_mul_of_pos_right _ (by omega)
    omega
  have hq : (Question.appendCap (sLen + n) sCap el).forced = false := rfl
  refine ⟨(Question.appendCap (sLen + n) sCap el).cut (w.tape w.drawn (.appendCap (sLen + n) sCap el)), by simp [Question.cut], ?_⟩
  unfold Builtin.append_
  simp only [hc, hc1, List.getElem?_toArray, List.getElem?_cons_zero, List.getElem?_cons_succ, Sem.run_bind, under_ok hu, under_ok hx, Result.andThen_ok, Sem.run_pure, size_ok hsz]
  have hti : ∀ w, (typeInfo el).run P w = .ok i w := fun w => by simp [typeInfo, hi]
  have hmax : ¬ ((((sLen + n : Nat) : Int) > IntKind.i64.max) ∧ (False ∨ i.bytes = 0)) := fun h => h.2.elim False.elim hb0
  simp only [Bool.false_eq_true, if_false, Sem.run_bind, hlen, Result.andThen_ok, hnle, hti]
  rw [if_neg (by simpa using fun _ => hb0)]
  simp only [Sem.run_bind, Result.andThen_ok, hti]
  rw [if_neg h48]
  have hch : (choose (.appendCap (sLen + n) sCap el)).run P w = .ok ((Question.appendCap (sLen + n) sCap el).cut (w.tape w.drawn (.appendCap (sLen + n) sCap el))) w.drew := by
    simp [hq]
  simp only [Sem.run_bind, Sem.run_pure, Result.andThen_ok, hch, hti, run_askRoom, hold, Bool.not_false, if_true, hnew, hz, newRow, run_newObj]
  rfl

end
end Go.Abs
end

section
/- Each operation of the machine does what the walk's own operation does (9): append, copy. Conditions: none. -/
namespace Go.Abs

section
variable {P : Program} {T : Tab} {w : World} {D : Nat → Prop} {ι : Nat → Option Nat} {H : List AB} {st : ASt} {a : Act}

/-- Cells of a living row written over, past what is told of it too. -/
theorem store_row (h : HRel P w D ι H) {b k off : Nat} {cs vs cs' : List AV} {xs c : Array Value} {e : TypeId} (hb : H[b]? = some (.row cs)) (hk : ι b = some k) (hc : w.heap[k]? = some (.cells c e (0, 0)))
    (hl : off + vs.length ≤ c.size) (hv : VRels w D ι vs xs) (h1 : vs.all AV.isCell = true) (hl' : cs'.length ≤ c.size)
    (hcs : ∀ (j : Nat) (v : AV), cs'[j]? = some v → (off ≤ j ∧ j < off + vs.length ∧ vs[j - off]? = some v) ∨ ((j < off ∨ off + vs.length ≤ j) ∧ cs[j]? = some v)) :
    ∃ w' , (storeCells ⟨k, off, none⟩ xs.toList 0).run P w = .ok () w' ∧ HRel P w' D ι (H.set b (.row cs')) ∧ Ext w D (Live ι H) w' D (Live ι (H.set b (.row cs'))) ∧ ∃ c', w'.heap[k]? = some (.cells c' e (0, 0)) ∧ c'.size = c.size := by
  obtain ⟨c0, e0, hc0, hle, hcv⟩ := (h.blk b _ k hb rfl hk).2
  rw [hc] at hc0; cases hc0
  have hrun := run_storeCells_at (P := P) k off e xs.toList 0 c w hc (by simp [hv.1]; omega) (fun x hx => by
    obtain ⟨j, hj⟩ := List.getElem?_of_mem hx
    have hlt : j < vs.length := by have := (List.getElem?_eq_some_iff.1 hj).1; simp [hv.1] at this; exact this
    have hu := hv.2 j vs[j] x (List.getElem?_eq_getElem hlt) (by simpa using hj)
    exact cell_one hu (by simpa using List.all_eq_true.1 h1 vs[j] (List.getElem_mem hlt)))
  rw [setRow_eq hc] at hrun
  refine ⟨_, hrun, ?_, ?_, ?_⟩
  · refine hrel_upd h hb rfl hk (fun c2 e2 f2 he => by cases he; exact ⟨c, (0, 0), hc, by simp [hv.1]; omega⟩) ?_
    refine ⟨_, e, by simp only [Array.getElem?_setIfInBounds]; rw [if_pos trivial, if_pos (Array.getElem?_eq_some_iff.1 hc).1], by simp [hv.1]; omega, fun j v x hj hx => ?_⟩
    have hext := ext_upd (B := .row cs') (n := w.drawn) (o' := .cells (c.toList.take (off + 0) ++ xs.toList ++ c.toList.drop (off + 0 + xs.toList.length)).toArray e (0, 0)) h hb rfl hk (fun c2 e2 f2 he => by cases he; exact ⟨c, (0, 0), hc, by simp [hv.1]; omega⟩)
    refine h.vrel hext (fun _ _ h => h) ?_
    rw [List.getElem?_toArray, Nat.add_zero, List.append_assoc] at hx
    have htl : (c.toList.take off).length = off := by simp; omega
    rcases hcs j v hj with ⟨h1, h2, h3⟩ | ⟨h1, h3⟩
    · rw [List.getElem?_append_right (by omega), htl] at hx
      rw [List.getElem?_append_left (by simp [hv.1]; omega)] at hx
      exact hv.2 _ v x h3 (by simpa using hx)
    · by_cases h4 : j < off
      · rw [List.getElem?_append_left (by omega), List.getElem?_take_of_lt h4] at hx
        exact hcv j v x h3 (by simpa using hx)
      · rw [List.getElem?_append_right (by omega), htl] at hx
        rw [List.getElem?_append_right (by simp [hv.1]; omega), List.getElem?_drop] at hx
        refine hcv j v x h3 ?_
        simp only [Array.length_toList, hv.1, Array.getElem?_toList] at hx
        rw [show off + vs.length + (j - off - vs.length) = j from by omega] at hx
        exact hx
  · exact ext_upd h hb rfl hk (fun c2 e2 f2 he => by cases he; exact ⟨c, (0, 0), hc, by simp [hv.1]; omega⟩)
  · refine ⟨(c.toList.take (off + 0) ++ xs.toList ++ c.toList.drop (off + 0 + xs.toList.length)).toArray, by simp only [Array.getElem?_setIfInBounds]; rw [if_pos trivial, if_pos (Array.getElem?_eq_some_iff.1 hc).1], by simp [hv.1]; omega⟩

/-- What append makes, where it must make a new row. -/
theorem grow_ok {o : Oper} {c : Call} {x y : Operand} {ty tx el : TypeId} {i : TypeInfo} {z : List AV} {d : TypeDesc} (h : HRel P w D ι H) (ho : o.op = .call c) (hc : c.callee = .builtin .append) (hargs : c.args.toList = [x, y]) (hct : c.argTypes[0]? = some ty) (hct1 : c.argTypes[1]? = some tx)
    (hu : P.underlying ty = some (.slice el)) (hx : P.underlying tx = some d) (hd : ∀ k, d ≠ .int k) (hi : P.info? el = some i) (hz : zeroT P el = some z) (hzl : z.length = i.size) (hb0 : i.bytes ≠ 0)
    {sv xv : AV} {old new : List AV} {len n : Nat} {base : Option Addr} {cap : Nat} (hsv : VRel w D ι sv (a.eval x)) (hxv : VRel w D ι xv (a.eval y)) (hx0 : a.eval x = .slice base len cap)
    (hold : srcOf (H[·]?) i.size sv = some (old, len)) (hnew : srcOf (H[·]?) i.size xv = some (new, n)) (hgrow : cap < len + n) (hfit : (len + n) * i.bytes ≤ 2 ^ 47) :
    ∃ xs cap', (execOp a.eval o).run P w = .ok (.value (.slice (some ⟨w.heap.size, 0, none⟩) (len + n) cap')) { w with heap := w.heap.push (.cells xs el), drawn := w.drawn + 1 } ∧ len + n ≤ cap' ∧ cap' * i.size ≤ xs.size ∧ (old ++ new).length ≤ xs.size ∧
      ∀ (j : Nat) (v : AV) (x : Value), (old ++ new)[j]? = some v → xs[j]? = some x → VRel { w with drawn := w.drawn + 1 } D ι v x := by
  have hd' := h.drawn (w.drawn + 1)
  have hm : ∀ v x, VRel w D ι v x → VRel { w with drawn := w.drawn + 1 } D ι v x := fun v x hv => h.vrel (Ext.drawn w D (Live ι H) (w.drawn + 1)) (fun _ _ h => h) hv
  obtain ⟨_, os, ho1, ho2, ho3⟩ := src_ok (P := P) hd' hold (hm _ _ hsv)
  obtain ⟨_, ns, hn1, hn2, hn3⟩ := src_ok (P := P) hd' hnew (hm _ _ hxv)
  have hzr : ∀ w : World, ∃ zv, (zeroValue el).run P w = .ok zv w ∧ zv.cells.size = z.length := fun w => by
    obtain ⟨v, h1, h2⟩ := zero_ok (w := w) (D := D) (ι := ι) hz
    exact ⟨v, h1, h2.1⟩
  obtain ⟨zv, hz1, hz2⟩ := hzr w
  have hz3 : ∀ w' : World, (zeroValue el).run P w' = .ok zv w' := fun w' => by
    obtain ⟨zv', h1, _⟩ := hzr w'
    have e1 : (zeroValue el).run P w = .ok zv' w := by
      simp only [zeroT, Option.bind_eq_some_iff] at hz
      obtain ⟨i', hi', v, hv, _⟩ := hz
      simp [zeroValue, typeInfo, hi', hv] at h1 ⊢
      exact h1
    rw [hz1] at e1; cases e1; exact h1
  have hlen : ∀ w' : World, (Builtin.lenOf (a.eval y)).run P w' = .ok n w' := fun w' => by
    have h1 := (src_ok (P := P) h hnew hxv).1
    generalize a.eval y = yv at h1
    cases yv <;> simp [Builtin.lenOf] at h1 ⊢ <;> exact h1
  obtain ⟨cap', hcap, hrun⟩ := run_append_grow (P := P) (w := w) (base := base) (sLen := len) (sCap := cap) (n := n) (x := a.eval y) (news := ns) (olds := os) (zv := zv) hct hct1 hu hx hd hi hb0 hlen hn1 (by rw [← hx0]; exact ho1) hz3 hgrow hfit o.type
  have hzc : (Builtin.zeroCells zv.cells (cap' - (len + n))).size = (cap' - (len + n)) * i.size := by simp [Builtin.zeroCells, hz2, hzl]
  refine ⟨os ++ ns ++ Builtin.zeroCells zv.cells (cap' - (len + n)), cap', ?_, hcap, ?_, ?_, fun j v x hj hxj => ?_⟩
  · exact run_builtin ho hc (args_two hargs) fun k => by
      have hrun' := hrun
      rw [← hx0] at hrun'
      exact run_val _ hrun'
  · simp only [Array.size_append, hzc, ho2.1, hn2.1, ho3, hn3]
    rw [← Nat.add_mul, ← Nat.add_mul]
    exact Nat.mul_le_mul_right _ (by omega)
  · simp only [Array.size_append, List.length_append, ho2.1, hn2.1]; omega
  · by_cases h1 : j < old.length
    · rw [List.getElem?_append_left h1] at hj
      rw [Array.append_assoc, Array.getElem?_append_left (by rw [ho2.1]; exact h1)] at hxj
      exact ho2.2 j v x hj hxj
    · rw [List.getElem?_append_right (by omega)] at hj
      have h2 := (List.getElem?_eq_some_iff.1 hj).1
      rw [Array.append_assoc, Array.getElem?_append_right (by rw [ho2.1]; omega), Array.getElem?_append_left (by rw [hn2.1, ho2.1]; omega), ho2.1] at hxj
      exact hn2.2 _ v x hj hxj

theorem res_drew {nb n : Nat} {r : Result Next} {v : AV} {e : AEff} (h : OpRes P nb H D ι { w with drawn := n } r v e) : OpRes P nb H D ι w r v e := by
  obtain ⟨nx, x, w', ι', h1, h2, h3, h4, h5, h6, h7⟩ := h
  exact ⟨nx, x, w', ι', h1, h2, h3, h4, (Ext.drawn w D (Live ι H) n).trans h5, h6, h7⟩

theorem res_kill {nb b : Nat} {r : Result Next} {v : AV} {B : AB} (h : OpRes P nb (H.set b .dead) D ι w r v (.new B)) : OpRes P nb H D ι w r v (.mv b B) := by
  obtain ⟨nx, x, w', ι', h1, h2, h3, h4, h5, h6, h7⟩ := h
  exact ⟨nx, x, w', ι', h1, h2, h3, h4, (ext_kill w D ι H b).trans h5, h6, h7⟩

theorem VRel.nils_inv {x : Value} (h : VRel w D ι .nils x) : x = .slice none 0 0 := by cases h; rfl

theorem ok_app {o : Oper} {c : Call} {x y : Operand} {x' y' : Opd} {ty tx el : TypeId} {i : TypeInfo} {z : List AV} {d : TypeDesc} (hs : SRel P T st D ι a w) (ho : o.op = .call c) (hc : c.callee = .builtin .append) (hargs : c.args.toList = [x, y]) (hct : c.argTypes[0]? = some ty) (hct1 : c.argTypes[1]? = some tx)
    (hx : compO x = some x') (hy : compO y = some y') (hu : P.underlying ty = some (.slice el)) (hxu : P.underlying tx = some d) (hd : ∀ k, d ≠ .int k) (hi : P.info? el = some i) (hz : zeroT P el = some z) (hzl : z.length = i.size) (hb0 : i.bytes ≠ 0) :
    OkOp P T w D ι st a o (.app i.size i.bytes x' y') := by
  intro nb hnb v e h
  simp only [aop, Option.bind_eq_some_iff] at h
  obtain ⟨sv, hsv, xv, hxv, ⟨new, n⟩, hsrc, h⟩ := h
  have hS := opd_ok hs hx hsv
  have hX := opd_ok hs hy hxv
  have hsz : sizeT P el = some i.size := by simp [sizeT, hi]
  obtain ⟨hlen, ns, hns, hnv, hnl⟩ := src_ok (P := P) hs.h hsrc hX
  have room : ∀ (base : Option Addr) (sLen sCap : Nat) (w' : World), a.eval x = .slice base sLen sCap → sLen + n ≤ sCap → (∀ p, base = some p → (storeCells (p.add (sLen * i.size)) ns.toList).run P w = .ok () w') → (base = none → w' = w) →
      (execOp a.eval o).run P w = .ok (.value (.slice base (sLen + n) sCap)) w' := fun base sLen sCap w' e1 e2 e3 e4 =>
    run_builtin ho hc (args_two hargs) fun k => by
      have := run_append_room (P := P) (w := w) (w' := w') hct hct1 hu hxu hd hsz hlen hns e2 e3 e4 o.type
      rw [← e1] at this
      exact run_val _ this
  have grow : ∀ (old : List AV) (len cap : Nat) (base : Option Addr), a.eval x = .slice base len cap → srcOf (st.H[·]?) i.size sv = some (old, len) → cap < len + n → (len + n) * i.bytes ≤ 2 ^ 47 →
      OpRes P nb st.H D ι w ((execOp a.eval o).run P w) (.gsl nb (len + n) i.size) (.new (.row (old ++ new))) := fun old len cap base e1 e2 e3 e4 => by
    obtain ⟨xs, cap', g1, g2, g3, g4, g5⟩ := grow_ok hs.h ho hc hargs hct hct1 hu hxu hd hi hz hzl hb0 hS hX e1 e2 hsrc e3 e4
    refine res_drew (n := w.drawn + 1) (res_new hnb (hs.h.drawn _) (d := w.drawn + 1) g1 (row_new hnb (hs.h.drawn _) el _ g4 g5) (.gsl (ins_self _ _ _) g2 fun c e f hcell => ?_))
    simp at hcell
    obtain ⟨rfl, _⟩ := hcell
    exact g3
  split at h
  · have e1 : a.eval x = .slice none 0 0 := hS.nils_inv
    split at h
    · rename_i hp0
      cases h
      simp only at hp0
      subst hp0
      exact res_no hs.h (room none 0 0 w e1 (by omega) (fun p h => by cases h) (fun _ => rfl)) .nils
    · rename_i hp0
      split at h
      · rename_i hfit
        cases h
        simp only at hp0 hfit
        have := grow [] 0 0 none e1 rfl (by omega) (by rw [Nat.zero_add]; exact hfit)
        simpa using this
      · cases h
  · rename_i cs len co nn
    obtain ⟨p, cap, e1, hl, hnn, hco, hnone, hsome⟩ := csl_inv hS
    split at h
    · rename_i hp0
      cases h
      simp only at hp0
      subst hp0
      refine res_no hs.h (room p len cap w e1 (by omega) ?_ (fun _ => rfl)) (by simpa [e1] using hS)
      have hns0 : ns = #[] := Array.size_eq_zero_iff.1 (by rw [hnv.1, hnl]; omega)
      subst hns0
      intro q _
      rfl
    · rename_i hp0
      simp only at hp0 h
      split at h
      · rename_i c'
        split at h
        · rename_i hcond
          cases h
          have hcap := hco c' rfl
          subst hcap
          exact grow _ len cap p e1 (by simp only [srcOf]; rw [if_pos hcond.2.1]) hcond.1 hcond.2.2
        · cases h
      · cases h
  · rename_i b off len cap
    obtain ⟨k, hk, hl, e1⟩ := hS.msl_inv
    split at h
    · rename_i cs hrow
      split at h
      · rename_i hle
        split at h
        · rename_i hroom
          split at h
          · rename_i hcond
            cases h
            obtain ⟨w', g1, g2, g3⟩ := store_ok (P := P) (off := off + len * i.size) hs.h hrow hk (by rw [hnl, Nat.add_assoc, ← Nat.add_mul]; exact hcond.1) hnv hcond.2
            exact ⟨_, _, w', ι, room _ len cap w' e1 hroom (fun q hq => by cases hq; simp only [add_plain]; exact g1) (fun h => by cases h), .inl rfl, g2, .msl hk hroom, g3, fun _ _ h => h, fun _ _ h => .inl h⟩
          · cases h
        · rename_i hroom
          split at h
          · rename_i hfit
            cases h
            exact grow _ len cap _ e1 (by simp only [srcOf, hrow]; rw [if_pos hle]) (by simp only at hroom; omega) hfit
          · cases h
      · cases h
    · cases h
  · rename_i b len d'
    obtain ⟨k, cap, hk, hl, e1, hcap⟩ := hS.gsl_inv
    split at h
    · rename_i cs hrow
      split at h
      · rename_i hcond
        cases h
        obtain ⟨hle, hd', hcell, hfit⟩ := hcond
        subst hd'
        obtain ⟨cc, ee, hcc, hcl, hcv⟩ := (hs.h.blk b _ k hrow rfl hk).2
        have hcs := hcap _ _ _ hcc
        by_cases hroom : len + n ≤ cap
        · have hmul : (len + n) * i.size ≤ cap * i.size := Nat.mul_le_mul_right _ hroom
          rw [Nat.add_mul] at hmul
          obtain ⟨w', g1, g2, g3, c'', g4, g5⟩ := store_row (P := P) (off := len * i.size) (cs' := cs.take (len * i.size) ++ new) hs.h hrow hk hcc (by rw [hnl]; omega) hnv hcell (by simp [hnl]; omega) (fun j u hj => by
            have htl : (cs.take (len * i.size)).length = len * i.size := by simp; omega
            by_cases h1 : j < len * i.size
            · rw [List.getElem?_append_left (by omega), List.getElem?_take_of_lt h1] at hj
              exact .inr ⟨.inl h1, hj⟩
            · rw [List.getElem?_append_right (by omega), htl] at hj
              have h2 := (List.getElem?_eq_some_iff.1 hj).1
              exact .inl ⟨by omega, by omega, hj⟩)
          have hbl : b < st.H.length := (List.getElem?_eq_some_iff.1 hrow).1
          obtain ⟨r1, r2⟩ := hrel_rename (b := b) (k := k) (B := .row (cs.take (len * i.size) ++ new)) g2 (by rw [List.getElem?_set_self hbl]) rfl hk hnb
          simp only [List.set_set] at r1 r2
          refine ⟨_, _, w', ins ι nb k, room _ len cap w' e1 hroom (fun q hq => by cases hq; simp only [add_plain, Nat.zero_add]; exact g1) (fun h => by cases h), .inl rfl, r1, .gsl (ins_self _ _ _) hroom (fun c e f hc => ?_), g3.trans r2, ins_mono hnb, ins_back⟩
          rw [g4] at hc
          cases hc
          rw [g5]; exact hcs
        · refine res_kill ?_
          have hkl := hrel_kill hs.h b
          have hsrc' : srcOf (st.H[·]?) i.size (.gsl b len i.size) = some (cs.take (len * i.size), len) := by simp only [srcOf, hrow]; rw [if_pos ⟨hle, trivial⟩]
          obtain ⟨xs, cap', g1, g2, g3, g4, g5⟩ := grow_ok hs.h ho hc hargs hct hct1 hu hxu hd hi hz hzl hb0 hS hX e1 hsrc' hsrc (by omega) hfit
          have hkd : HRel P { w with drawn := w.drawn + 1 } D ι (st.H.set b .dead) := hrel_kill (hs.h.drawn (w.drawn + 1)) b
          refine res_drew (n := w.drawn + 1) (res_new hnb hkd (d := w.drawn + 1) g1 (row_new hnb hkd el _ g4 g5) (.gsl (ins_self _ _ _) g2 fun c e f hcell => ?_))
          simp at hcell
          obtain ⟨rfl, _⟩ := hcell
          exact g3
      · cases h
    · cases h
  · cases h

/-- The first m elements of a source. -/
theorem src_take (h : HRel P w D ι H) {d n m : Nat} {v : AV} {cs : List AV} (hs : srcOf (H[·]?) d v = some (cs, n)) (hm : m ≤ n) {x : Value} (hv : VRel w D ι v x) :
    ∃ xs, (Builtin.firstCells d m x).run P w = .ok xs w ∧ VRels w D ι (cs.take (m * d)) xs := by
  have hmd : m * d ≤ n * d := Nat.mul_le_mul_right _ hm
  unfold srcOf at hs
  split at hs
  · cases hs
    cases hv
    exact ⟨#[], rfl, by simpa using VRels.nil⟩
  · split at hs
    · rename_i hle
      cases hs
      obtain ⟨p, cap, rfl, hl, _, _, hnone, hsome⟩ := csl_inv hv
      rw [List.take_take, Nat.min_eq_left hmd]
      cases p with
      | none =>
        obtain ⟨rfl, rfl⟩ := hnone rfl
        exact ⟨#[], rfl, by simpa using VRels.nil⟩
      | some p =>
        rcases imp_or (hsome _ rfl) with hbare | hsome'
        · obtain ⟨rfl, rfl, rfl, rfl⟩ := hbare
          obtain rfl : m = 0 := by omega
          exact ⟨#[], by simp [Builtin.firstCells, loadCells]; rfl, by simpa using VRels.nil⟩
        obtain ⟨b, o, rfl, hD, hc⟩ := hsome'
        obtain ⟨xs, h1, h2⟩ := load_cells (P := P) (n := m * d) (hc.take (m * d)) (by rw [List.length_take]; omega)
        exact ⟨xs, h1, h2⟩
    · cases hs
  · rename_i b off len cap
    split at hs
    · rename_i row hrow
      split at hs
      · rename_i hle
        cases hs
        obtain ⟨k, hk, hl, rfl⟩ := hv.msl_inv
        rw [List.take_take, Nat.min_eq_left hmd]
        obtain ⟨xs, h1, h2⟩ := load_cells (P := P) (n := m * d) (Cells.take (h.cells (off := off) hrow hk) (m * d)) (by rw [List.length_take, List.length_drop]; omega)
        exact ⟨xs, h1, h2⟩
      · cases hs
    · cases hs
  · rename_i b len q
    split at hs
    · rename_i row hrow
      split at hs
      · rename_i hle
        cases hs
        obtain ⟨k, cap, hk, hl, rfl, _⟩ := hv.gsl_inv
        rw [List.take_take, Nat.min_eq_left hmd]
        have hc := h.cells (off := 0) hrow hk
        simp only [List.drop_zero] at hc
        obtain ⟨xs, h1, h2⟩ := load_cells (P := P) (n := m * d) (Cells.take hc (m * d)) (by rw [List.length_take]; omega)
        exact ⟨xs, h1, h2⟩
      · cases hs
    · cases hs
  · rename_i s
    split at hs
    · rename_i hd
      cases hs
      cases hv
      subst hd
      rw [Nat.mul_one]
      refine ⟨_, rfl, ⟨?_, fun j u z hj hz => ?_⟩⟩
      · simp only [Array.size_map, List.length_take, List.length_map, Array.length_toList, ByteArray.data_extract, Array.size_extract]
        have : s.data.size = s.size := rfl
        omega
      · have hlt : j < m := by have := (List.getElem?_eq_some_iff.1 hj).1; simp at this; omega
        rw [List.getElem?_take_of_lt hlt] at hj
        simp only [ByteArray.data_extract, Array.getElem?_map, Array.getElem?_extract] at hz
        simp at hj
        obtain ⟨q, hq, rfl⟩ := hj
        have : s.data.size = s.size := rfl
        rw [if_pos (by omega), Nat.zero_add, hq] at hz
        cases hz
        exact .int _ _
    · cases hs
  · cases hs

theorem ok_copy {o : Oper} {c : Call} {x y : Operand} {x' y' : Opd} {ty el : TypeId} {sz : Nat} (hs : SRel P T st D ι a w) (ho : o.op = .call c) (hc : c.callee = .builtin .copy) (hargs : c.args.toList = [x, y]) (ht : c.argTypes[0]? = some ty)
    (hx : compO x = some x') (hy : compO y = some y') (hu : P.underlying ty = some (.slice el)) (hsz : sizeT P el = some sz) : OkOp P T w D ι st a o (.copy sz x' y') := by
  intro nb hnb v e h
  simp only [aop, Option.bind_eq_some_iff] at h
  obtain ⟨dv, hdv, sv, hsv, ⟨cs, n⟩, hsrc, h⟩ := h
  have hDv := opd_ok hs hx hdv
  have hS := opd_ok hs hy hsv
  obtain ⟨hlen, _, _, _, hcl⟩ := src_ok (P := P) hs.h hsrc hS
  have go : ∀ (b k off len cap : Nat) (row : List AV), a.eval x = .slice (some ⟨k, off, none⟩) len cap → st.H[b]? = some (.row row) → ι b = some k → off + len * sz ≤ row.length → cs.all AV.isCell = true →
      OpRes P nb st.H D ι w ((execOp a.eval o).run P w) (.int .i64 (min n len : Nat)) (.upd b (.row (over row off (cs.take (min n len * sz))))) := fun b k off len cap row e1 hrow hk hle hall => by
    obtain ⟨xs, g1, g2⟩ := src_take (P := P) hs.h hsrc (m := min n len) (Nat.min_le_left _ _) hS
    have hmin : min n len * sz ≤ len * sz := Nat.mul_le_mul_right _ (Nat.min_le_right _ _)
    obtain ⟨w', g3, g4, g5⟩ := store_ok (P := P) (off := off) hs.h hrow hk (vs := cs.take (min n len * sz)) (by simp only [List.length_take]; omega) g2 (List.all_eq_true.2 fun u hu => List.all_eq_true.1 hall u (List.mem_of_mem_take hu))
    refine ⟨_, .int .i64 (min n len : Nat), w', ι, run_builtin ho hc (args_two hargs) fun k => ?_, .inl rfl, g4, .int _ _, g5, fun _ _ h => h, fun _ _ h => .inl h⟩
    refine run_val _ ?_
    simp only [Builtin.copy_, ht, List.getElem?_toArray, List.getElem?_cons_zero, List.getElem?_cons_succ, Sem.run_bind, under_ok hu, Result.andThen_ok, e1, hlen, size_ok hsz]
    rw [show Nat.min n len = min n len from rfl]
    simp only [g1, g3, Result.andThen_ok]
    rfl
  simp only at h
  split at h
  · rename_i b off len cap
    obtain ⟨k, hk, hl, e1⟩ := hDv.msl_inv
    split at h
    · rename_i row hrow
      split at h
      · rename_i hcond
        cases h
        exact go b k off len cap row e1 hrow hk hcond.1 hcond.2
      · cases h
    · cases h
  · rename_i b len q
    obtain ⟨k, cap, hk, hl, e1, _⟩ := hDv.gsl_inv
    split at h
    · rename_i row hrow
      split at h
      · rename_i hcond
        cases h
        exact go b k 0 len cap row e1 hrow hk (by omega) hcond.2
      · cases h
    · cases h
  · cases h

end
end Go.Abs
end

section
/- Each operation of the machine does what the walk's own operation does (10): maps, strings of bytes. Conditions: none. -/
namespace Go.Abs

section
variable {P : Program} {T : Tab} {w : World} {D : Nat → Prop} {ι : Nat → Option Nat} {H : List AB} {st : ASt} {a : Act}

/-- A key of such a type is one that a map takes. -/
theorem check_flat (em : Bool) : ∀ (d : Nat) (t : TypeId) (ks : List Nat), flatK P d t = some ks → ∀ (m : Nat), d ≤ m → ∀ (cs : List AV) (r : Bool) (x : Value), TV P w D ι t cs x → aeqs ks cs cs = some r →
    (Instr.checkKey em m t x).run P w = .ok () w := by
  intro d
  induction d with
  | zero => intro t ks h; simp [flatK] at h
  | succ d ih =>
    intro t ks h m hm cs r x hx hr
    obtain ⟨m, rfl⟩ : ∃ k, m = k + 1 := ⟨m - 1, by omega⟩
    simp only [flatK] at h
    split at h
    · rename_i hu
      split at h <;> cases h
      have hg : aggT P t = some false := by simp [aggT, hu]
      simp only [TV, hg] at hx
      obtain ⟨u, rfl, hxu⟩ := hx
      rcases aeqs_one hr with ⟨hk, _⟩ | ⟨_, b, c, rfl, h2, rfl⟩ | ⟨hk, _⟩
      · cases hk
      · cases hxu; simp [Instr.checkKey, under_ok hu]
      · cases hk
    · rename_i hu
      split at h <;> cases h
      have hg : aggT P t = some false := by simp [aggT, hu]
      simp only [TV, hg] at hx
      obtain ⟨u, rfl, hxu⟩ := hx
      rcases aeqs_one hr with ⟨_, q, i, j, rfl, h2, rfl⟩ | ⟨hk, _⟩ | ⟨hk, _⟩
      · cases hxu; simp [Instr.checkKey, under_ok hu]
      · cases hk
      · cases hk
    · rename_i hu
      split at h <;> cases h
      have hg : aggT P t = some false := by simp [aggT, hu]
      simp only [TV, hg] at hx
      obtain ⟨u, rfl, hxu⟩ := hx
      rcases aeqs_one hr with ⟨hk, _⟩ | ⟨hk, _⟩ | ⟨_, s, t', rfl, h2, rfl⟩
      · cases hk
      · cases hk
      · cases hxu; simp [Instr.checkKey, under_ok hu]
    · rename_i fs hu
      split at h
      · cases h
      · rename_i hst
        simp only [Option.bind_eq_some_iff] at h
        obtain ⟨ks', hks, h⟩ := h
        split at h <;> cases h
        rename_i hsz
        have hg : aggT P t = some true := by simp [aggT, hu]
        simp only [TV, hg] at hx
        obtain ⟨xs, rfl, hxs⟩ := hx
        obtain ⟨hl1, _⟩ := aeqs_len hr
        have mono : ∀ (l : List Field) (acc ks : List Nat), flatGo (flatK P d) l acc = some ks → ∃ rest, ks = acc ++ rest := by
          intro l
          induction l with
          | nil => intro acc ks h; cases h; exact ⟨[], by simp⟩
          | cons f l ihl =>
            intro acc ks h
            simp only [flatGo] at h
            split at h
            · simp only [Option.bind_eq_some_iff] at h
              obtain ⟨q, _, h⟩ := h
              obtain ⟨rest, rfl⟩ := ihl _ _ h
              exact ⟨q ++ rest, by simp⟩
            · cases h
        have key : ∀ (l : List Field) (acc rest : List Nat) (r : Bool), flatGo (flatK P d) l acc = some ks → ks = acc ++ rest → aeqs rest (cs.drop acc.length) (cs.drop acc.length) = some r →
            Sem.run P (forIn l PUnit.unit fun f __s =>
              if f.name ≠ "_" then do
                let __do_lift ← part f.type xs f.offset
                Instr.checkKey em m f.type __do_lift
                pure (ForInStep.yield PUnit.unit)
              else pure (ForInStep.yield PUnit.unit)) w = .ok PUnit.unit w := by
          intro l
          induction l with
          | nil => intro acc rest r hgo he hr'; rfl
          | cons f l ihl =>
            intro acc rest r hgo he hr'
            simp only [flatGo] at hgo
            split at hgo
            · rename_i hcond
              simp only [Bool.and_eq_true, bne_iff_ne, ne_eq, beq_iff_eq] at hcond
              simp only [Option.bind_eq_some_iff] at hgo
              obtain ⟨q, hq, hgo⟩ := hgo
              obtain ⟨rest', he'⟩ := mono _ _ _ hgo
              have hrest : rest = q ++ rest' := by rw [he] at he'; simpa using he'
              subst hrest
              obtain ⟨r1, r2, h1, h2, rfl⟩ := aeqs_append q rest' hr'
              obtain ⟨hsq, g, hgq, hg1⟩ := flatK_facts hq
              have hlen : acc.length + q.length ≤ cs.length := by rw [hl1, he]; simp
              obtain ⟨px, hp1, hp2⟩ := part_ok (off := acc.length) hgq hsq hg1 hxs hlen
              have heq := ih f.type q hq m (by omega) _ r1 px hp2 h1
              have ihr := ihl (acc ++ q) rest' r2 hgo he' (by
                rw [List.length_append, ← List.drop_drop]; exact h2)
              rw [List.forIn_cons]
              simp only [ne_eq, hcond.1, not_false_eq_true, if_true, hcond.2, Sem.run_bind, hp1, heq, Result.andThen_ok, Sem.run_pure]
              exact ihr
            · cases hgo
        have hk := key fs.toList [] ks r hks (by simp) (by simpa using hr)
        simp only [Instr.checkKey, Sem.run_bind, under_ok hu, Result.andThen_ok]
        rw [← Array.forIn_toList, hk]
        rfl
    · rename_i n e hu
      simp only [Option.bind_eq_some_iff] at h
      obtain ⟨ks', hks, h⟩ := h
      split at h <;> cases h
      rename_i hsz
      have hg : aggT P t = some true := by simp [aggT, hu]
      simp only [TV, hg] at hx
      obtain ⟨xs, rfl, hxs⟩ := hx
      obtain ⟨hl1, _⟩ := aeqs_len hr
      obtain ⟨hsq, g, hgq, hg1⟩ := flatK_facts hks
      have key : ∀ (j i : Nat) (r : Bool), i + j = n → aeqs (List.replicate j ks').flatten (cs.drop (i * ks'.length)) (cs.drop (i * ks'.length)) = some r →
          Sem.run P (forIn (List.range' i j) PUnit.unit fun i __s => do
            let __do_lift ← sizeOf e
            let __do_lift ← part e xs (i * __do_lift)
            Instr.checkKey em m e __do_lift
            pure (ForInStep.yield PUnit.unit)) w = .ok PUnit.unit w := by
        intro j
        induction j with
        | zero => intro i r hi hr'; rfl
        | succ j ihj =>
          intro i r hi hr'
          rw [List.replicate_succ, List.flatten_cons] at hr'
          obtain ⟨r1, r2, h1, h2, rfl⟩ := aeqs_append ks' _ hr'
          have hb : i * ks'.length + ks'.length ≤ n * ks'.length := by
            have := Nat.mul_le_mul_right ks'.length (show i + 1 ≤ n by omega)
            rw [Nat.add_mul] at this; omega
          have hn : (List.replicate n ks').flatten.length = n * ks'.length := by simp
          obtain ⟨px, hp1, hp2⟩ := part_ok (off := i * ks'.length) hgq hsq hg1 hxs (by rw [hl1, hn]; exact hb)
          have heq := ih e ks' hks m (by omega) _ r1 px hp2 h1
          have ihr := ihj (i + 1) r2 (by omega) (by
            rw [show (i + 1) * ks'.length = i * ks'.length + ks'.length from by rw [Nat.add_mul]; omega, ← List.drop_drop]; exact h2)
          rw [List.range'_succ, List.forIn_cons]
          simp only [Sem.run_bind, hp1, heq, Result.andThen_ok, size_ok hsq, Sem.run_pure]
          exact ihr
      have hk := key n 0 r (by omega) (by simpa using hr)
      simp only [Instr.checkKey, Sem.run_bind, under_ok hu, Result.andThen_ok]
      rw [Std.Legacy.Range.forIn_eq_forIn_range']
      simp only [Std.Legacy.Range.size, Nat.sub_zero, Nat.add_sub_cancel, Nat.div_one]
      rw [hk]
      rfl
    · cases h

/-- The cells of a key. -/
def keyC (g : Bool) (v : AV) : Option (List AV) := if g then (match v with | .agg cs => some cs | _ => none) else some [v]

theorem keq_cells {g : Bool} {ks : List Nat} {x y : AV} {r : Bool} (h : keq g ks x y = some r) : ∃ cs ds, keyC g x = some cs ∧ keyC g y = some ds ∧ aeqs ks cs ds = some r := by
  unfold keq at h
  cases g with
  | false => exact ⟨[x], [y], rfl, rfl, by simpa using h⟩
  | true =>
    simp only [if_true] at h
    split at h
    · exact ⟨_, _, rfl, rfl, h⟩
    · cases h

theorem key_tv {g : Bool} {t : TypeId} (hg : aggT P t = some g) {v : AV} {cs : List AV} {x : Value} (hk : keyC g v = some cs) (hv : VRel w D ι v x) : TV P w D ι t cs x := by
  unfold TV
  cases g with
  | false => simp [keyC] at hk; subst hk; rw [hg]; exact ⟨v, rfl, hv⟩
  | true =>
    simp only [keyC, if_true] at hk
    split at hk
    · cases hk
      rw [hg]
      cases hv with
      | agg h1 h2 => exact ⟨_, rfl, h1, h2⟩
    · cases hk

theorem bytes_eq {a b : ByteArray} (h : (a == b) = true) : a = b := by
  obtain ⟨x⟩ := a
  obtain ⟨y⟩ := b
  have : x = y := by simpa using (show (x == y) = true from h)
  rw [this]

theorem bytes_refl (a : ByteArray) : (a == a) = true := by
  obtain ⟨x⟩ := a
  show (x == x) = true
  simp

theorem sameNow_equal {kt : TypeId} {d : TypeDesc} {x y : Value} {t : Bool} (hu : P.underlying kt = some d) (h : Instr.sameNow d x y = some t) : (Op.equal kt x y).run P w = .ok t w := by
  have key : ∀ n, (Op.equalIn (n + 1) kt x y).run P w = .ok t w := fun n => by
    unfold Instr.sameNow at h
    split at h
    · split at h
      · rename_i hk
        cases h
        simp [Op.equalIn, under_ok hu, hk]
      · cases h
    · cases h; simp [Op.equalIn, under_ok hu]
    · cases h; simp [Op.equalIn, under_ok hu]
    · cases h
  exact key 9999

/-- Cells that are alike are the same. -/
theorem aeqs_same : ∀ {ks : List Nat} {cs ds : List AV}, aeqs ks cs ds = some true → ∀ {xs ys : List Value}, xs.length = cs.length → ys.length = ds.length → (∀ (j : Nat) (v : AV) (x : Value), cs[j]? = some v → xs[j]? = some x → VRel w D ι v x) →
    (∀ (j : Nat) (v : AV) (x : Value), ds[j]? = some v → ys[j]? = some x → VRel w D ι v x) → xs = ys ∧ ∀ x ∈ xs, ∀ n, Instr.sameBits n x x = true := by
  intro ks
  induction ks with
  | nil =>
    intro cs ds h xs ys h1 h2 _ _
    have := aeqs_len h
    have e1 : xs = [] := List.length_eq_zero_iff.1 (by rw [h1, this.1]; rfl)
    have e2 : ys = [] := List.length_eq_zero_iff.1 (by rw [h2, this.2]; rfl)
    subst e1 e2
    exact ⟨rfl, fun x hx => by cases hx⟩
  | cons k ks ih =>
    intro cs ds h xs ys h1 h2 h3 h4
    obtain ⟨r1, r2, g1, g2, g3⟩ := aeqs_append [k] ks h
    have hl := aeqs_len h
    match cs, ds, hl with
    | c :: cs, d :: ds, _ =>
      match xs, ys, h1, h2 with
      | x :: xs, y :: ys, h1, h2 =>
        simp only [List.length_cons, List.length_nil, List.take_succ_cons, List.take_zero, List.drop_succ_cons, List.drop_zero] at g1 g2
        have hr : r1 = true ∧ r2 = true := by simpa using g3.symm
        obtain ⟨rfl, rfl⟩ := hr
        obtain ⟨e, hsb⟩ := ih g2 (by simpa using h1) (by simpa using h2) (fun j v x a b => h3 (j + 1) v x (by simpa using a) (by simpa using b)) (fun j v x a b => h4 (j + 1) v x (by simpa using a) (by simpa using b))
        have hx := h3 0 _ _ rfl rfl
        have hy := h4 0 _ _ rfl rfl
        have hxy : x = y ∧ ∀ n, Instr.sameBits n x x = true := by
          rcases aeqs_one g1 with ⟨_, q, m, n, rfl, rfl, hb⟩ | ⟨_, b, c, rfl, rfl, hb⟩ | ⟨_, s, t, rfl, rfl, hb⟩
          · have : m = n := by simpa using hb.symm
            subst this
            rw [hx.int_inv, hy.int_inv]
            exact ⟨rfl, fun n => by simp [Instr.sameBits]⟩
          · have : b = c := by simpa using hb.symm
            subst this
            rw [hx.bool_inv, hy.bool_inv]
            exact ⟨rfl, fun n => by simp [Instr.sameBits]⟩
          · have := bytes_eq hb.symm
            subst this
            rw [hx.str_inv, hy.str_inv]
            exact ⟨rfl, fun n => by simp [Instr.sameBits, bytes_refl]⟩
        obtain ⟨rfl, hb⟩ := hxy
        subst e
        exact ⟨rfl, fun z hz n => by
          rcases List.mem_cons.1 hz with rfl | hz
          · exact hb n
          · exact hsb z hz n⟩

theorem key_same {g : Bool} {ks : List Nat} {u v : AV} {x y : Value} (h : keq g ks u v = some true) (hx : VRel w D ι u x) (hy : VRel w D ι v y) : x = y ∧ ∀ n, Instr.sameBits (n + 1) x x = true := by
  obtain ⟨cs, ds, h1, h2, h3⟩ := keq_cells h
  cases g with
  | false =>
    simp only [keyC, Bool.false_eq_true, if_false, Option.some.injEq] at h1 h2
    subst h1 h2
    obtain ⟨e, hs⟩ := aeqs_same (w := w) (D := D) (ι := ι) h3 (xs := [x]) (ys := [y]) rfl rfl (fun j v z a b => by
      cases j with
      | zero => simp at a b; subst a b; exact hx
      | succ j => simp at a) (fun j v z a b => by
      cases j with
      | zero => simp at a b; subst a b; exact hy
      | succ j => simp at a)
    exact ⟨by simpa using e, fun n => hs x (by simp) _⟩
  | true =>
    simp only [keyC, if_true] at h1 h2
    split at h1
    · split at h2
      · cases h1; cases h2
        cases hx with
        | agg a1 a2 =>
          cases hy with
          | agg b1 b2 =>
            rename_i xs ys
            obtain ⟨e, hs⟩ := aeqs_same (w := w) (D := D) (ι := ι) h3 (xs := xs.toList) (ys := ys.toList) (by simpa using a1) (by simpa using b1) (by simpa using a2) (by simpa using b2)
            refine ⟨by rw [Array.toList_inj.1 e], fun n => ?_⟩
            simp only [Instr.sameBits, beq_self_eq_true, Bool.true_and, List.all_eq_true]
            intro p hp
            have : p.1 = p.2 ∧ p.1 ∈ xs.toList := by
              have hz : ∀ (l : List Value) (p : Value × Value), p ∈ l.zip l → p.1 = p.2 ∧ p.1 ∈ l := by
                intro l
                induction l with
                | nil => intro p hp; simp at hp
                | cons z l ih =>
                  intro p hp
                  simp only [List.zip_cons_cons, List.mem_cons] at hp
                  rcases hp with rfl | hp
                  · exact ⟨rfl, by simp⟩
                  · exact ⟨(ih p hp).1, List.mem_cons_of_mem _ (ih p hp).2⟩
              exact hz _ p hp
            obtain ⟨p1, p2⟩ := p
            obtain ⟨h12, hm⟩ := this
            simp only at h12 hm
            subst h12
            exact hs _ hm n
      · cases h2
    · cases h1

def FindRel (w : World) (D : Nat → Prop) (ι : Nat → Option Nat) (g : Bool) (ks : List Nat) (es : List (AV × AV)) (kv : AV) (i : Nat) : Option (Nat × AV) → Option (Nat × Value) → Prop
  | none, none => True
  | some (n, v), some (n', x) => n' = n + i ∧ VRel w D ι v x ∧ ∃ p, es[n]? = some p ∧ keq g ks kv p.1 = some true
  | _, _ => False

/-- Where a key lies among a map's entries. -/
theorem find_ok {kt : TypeId} {g : Bool} {ks : List Nat} (hk : flatK P 20 kt = some ks) (hg : aggT P kt = some g) {kv : AV} {kx : Value} (hkv : VRel w D ι kv kx) : ∀ {es : List (AV × AV)} {en : List MapEntry} {r : Option (Nat × AV)} (i : Nat),
    en.length = es.length → (∀ (j : Nat) (p : AV × AV) (e : MapEntry), es[j]? = some p → en[j]? = some e → VRel w D ι p.1 e.key ∧ VRel w D ι p.2 e.val) → findE g ks es kv = some r →
    ∃ r' : Option (Nat × Value), (Instr.findAsking kt kx en i).run P w = .ok r' w ∧ (∀ d q, P.underlying kt = some d → Instr.findNow d kx en i = some q → q = r') ∧
      FindRel w D ι g ks es kv i r r' := by
  intro es
  induction es with
  | nil =>
    intro en r i hl hes hf
    have : en = [] := List.length_eq_zero_iff.1 hl
    subst this
    cases hf
    exact ⟨none, rfl, fun d q _ h => by cases h; rfl, trivial⟩
  | cons p es ih =>
    intro en r i hl hes hf
    obtain ⟨q, v⟩ := p
    cases en with
    | nil => simp at hl
    | cons e en =>
      obtain ⟨hq, hv⟩ := hes 0 _ _ rfl rfl
      simp only [findE, Option.bind_eq_some_iff] at hf
      obtain ⟨b, hb, hf⟩ := hf
      obtain ⟨cs, ds, hc1, hc2, hae⟩ := keq_cells hb
      have heq : (Op.equal kt kx e.key).run P w = .ok b w := eq_flat 20 kt ks hk 10000 (by decide) cs ds b kx e.key (key_tv hg hc1 hkv) (key_tv hg hc2 hq) hae
      have hnow : ∀ d t, P.underlying kt = some d → Instr.sameNow d kx e.key = some t → t = b := fun d t hu ht => by
        have h1 := sameNow_equal (w := w) hu ht
        rw [heq] at h1
        cases h1; rfl
      cases b with
      | true =>
        simp only [if_true] at hf
        cases hf
        refine ⟨some (i, e.val), by simp [Instr.findAsking, heq], fun d q' hu hn => ?_, by simp, hv, (q, v), rfl, hb⟩
        simp only [Instr.findNow] at hn
        split at hn
        · cases hn; rfl
        · rename_i hs; exact absurd (hnow d _ hu hs) (by simp)
        · cases hn
      | false =>
        simp only [Bool.false_eq_true, if_false, Option.map_eq_some_iff] at hf
        obtain ⟨r0, hr0, rfl⟩ := hf
        obtain ⟨r', h1, h2, h3⟩ := ih (i + 1) (by simpa using hl) (fun j p e a b => hes (j + 1) p e (by simpa using a) (by simpa using b)) hr0
        refine ⟨r', by simp [Instr.findAsking, heq, h1], fun d q' hu hn => ?_, ?_⟩
        · simp only [Instr.findNow] at hn
          split at hn
          · rename_i hs; exact absurd (hnow d _ hu hs) (by simp)
          · exact h2 d q' hu hn
          · cases hn
        · cases r0 with
          | none => cases r' <;> exact h3
          | some p0 =>
            cases r' with
            | none => exact h3
            | some p1 =>
              obtain ⟨e1, e2, p, e3, e4⟩ := h3
              exact ⟨by simp [e1]; omega, e2, p, by simpa using e3, e4⟩

theorem findKey_ok {kt : TypeId} {g : Bool} {ks : List Nat} (hk : flatK P 20 kt = some ks) (hg : aggT P kt = some g) {kv : AV} {kx : Value} (hkv : VRel w D ι kv kx) {es : List (AV × AV)} {en : Array MapEntry} {r : Option (Nat × AV)}
    (hl : en.size = es.length) (hes : ∀ (j : Nat) (p : AV × AV) (e : MapEntry), es[j]? = some p → en[j]? = some e → VRel w D ι p.1 e.key ∧ VRel w D ι p.2 e.val) (hf : findE g ks es kv = some r) :
    ∃ r' : Option (Nat × Value), (Instr.findKey kt kx en.toList).run P w = .ok r' w ∧
      FindRel w D ι g ks es kv 0 r r' := by
  obtain ⟨r', h1, h2, h3⟩ := find_ok (P := P) (w := w) hk hg hkv 0 (en := en.toList) (by simpa using hl) (by simpa using hes) hf
  refine ⟨r', ?_, h3⟩
  have hu : ∃ d, P.underlying kt = some d := by
    unfold aggT at hg
    split at hg
    · exact ⟨_, by assumption⟩
    · exact ⟨_, by assumption⟩
    · exact ⟨_, by assumption⟩
    · cases hg
  obtain ⟨d, hd⟩ := hu
  simp only [Instr.findKey, Sem.run_bind, under_ok hd, Result.andThen_ok]
  split
  · rename_i q hq
    rw [h2 d q hd hq]; rfl
  · exact h1

theorem VRel.mp_inv {b : Nat} {x : Value} (h : VRel w D ι (.mp b) x) : ∃ k, ι b = some k ∧ x = .map (some k) := by cases h; exact ⟨_, ‹_›, rfl⟩

theorem ok_lkp {o : Oper} {t kt el : TypeId} {x y : Operand} {x' y' : Opd} {okb : Bool} {g : Bool} {ks : List Nat} {z : AV} (hs : SRel P T st D ι a w) (ho : o.op = .lookup t x y okb) (hx : compO x = some x') (hy : compO y = some y')
    (hu : P.underlying t = some (.map kt el)) (hk : flatK P 20 kt = some ks) (hg : aggT P kt = some g) (hz : zeroVT P el = some z) : OkOp P T w D ι st a o (.lkp g ks z x' y' okb) := by
  intro nb hnb v e h
  simp only [aop] at h
  split at h
  · rename_i b kv hm hkv
    split at h
    · rename_i es hrow
      simp only [Option.bind_eq_some_iff, Option.map_eq_some_iff] at h
      obtain ⟨r0, hr0, r, hr, h⟩ := h
      obtain ⟨k, hk', e1⟩ := (opd_ok hs hx hm).mp_inv
      have hK := opd_ok hs hy hkv
      obtain ⟨en, cl, hen, hle, hent, hst⟩ := (hs.h.blk b _ k hrow rfl hk').2
      obtain ⟨r', g1, g2⟩ := findKey_ok (P := P) hk hg hK hle hent hr
      obtain ⟨cs, ds, hc1, hc2, hae⟩ := keq_cells hr0
      rw [hc1] at hc2; cases hc2
      have hck := check_flat (P := P) (w := w) en.isEmpty 20 kt ks hk 10000 (by decide) cs r0 _ (key_tv hg hc1 hK) hae
      have hobj : (getObj k).run P w = .ok (.map en cl) w := by simp [getObj, Sem.run, hen]
      obtain ⟨zx, hz1, hz2⟩ := zeroV (P := P) (w := w) (D := D) (ι := ι) hz
      cases r with
      | none =>
        cases r' with
        | some _ => exact g2.elim
        | none =>
          cases h
          refine res_no hs.h (x := if okb then .tuple #[zx, .bool false] else zx) ?_ ?_
          · simp [execOp, ho, e1, Instr.lookup, under_ok hu, hobj, hck, g1, hz1]
          · cases okb
            · exact hz2
            · exact pair_ok hz2 (.bool _)
      | some p =>
        cases r' with
        | none => exact g2.elim
        | some q =>
          cases h
          obtain ⟨n, v⟩ := p
          obtain ⟨n', x⟩ := q
          refine res_no hs.h (x := if okb then .tuple #[x, .bool true] else x) ?_ ?_
          · simp [execOp, ho, e1, Instr.lookup, under_ok hu, hobj, hck, g1]
          · cases okb
            · exact g2.2.1
            · exact pair_ok g2.2.1 (.bool _)
    · cases h
  · cases h

theorem stamps_push {en : Array MapEntry} {cl : Nat} (h : Stamps en cl) (x y : Value) : Stamps (en.push { key := x, val := y, born := cl }) (cl + 1) := by
  obtain ⟨h1, h2⟩ := h
  refine ⟨fun e he => ?_, ?_⟩
  · rw [Array.toList_push, List.mem_append] at he
    rcases he with he | he
    · exact Nat.lt_succ_of_lt (h1 e he)
    · simp at he; subst he; exact Nat.lt_succ_self _
  · rw [Array.toList_push, List.map_append, List.nodup_append]
    refine ⟨h2, by simp, fun a ha b hb => ?_⟩
    obtain ⟨e, he, rfl⟩ := List.mem_map.1 ha
    simp at hb
    subst hb
    exact Nat.ne_of_lt (h1 e he)

theorem stamps_modify {en : Array MapEntry} {cl : Nat} (h : Stamps en cl) (n : Nat) (x y : Value) : Stamps (en.modify n fun e => { e with key := x, val := y }) cl := by
  obtain ⟨h1, h2⟩ := h
  have hb : (en.modify n fun e => { e with key := x, val := y }).toList.map (·.born) = en.toList.map (·.born) := by
    apply List.ext_getElem?
    intro i
    simp only [List.getElem?_map, Array.getElem?_toList, Array.getElem?_modify]
    split
    · cases en[i]? <;> rfl
    · rfl
  refine ⟨fun e he => ?_, by rw [hb]; exact h2⟩
  have : e.born ∈ (en.modify n fun e => { e with key := x, val := y }).toList.map (·.born) := List.mem_map.2 ⟨e, he, rfl⟩
  rw [hb] at this
  obtain ⟨e', he', hh⟩ := List.mem_map.1 this
  rw [← hh]; exact h1 e' he'

theorem ok_mset {o : Oper} {t kt el : TypeId} {x y u : Operand} {x' y' u' : Opd} {g : Bool} {ks : List Nat} (hs : SRel P T st D ι a w) (ho : o.op = .mapUpdate t x y u ∨ o.op = .insert t x y u) (hx : compO x = some x') (hy : compO y = some y') (hz : compO u = some u')
    (hu : P.underlying t = some (.map kt el)) (hk : flatK P 20 kt = some ks) (hg : aggT P kt = some g) : OkOp P T w D ι st a o (.mset g ks x' y' u') := by
  intro nb hnb v e h
  simp only [aop] at h
  split at h
  · rename_i b kv uv hm hkv huv
    split at h
    · rename_i es hrow
      simp only [Option.bind_eq_some_iff, Option.map_eq_some_iff] at h
      obtain ⟨r0, hr0, r, hr, h⟩ := h
      obtain ⟨k, hk', e1⟩ := (opd_ok hs hx hm).mp_inv
      have hK := opd_ok hs hy hkv
      have hU := opd_ok hs hz huv
      obtain ⟨en, cl, hen, hle, hent, hst⟩ := (hs.h.blk b _ k hrow rfl hk').2
      obtain ⟨r', g1, g2⟩ := findKey_ok (P := P) hk hg hK hle hent hr
      obtain ⟨cs, ds, hc1, hc2, hae⟩ := keq_cells hr0
      rw [hc1] at hc2; cases hc2
      have hck := check_flat (P := P) (w := w) false 20 kt ks hk 10000 (by decide) cs r0 _ (key_tv hg hc1 hK) hae
      have hobj : (getObj k).run P w = .ok (.map en cl) w := by simp [getObj, Sem.run, hen]
      have hset : ∀ ob, (setObj k ob).run P w = .ok () { w with heap := w.heap.setIfInBounds k ob, drawn := w.drawn } := fun ob => by simp [setObj, Sem.run, hen]
      have hex : ∀ w', (Instr.mapUpdate t (a.eval x) (a.eval y) (a.eval u)).run P w = .ok () w' → (execOp a.eval o).run P w = .ok .skip w' := fun w' h => by
        rcases ho with ho | ho <;> simp [execOp, ho, h]
      have fin : ∀ (en' : Array MapEntry) (cl' : Nat) (es' : List (AV × AV)), (Instr.mapUpdate t (a.eval x) (a.eval y) (a.eval u)).run P w = .ok () { w with heap := w.heap.setIfInBounds k (.map en' cl'), drawn := w.drawn } → en'.size = es'.length →
          (∀ (j : Nat) (p : AV × AV) (e : MapEntry), es'[j]? = some p → en'[j]? = some e → VRel w D ι p.1 e.key ∧ VRel w D ι p.2 e.val) → Stamps en' cl' → OpRes P nb st.H D ι w ((execOp a.eval o).run P w) (.tup []) (.upd b (.map es')) := fun en' cl' es' h1 h2 h3 h4 => by
        have hext := ext_upd (B := .map es') (n := w.drawn) (o' := .map en' cl') hs.h hrow rfl hk' (fun c e f h => by cases h)
        refine ⟨.skip, undef, _, ι, hex _ h1, .inr ⟨rfl, rfl⟩, hrel_upd hs.h hrow rfl hk' (fun c e f h => by cases h) ?_, .tup rfl (fun j v x h => by simp at h), hext, fun _ _ h => h, fun _ _ h => .inl h⟩
        refine ⟨en', cl', by simp only [Array.getElem?_setIfInBounds]; rw [if_pos trivial, if_pos (Array.getElem?_eq_some_iff.1 hen).1], h2, fun j p e hp he => ?_, h4⟩
        exact ⟨hs.h.vrel hext (fun _ _ h => h) (h3 j p e hp he).1, hs.h.vrel hext (fun _ _ h => h) (h3 j p e hp he).2⟩
      cases r with
      | none =>
        cases r' with
        | some _ => exact g2.elim
        | none =>
          cases h
          refine fin (en.push { key := a.eval y, val := a.eval u, born := cl }) (cl + 1) _ ?_ (by simp [hle]) (fun j p e hp he => ?_) (stamps_push hst _ _)
          · simp [Instr.mapUpdate, under_ok hu, e1, hobj, hck, g1, hset]
          · by_cases hj : j < es.length
            · rw [List.getElem?_append_left hj] at hp
              rw [Array.getElem?_push_lt (by omega), ← Array.getElem?_eq_getElem] at he
              exact hent j p e hp he
            · rw [List.getElem?_append_right (by omega)] at hp
              have h1 := (List.getElem?_eq_some_iff.1 hp).1
              simp at h1
              have : j = es.length := by omega
              subst this
              rw [← hle, Array.getElem?_push_size] at he
              simp at hp
              cases he
              rw [← hp]
              exact ⟨hK, hU⟩
      | some p =>
        cases r' with
        | none => exact g2.elim
        | some q =>
          cases h
          obtain ⟨n, v⟩ := p
          obtain ⟨n', x'⟩ := q
          obtain ⟨hn, hv, p, hp, hkp⟩ := g2
          rw [Nat.add_zero] at hn
          subst hn
          have hlt : n' < en.size := by rw [hle]; exact (List.getElem?_eq_some_iff.1 hp).1
          have hen' := hent n' p en[n'] hp (Array.getElem?_eq_getElem hlt)
          obtain ⟨hsame, hbits⟩ := key_same hkp hK hen'.1
          refine fin (en.modify n' fun e => { e with key := a.eval y, val := a.eval u }) cl _ ?_ (by simp [hle]) (fun j q e hq he => ?_) (stamps_modify hst _ _ _)
          · have hbb : Instr.sameBits 10000 en[n'].key (a.eval y) = true := by rw [← hsame]; exact hbits 9999
            simp [Instr.mapUpdate, under_ok hu, e1, hobj, hck, g1, hset, hlt, Instr.keyThatStays, hbb]
          · rw [List.getElem?_set] at hq
            rw [Array.getElem?_modify] at he
            split at hq
            · rename_i hj
              subst hj
              rw [if_pos rfl, Array.getElem?_eq_getElem hlt] at he
              split at hq
              · cases hq; cases he; exact ⟨hK, hU⟩
              · cases hq
            · rename_i hj
              rw [if_neg hj] at he
              exact hent j q e hq he
    · cases h
  · cases h

theorem push_bytes : ∀ (cs : List AV) (ys : List Value) (l : List UInt8) (s : ByteArray), optAll (fun v => match v with | AV.int .u8 m => some (UInt8.ofNat m.toNat) | _ => none) cs = some l → ys.length = cs.length →
    (∀ (j : Nat) (v : AV) (x : Value), cs[j]? = some v → ys[j]? = some x → VRel w D ι v x) →
    Sem.run P (forIn ys s fun c __s => (match c with
      | .int .u8 n => pure (ForInStep.yield (__s.push (UInt8.ofNat n.toNat)))
      | _ => do
        stuck "bytesToString: byte expected"
        pure (ForInStep.yield __s) : Sem (ForInStep ByteArray))) w = .ok ⟨s.data ++ l.toArray⟩ w := by
  intro cs
  induction cs with
  | nil =>
    intro ys l s h hl _
    have : ys = [] := List.length_eq_zero_iff.1 (by simpa using hl)
    subst this
    cases h
    simp
  | cons c cs ih =>
    intro ys l s h hl hv
    match ys, hl with
    | y :: ys, hl =>
      simp only [optAll, Option.bind_eq_some_iff, Option.map_eq_some_iff] at h
      obtain ⟨b, hb, l', hl', rfl⟩ := h
      have h0 := hv 0 c y rfl rfl
      split at hb
      · rename_i m
        cases hb
        have hy := h0.int_inv
        subst hy
        rw [List.forIn_cons]
        simp only [Sem.run_bind, Sem.run_pure, Result.andThen_ok]
        rw [ih ys l' _ hl' (by simpa using hl) (fun j v x a b => hv (j + 1) v x (by simpa using a) (by simpa using b))]
        congr 1
        simp [ByteArray.push]
      · cases hb

/-- A string made of bytes. -/
theorem ok_b2s {o : Oper} {s d el : TypeId} {x : Operand} {y : Opd} (hs : SRel P T st D ι a w) (ho : o.op = .convert s d x) (hx : compO x = some y) (h1 : P.underlying s = some (.slice el)) (h2 : P.underlying d = some .string) (h3 : P.underlying el = some (.int .u8)) : OkOp P T w D ι st a o (.b2s y) := by
  intro nb hnb v e h
  simp only [aop, Option.bind_eq_some_iff, Option.map_eq_some_iff] at h
  obtain ⟨u, hu, ⟨cs, n⟩, hsrc, l, hl, h⟩ := h
  cases h
  have hv := opd_ok hs hx hu
  have hsrc' : srcOf (st.H[·]?) 1 u = some (cs, n) ∧ ∀ s, u ≠ .str s := by
    unfold srcOfS at hsrc
    split at hsrc
    · cases hsrc
    · rename_i hn; exact ⟨hsrc, fun s h => hn s h⟩
  obtain ⟨_, xs, g1, g2, g3⟩ := src_ok (P := P) hs.h hsrc'.1 hv
  have hsl : ∃ p cap, a.eval x = .slice p n cap := by
    have hlen := (src_ok (P := P) hs.h hsrc'.1 hv).1
    generalize a.eval x = q at hlen hv
    cases q <;> simp [Builtin.lenOf] at hlen
    · cases hv; exact absurd rfl (hsrc'.2 _)
    · subst hlen; exact ⟨_, _, rfl⟩
  obtain ⟨p, cap, e1⟩ := hsl
  refine res_no hs.h (x := .string ⟨l.toArray⟩) ?_ (.str _)
  rw [e1] at g1
  have hconv : (Conv.bytesToString (.slice p n cap)).run P w = .ok (.string ⟨l.toArray⟩) w := by
    cases p with
    | none =>
      simp [Builtin.firstCells] at g1
      subst g1
      have : cs = [] := List.length_eq_zero_iff.1 (by rw [← g2.1]; rfl)
      subst this
      cases hl
      rfl
    | some p =>
      simp only [Builtin.firstCells, Nat.mul_one] at g1
      have := push_bytes (P := P) cs xs.toList l .empty hl (by simpa using g2.1) (by simpa using g2.2)
      simp only [Conv.bytesToString, Sem.run_bind, g1, Result.andThen_ok]
      rw [← Array.forIn_toList]
      refine (congrArg (fun r : Result ByteArray => r.andThen fun a w' => Sem.run P (pure (Value.string a)) w') this).trans ?_
      have he : ByteArray.empty.data ++ l.toArray = l.toArray := by
        have : ByteArray.empty.data = #[] := rfl
        rw [this]; simp
      rw [he]
      rfl
  simp [execOp, ho, e1, Go.convert, under_ok h1, under_ok h2, under_ok h3, hconv]

end
end Go.Abs
end

section
/- Each operation of the machine does what the walk's own operation does (11): all of them. Conditions: none. -/
namespace Go.Abs

section
variable {P : Program} {T : Tab} {w : World} {D : Nat → Prop} {ι : Nat → Option Nat} {H : List AB} {st : ASt} {a : Act}

/-- An operation that neither calls nor panics. -/
def AOp.tame : AOp → Bool
  | .pan _ | .rcv | .dfr _ _ | .call _ _ _ | .inv _ _ _ _ => false
  | _ => true

theorem compOs_cons {l : List Operand} {x' : Opd} {r : List Opd} (h : compOs l = some (x' :: r)) : ∃ x l', l = x :: l' ∧ compO x = some x' ∧ compOs l' = some r := by
  cases l with
  | nil => cases h
  | cons x l =>
    simp only [compOs, Option.bind_eq_some_iff, Option.map_eq_some_iff] at h
    obtain ⟨a, ha, s, hs, he⟩ := h
    cases he
    exact ⟨x, l, rfl, ha, hs⟩

theorem compOs_nil {l : List Operand} (h : compOs l = some []) : l = [] := by
  cases l with
  | nil => rfl
  | cons x l =>
    simp only [compOs, Option.bind_eq_some_iff, Option.map_eq_some_iff] at h
    obtain ⟨a, ha, s, hs, he⟩ := h
    cases he

theorem compOs_two {l : List Operand} {x' y' : Opd} (h : compOs l = some [x', y']) : ∃ x y, l = [x, y] ∧ compO x = some x' ∧ compO y = some y' := by
  obtain ⟨x, l, rfl, hx, h⟩ := compOs_cons h
  obtain ⟨y, l, rfl, hy, h⟩ := compOs_cons h
  cases compOs_nil h
  exact ⟨x, y, rfl, hx, hy⟩

theorem compOs_one {l : List Operand} {x' : Opd} (h : compOs l = some [x']) : ∃ x, l = [x] ∧ compO x = some x' := by
  obtain ⟨x, l, rfl, hx, h⟩ := compOs_cons h
  cases compOs_nil h
  exact ⟨x, rfl, hx⟩

theorem call_ok {o : Oper} {c : Call} {op : AOp} (hs : SRel P T st D ι a w) (ho : o.op = .call c) (hc : compCall P c = some op) (ht : op.tame = true) : OkOp P T w D ι st a o op := by
  unfold compCall at hc
  split at hc
  · simp only [Option.bind_eq_some_iff, Option.map_eq_some_iff] at hc
    obtain ⟨f, _, xs, _, rfl⟩ := hc
    simp [AOp.tame] at ht
  · simp only [Option.bind_eq_some_iff, Option.map_eq_some_iff] at hc
    obtain ⟨f, _, xs, _, rfl⟩ := hc
    simp [AOp.tame] at ht
  · cases hc; simp [AOp.tame] at ht
  · rename_i b _ hcal
    simp only [Option.bind_eq_some_iff] at hc
    obtain ⟨xs, hxs, hc⟩ := hc
    split at hc
    · obtain ⟨x, hl, hx⟩ := compOs_one hxs
      split at hc
      · rename_i hu
        simp only [Option.bind_eq_some_iff] at hu
        obtain ⟨t, h1, h2⟩ := hu
        cases hc
        exact ok_lent hs ho hcal hl hx h1 h2
      · rename_i hu
        simp only [Option.bind_eq_some_iff] at hu
        obtain ⟨t, h1, h2⟩ := hu
        cases hc
        exact ok_len hs ho hcal hl hx h1 h2
      · rename_i hu
        simp only [Option.bind_eq_some_iff] at hu
        obtain ⟨t, h1, h2⟩ := hu
        cases hc
        exact ok_lena hs ho hcal hl h1 (.inl ⟨_, h2⟩)
      · rename_i hu
        simp only [Option.bind_eq_some_iff] at hu
        obtain ⟨t, h1, h2⟩ := hu
        split at hc
        · rename_i h3
          cases hc
          exact ok_lena hs ho hcal hl h1 (.inr ⟨_, _, h2, h3⟩)
        · cases hc
      · cases hc
    · obtain ⟨x, hl, hx⟩ := compOs_one hxs
      split at hc
      · rename_i hu
        simp only [Option.bind_eq_some_iff] at hu
        obtain ⟨t, h1, h2⟩ := hu
        cases hc
        exact ok_cap hs ho hcal hl hx h1 h2
      · cases hc
    · obtain ⟨x, y, hl, hx, hy⟩ := compOs_two hxs
      split at hc
      · cases hc
      · rename_i hni hu hv
        simp only [Option.bind_eq_some_iff] at hu hv hc
        obtain ⟨t, h1, h2⟩ := hu
        obtain ⟨t', h3, h4⟩ := hv
        obtain ⟨i, hi, z, hz, hc⟩ := hc
        split at hc
        · cases hc
        · rename_i hcond
          cases hc
          exact ok_app hs ho hcal hl h1 h3 hx hy h2 h4 (fun k hk => hni k hk) hi hz (Decidable.not_not.1 fun h => hcond (.inr (.inr h))) (fun h => hcond (.inl h))
      · cases hc
    · obtain ⟨x, y, hl, hx, hy⟩ := compOs_two hxs
      split at hc
      · rename_i hu
        simp only [Option.bind_eq_some_iff] at hu hc
        obtain ⟨t, h1, h2⟩ := hu
        obtain ⟨n, hn, hc⟩ := hc
        split at hc
        · cases hc
        · cases hc
          exact ok_copy hs ho hcal hl h1 hx hy h2 hn
      · cases hc
    · obtain ⟨x, y, hl, hx, hy⟩ := compOs_two hxs
      cases hc
      exact ok_mx hs ho hcal hl hx hy
    · obtain ⟨x, y, hl, hx, hy⟩ := compOs_two hxs
      cases hc
      exact ok_mn hs ho hcal hl hx hy
    · cases hc

theorem eq_ok {o : Oper} {neg : Bool} {t t' : TypeId} {x y : Operand} {x' y' : Opd} {op : AOp} (hs : SRel P T st D ι a w) (ho : o.op = .binOp (if neg then .neq else .eql) t x y t') (hx : compO x = some x') (hy : compO y = some y')
    (hc : compEq P neg (isK x || isK y) t x' y' = some op) : OkOp P T w D ι st a o op := by
  unfold compEq at hc
  split at hc
  · cases hc; exact ok_bin hs ho hx hy
  · cases hc; exact ok_bin hs ho hx hy
  · rename_i hu; cases hc; exact ok_eqb hs ho hx hy hu
  · rename_i hu
    split at hc
    · cases hc
    · rename_i hg
      simp only [Option.map_eq_some_iff] at hc
      obtain ⟨ks, hk, rfl⟩ := hc
      exact ok_eqf hs ho hx hy hk (by simpa using hg) (by simp [aggT, hu])
  · rename_i hu
    split at hc
    · cases hc
    · rename_i hg
      simp only [Option.map_eq_some_iff] at hc
      obtain ⟨ks, hk, rfl⟩ := hc
      exact ok_eqf hs ho hx hy hk (by simpa using hg) (by simp [aggT, hu])
  · rename_i hu; cases hc; exact ok_eqn hs ho hx hy ⟨_, hu⟩ (fun h => by cases h)
  · rename_i hu; cases hc; exact ok_eqn hs ho hx hy ⟨_, hu⟩ (fun h => by cases h)
  · rename_i hu; cases hc; exact ok_eqn hs ho hx hy ⟨_, _, hu⟩ (fun h => by cases h)
  · rename_i hu; cases hc; exact ok_eqn hs ho hx hy ⟨_, _, _, hu⟩ (fun h => by cases h)
  · rename_i hu
    split at hc
    · rename_i hcc
      cases hc
      exact ok_eqn hs ho hx hy ⟨_, hu⟩ (fun _ => hcc)
    · cases hc
  · cases hc

theorem op_ok {o : Oper} {op : AOp} (hs : SRel P T st D ι a w) (hc : compOp P o = some op) (ht : op.tame = true) : OkOp P T w D ι st a o op := by
  have hc0 := hc
  unfold compOp at hc
  split at hc
  · rename_i x ho
    simp only [Option.map_eq_some_iff] at hc
    obtain ⟨y, hx, rfl⟩ := hc
    exact fun _ _ v e h => ok_mv hs (.inl ho) hx h
  · rename_i x ho
    simp only [Option.map_eq_some_iff] at hc
    obtain ⟨y, hx, rfl⟩ := hc
    exact fun _ _ v e h => ok_mv hs (.inr ho) hx h
  · rename_i ho
    simp only [Option.bind_eq_some_iff, Option.map_eq_some_iff] at hc
    obtain ⟨c, h1, x, h2, y, h3, rfl⟩ := hc
    exact fun _ _ v e h => ok_pick hs ho h1 h2 h3 h
  · rename_i ho
    simp only [Option.map_eq_some_iff] at hc
    obtain ⟨z, hz, rfl⟩ := hc
    exact fun nb hnb v e h => ok_alloc hnb hs ho hz h
  · rename_i ho
    simp only [Option.map_eq_some_iff] at hc
    obtain ⟨z, hz, rfl⟩ := hc
    exact fun nb hnb v e h => ok_box hnb hs ho hz h
  · rename_i ho
    exact fun _ _ v e h => ok_build hs ho hc0 h
  · rename_i ho
    exact fun nb hnb v e h => ok_bsl hnb hs ho hc0 h
  · rename_i ho
    simp only [Option.bind_eq_some_iff, Option.map_eq_some_iff] at hc
    obtain ⟨g, h1, n, h2, y, h3, rfl⟩ := hc
    exact fun _ _ v e h => ok_load hs ho h1 h2 h3 h
  · rename_i ho
    simp only [Option.bind_eq_some_iff, Option.map_eq_some_iff] at hc
    obtain ⟨g, h1, n, h2, y, h3, rfl⟩ := hc
    exact fun _ _ v e h => ok_store hs ho h1 h2 h3 h
  · rename_i ho
    simp only [Option.map_eq_some_iff] at hc
    obtain ⟨z, hz, rfl⟩ := hc
    exact ok_nilc hs ho hz
  · rename_i bop t x y t' ho
    simp only [Option.bind_eq_some_iff] at hc
    obtain ⟨x', hx, y', hy, hc⟩ := hc
    split at hc
    · exact eq_ok (neg := false) hs ho hx hy hc
    · exact eq_ok (neg := true) hs ho hx hy hc
    · cases hc; exact ok_bin hs ho hx hy
  · rename_i ho
    simp only [Option.map_eq_some_iff] at hc
    obtain ⟨z, hz, rfl⟩ := hc
    exact ok_un hs ho hz
  · rename_i ho
    simp only [Option.bind_eq_some_iff] at hc
    obtain ⟨x', hx, hc⟩ := hc
    split at hc
    · rename_i h1 h2; cases hc; exact ok_conv hs ho hx h1 h2
    · rename_i h1 h2; cases hc; exact ok_cvs hs ho hx h1 h2
    · rename_i h1 h2
      split at hc
      · rename_i h3; cases hc; exact ok_b2s hs ho hx h1 h2 h3
      · cases hc
    · cases hc
  · rename_i ho
    split at hc
    · cases hc
    · rename_i d hni hu
      simp only [Option.map_eq_some_iff] at hc
      obtain ⟨z, hz, rfl⟩ := hc
      exact ok_mkif hs ho hz hu (fun m h => hni m h)
    · cases hc
  · rename_i ho
    simp only [Option.bind_eq_some_iff, Option.map_eq_some_iff] at hc
    obtain ⟨g, h1, n, h2, rfl⟩ := hc
    exact ok_mkfn hs ho h1 h2
  · rename_i ho
    split at hc
    · cases hc; exact ok_mkmap hs ho
    · cases hc
  · rename_i ho
    split at hc
    · rename_i hu
      simp only [Option.bind_eq_some_iff] at hc
      obtain ⟨i, hi, z, hz, hc⟩ := hc
      split at hc
      · cases hc
      · rename_i hcond
        simp only [Option.bind_eq_some_iff, Option.map_eq_some_iff] at hc
        obtain ⟨l, hl, c, hcc, rfl⟩ := hc
        exact ok_mksl hs ho hl hcc hu hi hz (Decidable.not_not.1 fun h => hcond (.inl h)) (fun h => hcond (.inr h))
    · cases hc
  · rename_i ho
    simp only [Option.bind_eq_some_iff] at hc
    obtain ⟨x', hx, lo', hlo, hi', hhi, hc⟩ := hc
    split at hc
    · rename_i hu; cases hc; exact ok_slcs hs ho hx hlo hhi hu
    · rename_i hu
      simp only [Option.bind_eq_some_iff] at hc
      obtain ⟨n, hn, hc⟩ := hc
      split at hc
      · cases hc
      · cases hc; exact ok_slc hs ho hx hlo hhi hu hn
    · rename_i hu
      simp only [Option.bind_eq_some_iff] at hc
      obtain ⟨n, hn, hc⟩ := hc
      split at hc
      · cases hc
      · cases hc; exact ok_slca hs ho hx hlo hhi (.inl hu) hn
    · rename_i hu
      split at hc
      · rename_i hu'
        simp only [Option.bind_eq_some_iff] at hc
        obtain ⟨n, hn, hc⟩ := hc
        split at hc
        · cases hc
        · cases hc; exact ok_slca hs ho hx hlo hhi (.inr ⟨_, hu, hu'⟩) hn
      · cases hc
    · cases hc
  · rename_i ho
    split at hc
    · rename_i hu
      simp only [Option.bind_eq_some_iff] at hc
      obtain ⟨f, hf, n, hn, hc⟩ := hc
      split at hc
      · cases hc
      · rename_i h0
        simp only [Option.map_eq_some_iff] at hc
        obtain ⟨y, hy, rfl⟩ := hc
        exact ok_fld hs ho hy hu hf hn h0
    · cases hc
  · rename_i ho
    split at hc
    · rename_i hu
      simp only [Option.bind_eq_some_iff, Option.map_eq_some_iff] at hc
      obtain ⟨f, hf, n, hn, g, hg, y, hy, rfl⟩ := hc
      exact ok_fldv hs ho hy hu hf hn hg
    · cases hc
  · rename_i ho
    simp only [Option.bind_eq_some_iff] at hc
    obtain ⟨x', hx, i', hi, hc⟩ := hc
    split at hc
    · rename_i hu
      simp only [Option.bind_eq_some_iff] at hc
      obtain ⟨n, hn, hc⟩ := hc
      split at hc
      · cases hc
      · cases hc; exact ok_idxa hs ho hx hi hu hn
    · rename_i hu
      simp only [Option.bind_eq_some_iff] at hc
      obtain ⟨n, hn, hc⟩ := hc
      split at hc
      · cases hc
      · cases hc; exact ok_idxs hs ho hx hi hu hn
    · cases hc
  · rename_i ho
    simp only [Option.bind_eq_some_iff] at hc
    obtain ⟨x', hx, i', hi, hc⟩ := hc
    split at hc
    · rename_i hu
      simp only [Option.bind_eq_some_iff, Option.map_eq_some_iff] at hc
      obtain ⟨n, hn, g, hg, rfl⟩ := hc
      exact ok_idxv hs ho hx hi hu hn hg
    · rename_i hu
      cases hc; exact ok_idxt hs ho hx hi hu
    · cases hc
  · rename_i ho
    split at hc
    · rename_i hu
      simp only [Option.bind_eq_some_iff, Option.map_eq_some_iff] at hc
      obtain ⟨ks, hk, g, hg, m, hm, k, hkk, z, hz, rfl⟩ := hc
      exact ok_lkp hs ho hm hkk hu hk hg hz
    · cases hc
  · rename_i ho
    split at hc
    · rename_i hu
      simp only [Option.bind_eq_some_iff, Option.map_eq_some_iff] at hc
      obtain ⟨ks, hk, g, hg, m, hm, k, hkk, z, hz, rfl⟩ := hc
      exact ok_mset hs (.inl ho) hm hkk hz hu hk hg
    · cases hc
  · rename_i ho
    split at hc
    · rename_i hu
      simp only [Option.bind_eq_some_iff, Option.map_eq_some_iff] at hc
      obtain ⟨ks, hk, g, hg, m, hm, k, hkk, z, hz, rfl⟩ := hc
      exact ok_mset hs (.inr ho) hm hkk hz hu hk hg
    · cases hc
  · rename_i ho
    simp only [Option.map_eq_some_iff] at hc
    obtain ⟨y, hy, rfl⟩ := hc
    exact ok_ext hs ho hy
  · rename_i ho
    exact call_ok hs ho hc ht
  · rename_i ho
    split at hc
    · simp only [Option.bind_eq_some_iff, Option.map_eq_some_iff] at hc
      obtain ⟨f, _, xs, _, rfl⟩ := hc
      simp [AOp.tame] at ht
    · cases hc
  · simp only [Option.map_eq_some_iff] at hc
    obtain ⟨y, hy, rfl⟩ := hc
    simp [AOp.tame] at ht
  · rename_i ho
    split at hc
    · cases hc
    · cases hc
    · rename_i d hni hu
      simp only [Option.bind_eq_some_iff, Option.map_eq_some_iff] at hc
      obtain ⟨z, hz, y, hy, rfl⟩ := hc
      exact ok_tas hs ho hy hu (fun m h => hni m h) hz
  · cases hc

end
end Go.Abs
end

section
/- Values told by other numbers of blocks; values told as memory that nobody writes from now on. Conditions: none. -/
namespace Go.Abs

section
variable {P : Program} {w : World} {D D' : Nat → Prop} {ι ι' : Nat → Option Nat} {H : List AB}

theorem rens_get {f : Nat → Option Nat} : ∀ {cs cs' : List AV}, AV.rens f cs = some cs' → cs'.length = cs.length ∧ ∀ (j : Nat) (v' : AV), cs'[j]? = some v' → ∃ v, cs[j]? = some v ∧ v.ren f = some v'
  | [], cs', h => by cases h; exact ⟨rfl, fun j v' h => by simp at h⟩
  | v :: cs, cs', h => by
    simp only [AV.rens, Option.bind_eq_some_iff, Option.map_eq_some_iff] at h
    obtain ⟨u, hu, r, hr, rfl⟩ := h
    obtain ⟨h1, h2⟩ := rens_get hr
    refine ⟨by simp [h1], fun j v' hj => ?_⟩
    cases j with
    | zero => simp at hj; subst hj; exact ⟨v, rfl, hu⟩
    | succ j => obtain ⟨z, h3, h4⟩ := h2 j v' (by simpa using hj); exact ⟨z, by simpa using h3, h4⟩

theorem VRel.ren {f : Nat → Option Nat} (hf : ∀ (b b' k : Nat), f b = some b' → ι b = some k → ι' b' = some k) {v : AV} {x : Value} (h : VRel w D ι v x) : ∀ {v' : AV}, v.ren f = some v' → VRel w D ι' v' x := by
  induction h with
  | bool b => intro v' h; cases h; exact .bool b
  | int k n => intro v' h; cases h; exact .int k n
  | str s => intro v' h; cases h; exact .str s
  | ptr hb =>
    intro v' h
    simp only [AV.ren, Option.map_eq_some_iff] at h
    obtain ⟨b', h1, rfl⟩ := h
    exact .ptr (hf _ _ _ h1 hb)
  | cptr xs h1 h2 h3 _ ih =>
    intro v' h
    simp only [AV.ren, Option.map_eq_some_iff] at h
    obtain ⟨cs', hr, rfl⟩ := h
    obtain ⟨_, hg⟩ := rens_get hr
    exact .cptr xs h1 h2 (fun j v' hj => let ⟨v, a, _⟩ := hg j v' hj; h3 j v a) (fun j v' hj => let ⟨v, a, b⟩ := hg j v' hj; ih j v a b)
  | nilp => intro v' h; cases h; exact .nilp
  | msl hb hl =>
    intro v' h
    simp only [AV.ren, Option.map_eq_some_iff] at h
    obtain ⟨b', h1, rfl⟩ := h
    exact .msl (hf _ _ _ h1 hb) hl
  | gsl hb hl hs =>
    intro v' h
    simp only [AV.ren, Option.map_eq_some_iff] at h
    obtain ⟨b', h1, rfl⟩ := h
    exact .gsl (hf _ _ _ h1 hb) hl hs
  | csl xs hl hnn hco hn h1 h3 _ ih =>
    intro v' h
    simp only [AV.ren, Option.map_eq_some_iff] at h
    obtain ⟨cs', hr, rfl⟩ := h
    obtain ⟨hlen, hg⟩ := rens_get hr
    exact .csl xs hl hnn hco (fun ha => ⟨List.length_eq_zero_iff.1 (by rw [hlen, (hn ha).1]; rfl), (hn ha).2⟩) (fun a' e hb => h1 a' e fun hz => hb ⟨hz.1, List.length_eq_zero_iff.1 (by rw [hlen, hz.2.1]; rfl), hz.2.2⟩) (fun a' e j v' hj => let ⟨v, a, _⟩ := hg j v' hj; h3 a' e j v a) (fun j v' hj => let ⟨v, a, b⟩ := hg j v' hj; ih j v a b)
  | nils => intro v' h; cases h; exact .nils
  | mp hb =>
    intro v' h
    simp only [AV.ren, Option.map_eq_some_iff] at h
    obtain ⟨b', h1, rfl⟩ := h
    exact .mp (hf _ _ _ h1 hb)
  | nilm => intro v' h; cases h; exact .nilm
  | yld hb =>
    intro v' h
    simp only [AV.ren, Option.map_eq_some_iff] at h
    obtain ⟨b', h1, rfl⟩ := h
    exact .yld (hf _ _ _ h1 hb)
  | fn ha hb _ _ i1 i2 =>
    intro v' h
    simp only [AV.ren, Option.bind_eq_some_iff, Option.map_eq_some_iff] at h
    obtain ⟨a', h1, b', h2, rfl⟩ := h
    obtain ⟨l1, g1⟩ := rens_get h1
    obtain ⟨l2, g2⟩ := rens_get h2
    exact .fn (ha.trans l1.symm) (hb.trans l2.symm) (fun j v' x hj hx => let ⟨v, a, b⟩ := g1 j v' hj; i1 j v x a hx b) (fun j v' x hj hx => let ⟨v, a, b⟩ := g2 j v' hj; i2 j v x a hx b)
  | nilf => intro v' h; cases h; exact .nilf
  | iface _ ih =>
    intro v' h
    simp only [AV.ren, Option.map_eq_some_iff] at h
    obtain ⟨u, h1, rfl⟩ := h
    exact .iface (ih h1)
  | nili => intro v' h; cases h; exact .nili
  | agg hn _ ih =>
    intro v' h
    simp only [AV.ren, Option.map_eq_some_iff] at h
    obtain ⟨cs', hr, rfl⟩ := h
    obtain ⟨l1, g1⟩ := rens_get hr
    exact .agg (hn.trans l1.symm) (fun j v' x hj hx => let ⟨v, a, b⟩ := g1 j v' hj; ih j v x a hx b)
  | tup hn _ ih =>
    intro v' h
    simp only [AV.ren, Option.map_eq_some_iff] at h
    obtain ⟨cs', hr, rfl⟩ := h
    obtain ⟨l1, g1⟩ := rens_get hr
    exact .tup (hn.trans l1.symm) (fun j v' x hj hx => let ⟨v, a, b⟩ := g1 j v' hj; ih j v x a hx b)

theorem VRel.renP {f : Nat → Option Nat} (hf : ∀ (b b' k : Nat), f b = some b' → ι b = some k → ι' b' = some k) {v v' : AV} {x : Value} (h : VRel w D ι v x) (hr : v.renP f = some v') : VRel w D ι' v' x := by
  unfold AV.renP at hr
  split at hr
  · rename_i hp; cases hr; exact h.pure_names ι' hp
  · exact h.ren hf hr

theorem optAll_get {α β : Type} {f : α → Option β} : ∀ {l : List α} {r : List β}, optAll f l = some r → r.length = l.length ∧ ∀ (j : Nat) (b : β), r[j]? = some b → ∃ a, l[j]? = some a ∧ f a = some b
  | [], r, h => by cases h; exact ⟨rfl, fun j b h => by simp at h⟩
  | a :: l, r, h => by
    simp only [optAll, Option.bind_eq_some_iff, Option.map_eq_some_iff] at h
    obtain ⟨b, hb, s, hs, rfl⟩ := h
    obtain ⟨h1, h2⟩ := optAll_get hs
    refine ⟨by simp [h1], fun j c hj => ?_⟩
    cases j with
    | zero => simp at hj; subst hj; exact ⟨a, rfl, hb⟩
    | succ j => obtain ⟨z, h3, h4⟩ := h2 j c (by simpa using hj); exact ⟨z, by simpa using h3, h4⟩

/-- Lists of values by other numbers. -/
theorem rensP_get {f : Nat → Option Nat} {cs cs' : List AV} (h : rensP f cs = some cs') : cs'.length = cs.length ∧ ∀ (j : Nat) (v' : AV), cs'[j]? = some v' → ∃ v, cs[j]? = some v ∧ v.renP f = some v' := by
  unfold rensP at h
  split at h
  · rename_i hp
    cases h
    exact ⟨rfl, fun j v' hj => ⟨v', hj, by unfold AV.renP; rw [if_pos (AV.pures_iff.1 hp v' (List.mem_of_getElem? hj))]⟩⟩
  · exact optAll_get h

theorem pure_of_canon : ∀ {v : AV}, v.canon = true → v.pure = true := by
  intro v
  induction v using AV.rec (motive_2 := fun cs => AV.canons cs = true → AV.pures cs = true) with
  | bool | int | str | nilp | nils | nilm | nilf | nili => intro _; rfl
  | ptr | msl | gsl | mp | yld => intro h; simp [AV.canon] at h
  | cptr cs ih => intro h; simp only [AV.canon] at h; simpa [AV.pure] using ih h
  | csl cs l c nn ih => intro h; simp only [AV.canon, Bool.and_eq_true] at h; simpa [AV.pure] using ih h.2
  | fn f a b i1 i2 => intro h; simp only [AV.canon, Bool.and_eq_true] at h; simpa [AV.pure] using ⟨i1 h.1, i2 h.2⟩
  | iface t v ih => intro h; simp only [AV.canon] at h; simpa [AV.pure] using ih h
  | agg cs ih => intro h; simp only [AV.canon] at h; simpa [AV.pure] using ih h
  | tup cs ih => intro h; simp only [AV.canon] at h; simpa [AV.pure] using ih h
  | nil => rfl
  | cons v r i1 i2 => rename_i h; simp only [AV.canons, Bool.and_eq_true] at h; simpa [AV.pures] using ⟨i1 h.1, i2 h.2⟩

theorem pures_of_canons {cs : List AV} (h : AV.canons cs = true) : AV.pures cs = true := by
  have := @pure_of_canon (.agg cs) (by simpa [AV.canon] using h)
  simpa [AV.pure] using this

theorem kil_pure (H : List AB) (n : Nat) {v : AV} (h : v.pure = true) : kil H n v = [] := by
  cases n with
  | zero => rfl
  | succ n => simp [kil, h]

theorem frzL_get {ar : Bool} {f : AV → Option AV} {l l' : List AV} (h : frzL ar f l = some l') : l'.length = l.length ∧ ∀ (j : Nat) (v' : AV), l'[j]? = some v' → ∃ v, l[j]? = some v ∧ ((v' = v ∧ v.pure = true) ∨ f v = some v') := by
  unfold frzL at h
  split at h
  · rename_i hp
    cases h
    have hp' : AV.pures l = true := by
      simp only [Bool.or_eq_true, Bool.and_eq_true] at hp
      rcases hp with h | h
      · exact pures_of_canons h
      · exact h.2
    exact ⟨rfl, fun j v' hj => ⟨v', hj, .inl ⟨rfl, AV.pures_iff.1 hp' v' (List.mem_of_getElem? hj)⟩⟩⟩
  · obtain ⟨h1, h2⟩ := optAll_get h
    exact ⟨h1, fun j v' hj => let ⟨v, a, b⟩ := h2 j v' hj; ⟨v, a, .inr b⟩⟩

/-- The machine's blocks that freezing shuts. -/
def Shut (ι : Nat → Option Nat) (H : List AB) (ks : List Nat) (k : Nat) : Prop := ∃ b ∈ ks, ∃ B, H[b]? = some B ∧ B.isDead = false ∧ ι b = some k

theorem frz_ok (hh : HRel P w D ι H) (ar : Bool) (hD : ∀ k, D k → D' k) : ∀ (n : Nat) (v u : AV) (x : Value), frz H ar n v = some u → VRel w D ι v x → (∀ k, Shut ι H (kil H n v) k → D' k) → VRel w D' ι u x ∧ u.pure = true := by
  have same : ∀ {v : AV} {x : Value}, VRel w D ι v x → VRel w D' ι v x := fun hv => hv.mono (Keeps.refl D w) hD fun b k hb => ⟨hb, hh.ilt b k hb⟩
  have pureC : ∀ {v : AV}, (v.canon || ar && v.pure) = true → v.pure = true := fun {v} h => by
    simp only [Bool.or_eq_true, Bool.and_eq_true] at h
    rcases h with h | h
    · exact pure_of_canon h
    · exact h.2
  intro n
  induction n with
  | zero =>
    intro v u x h hv _
    simp only [frz] at h
    split at h
    · rename_i hp; cases h; exact ⟨same hv, pureC hp⟩
    · cases h
  | succ n ih =>
    intro v u x h hv hk
    unfold frz at h
    split at h
    · rename_i hp; cases h; exact ⟨same hv, pureC hp⟩
    · rename_i hnp
      have sub : ∀ {l l' : List AV}, frzL ar (frz H ar n) l = some l' → (∀ u ∈ l, ∀ b ∈ kil H n u, b ∈ kil H (n + 1) v) →
          ∀ (j : Nat) (v' : AV), l'[j]? = some v' → ∃ u, l[j]? = some u ∧ ∀ (y : Value), VRel w D ι u y → VRel w D' ι v' y ∧ v'.pure = true := fun {l l'} hl hsub j v' hj => by
        obtain ⟨_, hg⟩ := frzL_get hl
        obtain ⟨u, a, b⟩ := hg j v' hj
        refine ⟨u, a, fun y hy => ?_⟩
        rcases b with ⟨rfl, hp⟩ | hf
        · exact ⟨same hy, hp⟩
        · exact ih u v' y hf hy fun k ⟨b, hb, rest⟩ => hk k ⟨b, hsub u (List.mem_of_getElem? a) b hb, rest⟩
      have pures : ∀ {l' : List AV}, (∀ (j : Nat) (v' : AV), l'[j]? = some v' → v'.pure = true) → AV.pures l' = true := fun {l'} h => AV.pures_iff.2 fun v hv => let ⟨j, hj⟩ := List.getElem?_of_mem hv; h j v hj
      have row : ∀ {b k off : Nat} {cs l l' : List AV}, H[b]? = some (.row cs) → ι b = some k → b ∈ kil H (n + 1) v → (∀ u ∈ cs, ∀ c ∈ kil H n u, c ∈ kil H (n + 1) v) → frzL ar (frz H ar n) l = some l' →
          (∀ (j : Nat) (u : AV), l[j]? = some u → (cs.drop off)[j]? = some u) → D' k ∧ Cells w D' ι k off l' ∧ AV.pures l' = true := fun {b k off cs l l'} hrow hb hmem hsub hl hsame => by
        have hs := sub hl fun u hu c hc => by
          obtain ⟨j, hj⟩ := List.getElem?_of_mem hu
          exact hsub u (List.mem_of_mem_drop (List.mem_of_getElem? (hsame j u hj))) c hc
        have hc := hh.cells (off := off) hrow hb
        refine ⟨hk k ⟨b, hmem, _, hrow, rfl, hb⟩, fun j v' hj => ?_, pures fun j v' hj => ?_⟩
        · obtain ⟨u, h1, h2⟩ := hs j v' hj
          obtain ⟨y, h3, h4⟩ := hc j u (hsame j u h1)
          exact ⟨y, h3, (h2 y h4).1⟩
        · obtain ⟨u, h1, h2⟩ := hs j v' hj
          obtain ⟨y, h3, h4⟩ := hc j u (hsame j u h1)
          exact (h2 y h4).2
      have rowK : ∀ {b : Nat} {cs : List AV}, H[b]? = some (.row cs) → (kil H (n + 1) v = b :: (if AV.pures cs then [] else cs.flatMap (kil H n))) → b ∈ kil H (n + 1) v ∧ ∀ u ∈ cs, ∀ c ∈ kil H n u, c ∈ kil H (n + 1) v := fun {b cs} hrow he => by
        rw [he]
        refine ⟨by simp, fun u hu c hc => ?_⟩
        by_cases hp : AV.pures cs = true
        · rw [kil_pure H n (AV.pures_iff.1 hp u hu)] at hc; cases hc
        · rw [if_neg hp]; exact List.mem_cons_of_mem _ (List.mem_flatMap.2 ⟨u, hu, hc⟩)
      split at h
      · cases h
        cases hv
        exact ⟨.csl (fun _ => undef) (Nat.le_refl _) (fun h => by cases h) (fun c h => by cases h) (fun _ => ⟨rfl, rfl⟩) (fun a' e => by cases e) (fun a' e => by cases e) (fun j u hj => by simp at hj), rfl⟩
      · rename_i b off
        obtain ⟨k, hb, rfl⟩ := hv.ptr_inv
        split at h
        · rename_i cs hrow
          split at h
          · simp only [Option.map_eq_some_iff] at h
            obtain ⟨l', hl, rfl⟩ := h
            obtain ⟨m1, m2⟩ := rowK hrow (by simp [kil, AV.pure, hrow])
            obtain ⟨h1, h2, h3⟩ := row (off := off) hrow hb m1 m2 hl (fun j u h => h)
            exact ⟨cptr_mk h1 h2, by simpa [AV.pure] using h3⟩
          · cases h
        · cases h
      · rename_i b off len cap
        obtain ⟨k, hb, hl', rfl⟩ := hv.msl_inv
        split at h
        · rename_i cs hrow
          split at h
          · simp only [Option.map_eq_some_iff] at h
            obtain ⟨l', hl, rfl⟩ := h
            obtain ⟨m1, m2⟩ := rowK hrow (by simp [kil, AV.pure, hrow])
            obtain ⟨h1, h2, h3⟩ := row (off := off) hrow hb m1 m2 hl (fun j u h => h)
            exact ⟨csl_mk ar h1 h2 hl' (fun c h => by cases h), by simpa [AV.pure] using h3⟩
          · cases h
        · cases h
      · rename_i b len d
        obtain ⟨k, cap, hb, hl', rfl, _⟩ := hv.gsl_inv
        split at h
        · rename_i cs hrow
          split at h
          · simp only [Option.map_eq_some_iff] at h
            obtain ⟨l', hl, rfl⟩ := h
            obtain ⟨m1, m2⟩ := rowK hrow (by simp [kil, AV.pure, hrow])
            obtain ⟨h1, h2, h3⟩ := row (off := 0) hrow hb m1 m2 hl (fun j u h => by
              have hlt := (List.getElem?_eq_some_iff.1 h).1
              rw [List.getElem?_take_of_lt (by simp at hlt; omega)] at h
              simpa using h)
            exact ⟨csl_mk ar h1 h2 hl' (fun c h => by cases h), by simpa [AV.pure] using h3⟩
          · cases h
        · cases h
      · rename_i f as bs
        simp only [Option.bind_eq_some_iff, Option.map_eq_some_iff] at h
        obtain ⟨a', h1, b', h2, rfl⟩ := h
        have hs1 := sub h1 fun u hu c hc => by
          by_cases hp : (AV.fn f as bs).pure = true
          · rw [kil_pure H n (AV.pures_iff.1 (by simpa [AV.pure] using (by simpa [AV.pure] using hp : AV.pures as = true ∧ AV.pures bs = true).1) u hu)] at hc; cases hc
          · simp only [kil, hp]; exact List.mem_append_left _ (List.mem_flatMap.2 ⟨u, hu, hc⟩)
        have hs2 := sub h2 fun u hu c hc => by
          by_cases hp : (AV.fn f as bs).pure = true
          · rw [kil_pure H n (AV.pures_iff.1 (by simpa [AV.pure] using (by simpa [AV.pure] using hp : AV.pures as = true ∧ AV.pures bs = true).2) u hu)] at hc; cases hc
          · simp only [kil, hp]; exact List.mem_append_right _ (List.mem_flatMap.2 ⟨u, hu, hc⟩)
        have l1 := (frzL_get h1).1
        have l2 := (frzL_get h2).1
        cases hv with
        | fn ha hb hx hy =>
          refine ⟨.fn (ha.trans l1.symm) (hb.trans l2.symm) (fun j v' y hj hxj => ?_) (fun j v' y hj hxj => ?_), ?_⟩
          · obtain ⟨u, g1, g2⟩ := hs1 j v' hj; exact (g2 y (hx j u y g1 hxj)).1
          · obtain ⟨u, g1, g2⟩ := hs2 j v' hj; exact (g2 y (hy j u y g1 hxj)).1
          · simp only [AV.pure, Bool.and_eq_true]
            refine ⟨pures fun j v' hj => ?_, pures fun j v' hj => ?_⟩
            · obtain ⟨u, g1, g2⟩ := hs1 j v' hj
              have hlt := (List.getElem?_eq_some_iff.1 g1).1
              exact (g2 _ (hx j u _ g1 (Array.getElem?_eq_getElem (by omega)))).2
            · obtain ⟨u, g1, g2⟩ := hs2 j v' hj
              have hlt := (List.getElem?_eq_some_iff.1 g1).1
              exact (g2 _ (hy j u _ g1 (Array.getElem?_eq_getElem (by omega)))).2
      · rename_i cs
        simp only [Option.map_eq_some_iff] at h
        obtain ⟨l', hl, rfl⟩ := h
        have hs := sub hl fun u hu c hc => by
          by_cases hp : (AV.cptr cs).pure = true
          · rw [kil_pure H n (AV.pures_iff.1 (by simpa [AV.pure] using hp) u hu)] at hc; cases hc
          · simp only [kil, hp]; exact List.mem_flatMap.2 ⟨u, hu, hc⟩
        cases hv with
        | cptr xs h1 h2 h3 h4 =>
          refine ⟨.cptr xs (hD _ h1) h2 (fun j v' hj => ?_) (fun j v' hj => ?_), (show AV.pures _ = true from pures fun j v' hj => ?_)⟩
          · obtain ⟨u, g1, g2⟩ := hs j v' hj; exact h3 j u g1
          · obtain ⟨u, g1, g2⟩ := hs j v' hj; exact (g2 _ (h4 j u g1)).1
          · obtain ⟨u, g1, g2⟩ := hs j v' hj; exact (g2 _ (h4 j u g1)).2
      · rename_i cs l co nn
        simp only [Option.map_eq_some_iff] at h
        obtain ⟨l', hl, rfl⟩ := h
        have hs := sub hl fun u hu c hc => by
          by_cases hp : (AV.csl cs l co nn).pure = true
          · rw [kil_pure H n (AV.pures_iff.1 (by simpa [AV.pure] using hp) u hu)] at hc; cases hc
          · simp only [kil, hp]; exact List.mem_flatMap.2 ⟨u, hu, hc⟩
        have hlen := (frzL_get hl).1
        cases hv with
        | csl xs hl hnn hco hn h1 h3 h4 =>
          refine ⟨.csl xs hl (fun h => hnn (by simp at h; exact h.2)) (fun c h => by cases h) (fun ha => ⟨List.length_eq_zero_iff.1 (by rw [hlen, (hn ha).1]; rfl), (hn ha).2⟩) (fun a' e hb => let hb0 := fun hz : Bare _ _ _ _ => hb ⟨hz.1, List.length_eq_zero_iff.1 (by rw [hlen, hz.2.1]; rfl), rfl, by rw [hz.2.2.2, Bool.and_false]⟩; ⟨hD _ (h1 a' e hb0).1, (h1 a' e hb0).2⟩) (fun a' e j v' hj => ?_) (fun j v' hj => ?_), (show AV.pures _ = true from pures fun j v' hj => ?_)⟩
          · obtain ⟨u, g1, g2⟩ := hs j v' hj; exact h3 a' e j u g1
          · obtain ⟨u, g1, g2⟩ := hs j v' hj; exact (g2 _ (h4 j u g1)).1
          · obtain ⟨u, g1, g2⟩ := hs j v' hj; exact (g2 _ (h4 j u g1)).2
      · rename_i t u
        simp only [Option.map_eq_some_iff] at h
        obtain ⟨u', hu, rfl⟩ := h
        cases hv with
        | iface hv =>
          obtain ⟨h1, h2⟩ := ih u u' _ hu hv fun k ⟨b, hb, rest⟩ => hk k ⟨b, by
            by_cases hp : (AV.iface t u).pure = true
            · rw [kil_pure H n (by simpa [AV.pure] using hp)] at hb; cases hb
            · simp only [kil, hp]; exact hb, rest⟩
          exact ⟨.iface h1, by simpa [AV.pure] using h2⟩
      · rename_i cs
        simp only [Option.map_eq_some_iff] at h
        obtain ⟨l', hl, rfl⟩ := h
        have hs := sub hl fun u hu c hc => by
          by_cases hp : (AV.agg cs).pure = true
          · rw [kil_pure H n (AV.pures_iff.1 (by simpa [AV.pure] using hp) u hu)] at hc; cases hc
          · simp only [kil, hp]; exact List.mem_flatMap.2 ⟨u, hu, hc⟩
        have hlen := (frzL_get hl).1
        cases hv with
        | agg hn hx =>
          refine ⟨.agg (hn.trans hlen.symm) (fun j v' y hj hxj => ?_), (show AV.pures _ = true from pures fun j v' hj => ?_)⟩
          · obtain ⟨u, g1, g2⟩ := hs j v' hj; exact (g2 y (hx j u y g1 hxj)).1
          · obtain ⟨u, g1, g2⟩ := hs j v' hj
            have hlt := (List.getElem?_eq_some_iff.1 g1).1
            exact (g2 _ (hx j u _ g1 (Array.getElem?_eq_getElem (by omega)))).2
      · rename_i cs
        simp only [Option.map_eq_some_iff] at h
        obtain ⟨l', hl, rfl⟩ := h
        have hs := sub hl fun u hu c hc => by
          by_cases hp : (AV.tup cs).pure = true
          · rw [kil_pure H n (AV.pures_iff.1 (by simpa [AV.pure] using hp) u hu)] at hc; cases hc
          · simp only [kil, hp]; exact List.mem_flatMap.2 ⟨u, hu, hc⟩
        have hlen := (frzL_get hl).1
        cases hv with
        | tup hn hx =>
          refine ⟨.tup (hn.trans hlen.symm) (fun j v' y hj hxj => ?_), (show AV.pures _ = true from pures fun j v' hj => ?_)⟩
          · obtain ⟨u, g1, g2⟩ := hs j v' hj; exact (g2 y (hx j u y g1 hxj)).1
          · obtain ⟨u, g1, g2⟩ := hs j v' hj
            have hlt := (List.getElem?_eq_some_iff.1 g1).1
            exact (g2 _ (hx j u _ g1 (Array.getElem?_eq_getElem (by omega)))).2
      · cases h

/-! Shutting blocks -/

def killAll (H : List AB) (ks : List Nat) : List AB := ks.foldl (fun H b => H.set b .dead) H

theorem killAll_len : ∀ (ks : List Nat) (H : List AB), (killAll H ks).length = H.length
  | [], H => rfl
  | b :: ks, H => by
    have := killAll_len ks (H.set b .dead)
    rw [List.length_set] at this
    exact this

/-- What lives after the shutting lived before, and is none of those shut. -/
theorem killAll_get : ∀ (ks : List Nat) {H : List AB} {b : Nat} {B : AB}, (killAll H ks)[b]? = some B → B.isDead = false → H[b]? = some B ∧ b ∉ ks
  | [], H, b, B, h, _ => ⟨h, by simp⟩
  | c :: ks, H, b, B, h, hd => by
    obtain ⟨h1, h2⟩ := killAll_get ks (H := H.set c .dead) h hd
    rw [List.getElem?_set] at h1
    split at h1
    · split at h1
      · cases h1; simp [AB.isDead] at hd
      · cases h1
    · rename_i hne
      exact ⟨h1, by simp only [List.mem_cons, not_or]; exact ⟨fun e => hne e.symm, h2⟩⟩

/-- The blocks of ks are shut: nobody writes them from now on. -/
theorem hrel_shut (h : HRel P w D ι H) (ks : List Nat) :
    HRel P w (fun k => D k ∨ Shut ι H ks k) ι (killAll H ks) ∧ Ext w D (Live ι H) w (fun k => D k ∨ Shut ι H ks k) (Live ι (killAll H ks)) := by
  have mono : ∀ v x, VRel w D ι v x → VRel w (fun k => D k ∨ Shut ι H ks k) ι v x := fun v x hv => hv.mono (Keeps.refl D w) (fun k hk => .inl hk) fun b k hb => ⟨hb, h.ilt b k hb⟩
  refine ⟨⟨fun b k hb => by rw [killAll_len]; exact h.dom b k hb, fun k hk => ?_, h.ilt, fun b B k h1 h2 h3 => ?_, fun b b' B B' k h1 h2 h3 h4 h5 h6 => ?_⟩, ⟨rfl, rfl, rfl, Nat.le_refl _, fun _ _ _ => rfl, fun k hk => ?_, fun k hk => .inl hk, fun k hk => ?_, fun _ c _ f hc _ => ⟨c, f, hc, rfl⟩⟩⟩
  · rcases hk with hk | ⟨b, _, B, _, _, hb⟩
    · exact h.dlt k hk
    · exact h.ilt b k hb
  · obtain ⟨g1, g2⟩ := killAll_get ks h1 h2
    obtain ⟨a, c⟩ := h.blk b B k g1 h2 h3
    refine ⟨fun hd => ?_, c.mono rfl mono⟩
    rcases hd with hd | ⟨b', hb', B', e1, e2, e3⟩
    · exact a hd
    · exact g2 (h.inj b b' B B' k g1 h2 e1 e2 h3 e3 ▸ hb')
  · obtain ⟨g1, _⟩ := killAll_get ks h1 h2
    obtain ⟨g3, _⟩ := killAll_get ks h3 h4
    exact h.inj b b' B B' k g1 h2 g3 h4 h5 h6
  · obtain ⟨b, B, h1, h2, h3⟩ := hk
    obtain ⟨g1, _⟩ := killAll_get ks h1 h2
    exact .inl ⟨b, B, g1, h2, h3⟩
  · rcases hk with hk | ⟨b, _, B, e1, e2, e3⟩
    · exact .inl hk
    · exact .inr (.inl ⟨b, B, e1, e2, e3⟩)

end
end Go.Abs
end
