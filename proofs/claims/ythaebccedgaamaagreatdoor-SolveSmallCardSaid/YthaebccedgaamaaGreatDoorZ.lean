/- Runs with a book of known calls; the same run, cut for the kernel. Conditions: none. -/
import Derived.Test.YthaebccedgaamaaGreatDoorA2
set_option linter.unusedSimpArgs false
set_option linter.unusedVariables false
section
/- Runs that look calls up in a book of calls that are known. Conditions: none. -/
namespace Go.Abs

mutual
/-- Are two values the same? Only what data are made of. -/
def AV.same : AV → AV → Bool
  | .bool a, .bool b => a == b
  | .int j a, .int k b => decide (j = k) && a == b
  | .str a, .str b => a.data.toList == b.data.toList
  | .csl a l c n, .csl b m d o => Nat.beq l m && c == d && n == o && AV.sames a b
  | .agg a, .agg b => AV.sames a b
  | .nils, .nils => true
  | _, _ => false
def AV.sames : List AV → List AV → Bool
  | [], [] => true
  | a :: r, b :: s => a.same b && AV.sames r s
  | _, _ => false
end

theorem bytes_ext {a b : ByteArray} (h : a.data.toList = b.data.toList) : a = b := by
  cases a; cases b
  simp only [ByteArray.mk.injEq]
  exact Array.toList_inj.1 h

mutual
theorem AV.same_eq : ∀ (a b : AV), a.same b = true → a = b
  | .bool a, y, h => by cases y <;> simp [AV.same] at h <;> simp_all
  | .int j a, y, h => by cases y <;> simp [AV.same] at h <;> simp_all
  | .str a, y, h => by
    cases y <;> simp only [AV.same] at h
    all_goals first | (cases h; done) | skip
    rw [bytes_ext (eq_of_beq h)]
  | .csl a l c n, y, h => by
    cases y <;> simp [AV.same] at h
    obtain ⟨⟨⟨h1, h2⟩, h3⟩, h4⟩ := h
    rw [AV.sames_eq _ _ h4, h1, h2, h3]
  | .agg a, y, h => by
    cases y <;> simp [AV.same] at h
    rw [AV.sames_eq _ _ h]
  | .nils, y, h => by cases y <;> simp [AV.same] at h <;> rfl
  | .ptr _ _, y, h => by simp [AV.same] at h
  | .cptr _, y, h => by simp [AV.same] at h
  | .nilp, y, h => by simp [AV.same] at h
  | .msl _ _ _ _, y, h => by simp [AV.same] at h
  | .gsl _ _ _, y, h => by simp [AV.same] at h
  | .mp _, y, h => by simp [AV.same] at h
  | .nilm, y, h => by simp [AV.same] at h
  | .yld _, y, h => by simp [AV.same] at h
  | .fn _ _ _, y, h => by simp [AV.same] at h
  | .nilf, y, h => by simp [AV.same] at h
  | .iface _ _, y, h => by simp [AV.same] at h
  | .nili, y, h => by simp [AV.same] at h
  | .tup _, y, h => by simp [AV.same] at h
theorem AV.sames_eq : ∀ (a b : List AV), AV.sames a b = true → a = b
  | [], [], _ => rfl
  | a :: r, b :: s, h => by
    simp [AV.sames] at h
    rw [AV.same_eq _ _ h.1, AV.sames_eq _ _ h.2]
  | [], b :: s, h => by simp [AV.sames] at h
  | a :: r, [], h => by simp [AV.sames] at h
end

/-- A book of calls: function, arguments; what the call comes to in a memory of its own, and that memory. -/
abbrev Book := List (Nat × List AV × AEnd × List AB)
def Book.find : Book → Nat → List AV → Option (AEnd × List AB)
  | [], _, _ => none
  | (g, ys, r) :: q, f, xs => bif Nat.beq f g && AV.sames xs ys then some r else Book.find q f xs

section
variable (T : Tab) (M : Book)

/-- One more round of fuel, with the book. -/
def bookS (S : Sems) : Sems where
  code := code T S
  call f xs H := match H with
    | [] => match M.find f xs with
      | some r => some r
      | none => call T S f xs []
    | _ :: _ => call T S f xs H

def semsM : Nat → Sems
  | 0 => ⟨fun _ _ => none, fun _ _ _ => none⟩
  | n + 1 => bookS T M (semsM n)

variable {T M} {P : Program}

/-- Every row of the book is what the machine comes to. -/
def Book.OK (P : Program) (T : Tab) (M : Book) : Prop := ∀ x ∈ M, Enters P x.1 ∧ Told P T x.1 x.2.1 [] x.2.2.1 x.2.2.2

theorem Book.OK.found (h : Book.OK P T M) {f : Nat} {xs : List AV} {r : AEnd × List AB} (hf : M.find f xs = some r) : Enters P f ∧ Told P T f xs [] r.1 r.2 := by
  induction M with
  | nil => cases hf
  | cons x M ih =>
    obtain ⟨g, ys, q⟩ := x
    simp only [Book.find] at hf
    cases hb : Nat.beq f g && AV.sames xs ys with
    | true =>
      rw [hb] at hf
      cases hf
      rw [Bool.and_eq_true] at hb
      rw [Nat.eq_of_beq_eq_true hb.1, AV.sames_eq _ _ hb.2]
      exact h _ (List.mem_cons_self ..)
    | false =>
      rw [hb] at hf
      exact ih (fun x hx => h x (List.mem_cons_of_mem _ hx)) hf

theorem semsM_ok (hT : TabOK P T) (hFn : FnOK P T) (hM : Book.OK P T M) : ∀ n, RunOK P T (semsM T M n)
  | 0 => ⟨⟨fun _ _ _ _ h => (by cases h), fun _ _ _ _ _ h => (by cases h), fun _ _ _ _ h => (by cases h)⟩, sems_len T 0, fun _ _ _ _ h => (by cases h)⟩
  | n + 1 => by
    obtain ⟨hS, hl, hL⟩ := semsM_ok hT hFn hM n
    have all := code_all hS hT hL (fun l inc st e st' h => hDr_ok hS hT hl h) (fun f ps x y st e st' h => rng_ok hS h)
    have hcode : ∀ c st e st', code T (semsM T M n) c st = some (e, st') → CTold P T c st e st' := fun c st e st' h => (all c st e st' h).1
    have hent : ∀ f xs H q, call T (semsM T M n) f xs H = some q → Enters P f := fun f xs H q h' => by
      unfold call at h'
      split at h'
      · cases h'
      · rename_i F hF
        exact hT.fn _ _ hF
    refine ⟨⟨fun f xs H q h => ?_, fun f xs H r H' h => ?_, hcode⟩, ⟨fun f xs H q H' h => ?_, fun _ _ _ _ h hb => code_len hl h hb⟩, fun b st e st' h => (all (.loop b) st e st' h).2 b rfl⟩
    · have h' : (bookS T M (semsM T M n)).call f xs H = some q := h
      simp only [bookS] at h'
      split at h'
      · split at h'
        · rename_i r hr
          exact (hM.found hr).1
        · exact hent _ _ _ _ h'
      · exact hent _ _ _ _ h'
    · have h' : (bookS T M (semsM T M n)).call f xs H = some (r, H') := h
      simp only [bookS] at h'
      split at h'
      · split at h'
        · rename_i q hr
          cases h'
          exact (hM.found hr).2
        · exact fcall_ok hS hT hFn hcode h'
      · exact fcall_ok hS hT hFn hcode h'
    · have h' : (bookS T M (semsM T M n)).call f xs H = some (q, H') := h
      simp only [bookS] at h'
      split at h'
      · exact Nat.zero_le _
      · exact call_len hl h'

/-- A run with a book: what the machine comes to. -/
theorem toldM (hT : TabOK P T) (hFn : FnOK P T) (hM : Book.OK P T M) {n f : Nat} {xs : List AV} {H H' : List AB} {q : AEnd} (h : (semsM T M n).call f xs H = some (q, H')) : Told P T f xs H q H' := (semsM_ok hT hFn hM n).ok.call f xs H q H' h

theorem Book.OK.nil : Book.OK P T [] := fun _ h => by cases h
theorem Book.OK.cons (hT : TabOK P T) (hFn : FnOK P T) (hM : Book.OK P T M) {n f : Nat} {xs : List AV} {r : AEnd × List AB} (h : (semsM T M n).call f xs [] = some r) : Book.OK P T ((f, xs, r) :: M) := fun x hx => by
  rcases List.mem_cons.1 hx with rfl | hx
  · exact ⟨(semsM_ok hT hFn hM n).ok.ent _ _ _ _ h, toldM hT hFn hM h⟩
  · exact hM x hx
theorem Book.OK.put (hT : TabOK P T) (hFn : FnOK P T) (hM : Book.OK P T M) (n : Nat) {f : Nat} {xs : List AV} {r : AEnd × List AB} (h : enter T (semsM T M n) 0 f xs [] = some r) : Book.OK P T ((f, xs, r) :: M) := fun x hx => by
  rcases List.mem_cons.1 hx with rfl | hx
  · have hS := (semsM_ok hT hFn hM n).ok
    exact ⟨enters_of_enter hS hT h, enter_ok hS.call hT.primOK h⟩
  · exact hM x hx

variable {S : Sems}
variable (T S) in
/-- Code, as far as its n-th part. -/
def runTo : Nat → AC → ASt → Option (AC × ASt)
  | 0, c, st => some (c, st)
  | n + 1, .seq a b, st => match code T S a st with
    | some (.normal, st') => runTo n b st'
    | _ => none
  | n + 1, .hint h c, st => match doHint h st with
    | some st' => runTo n c st'
    | none => none
  | _ + 1, _, _ => none
def tailAt : Nat → AC → AC
  | 0, c => c
  | n + 1, .seq _ b => tailAt n b
  | n + 1, .hint _ c => tailAt n c
  | _ + 1, c => c
theorem runTo_code : ∀ {n : Nat} {c : AC} {st st' : ASt} {c' : AC}, runTo T S n c st = some (c', st') → code T S c st = code T S c' st'
  | 0, c, st, _, _, h => by cases h; rfl
  | n + 1, .seq a b, st, st', c', h => by
    simp only [runTo] at h
    split at h
    · rename_i st1 h1
      simp only [code, h1]
      exact runTo_code h
    · cases h
  | n + 1, .hint hh c, st, st', c', h => by
    simp only [runTo] at h
    split at h
    · rename_i st1 h1
      simp only [code, h1]
      exact runTo_code h
    · cases h
  | _ + 1, .skip, _, _, _, h => by cases h
  | _ + 1, .ops _ _, _, _, _, h => by cases h
  | _ + 1, .cond _ _ _, _, _, _, h => by cases h
  | _ + 1, .block _ _, _, _, _, h => by cases h
  | _ + 1, .loop _, _, _, _, h => by cases h
  | _ + 1, .rng _ _ _ _, _, _, _, h => by cases h
  | _ + 1, .exit _, _, _, _, h => by cases h
  | _ + 1, .ret, _, _, _, h => by cases h
/-- One round of a loop, from behind the hints at its head to there again. -/
theorem loopM {k j : Nat} {b : AC} {x st st1 : ASt} (h0 : runTo T (semsM T M (k + 1)) j b x = some (tailAt j b, st))
    (h1 : (match code T (semsM T M (k + 1)) (tailAt j b) st with | some (.normal, y) => runTo T (semsM T M (k + 1)) j b y | _ => none) = some (tailAt j b, st1)) :
    ∃ y, code T (semsM T M (k + 1)) (.loop b) x = code T (semsM T M k) (.loop b) y ∧ runTo T (semsM T M (k + 1)) j b y = some (tailAt j b, st1) := by
  split at h1
  · rename_i y hy
    refine ⟨y, ?_, h1⟩
    have e : code T (semsM T M (k + 1)) b x = some (.normal, y) := (runTo_code h0).trans hy
    show (match code T (semsM T M (k + 1)) b x with | some (.normal, st') => (semsM T M (k + 1)).code (.loop b) st' | x => x) = _
    rw [e]
    rfl
  · cases h1
end
end Go.Abs
end

section
/- The same run, cut so that the kernel goes through it fast. Conditions: none. -/
namespace Go.Abs
noncomputable section

def K.mv (ρ : Opd → Option AV) (rd : Nat → Option AB) (n : Nat) (x : Opd) : Option ARes := (ρ x).map fun v => .val v .no
def K.pick (ρ : Opd → Option AV) (rd : Nat → Option AB) (n : Nat) (c : Opd) (a : Opd) (b : Opd) : Option ARes := match ρ c with
    | some (.bool t) => (if t then ρ a else ρ b).map fun v => .val v .no
    | _ => none
def K.alloc (ρ : Opd → Option AV) (rd : Nat → Option AB) (n : Nat) (z : List AV) : Option ARes := some (.val (.ptr n 0) (.new (.row z)))
def K.box (ρ : Opd → Option AV) (rd : Nat → Option AB) (n : Nat) (x : Opd) : Option ARes := (ρ x).map fun v => .val (.ptr n 0) (.new (.row v.cells))
def K.build (ρ : Opd → Option AV) (rd : Nat → Option AB) (n : Nat) (z : List AV) (ps : List (Nat × Nat × Opd)) : Option ARes := (parts ρ ps).bind fun l => (fillC z l).map fun cs => .val (.agg cs) .no
def K.bsl (ρ : Opd → Option AV) (rd : Nat → Option AB) (n : Nat) (len : Nat) (z : List AV) (ps : List (Nat × Nat × Opd)) : Option ARes := (parts ρ ps).bind fun l => (fillC z l).map fun cs => .val (.msl n 0 len len) (.new (.row cs))
def K.load (ρ : Opd → Option AV) (rd : Nat → Option AB) (n : Nat) (agg : Bool) (k : Nat) (a : Opd) : Option ARes := match ρ a with
    | some (.ptr b off) => match rd b with
      | some (.row cs) => (takeV agg k (cs.drop off)).map fun v => .val v .no
      | _ => none
    | some (.cptr cs) => (takeV agg k cs).map fun v => .val v .no
    | _ => none
def K.store (ρ : Opd → Option AV) (rd : Nat → Option AB) (n : Nat) (k : Nat) (a : Opd) (x : Opd) : Option ARes := match ρ a, ρ x with
    | some (.ptr b off), some v => match rd b with
      | some (.row cs) => if v.cells.length = k ∧ off + k ≤ cs.length ∧ v.cells.all AV.isCell then some (.val (.tup []) (.upd b (.row (over cs off v.cells)))) else none
      | _ => none
    | _, _ => none
def K.nilc (ρ : Opd → Option AV) (rd : Nat → Option AB) (n : Nat) (x : Opd) : Option ARes := match ρ x with
    | some .nilp | some .nili | some .nilf | some (.fn (.method _) _ _) => none
    | some v => some (.val v .no)
    | none => none
def K.bin (ρ : Opd → Option AV) (rd : Nat → Option AB) (n : Nat) (op : BinOp) (x : Opd) (y : Opd) : Option ARes := match ρ x, ρ y with
    | some a, some b => (abin op a b).map fun v => .val v .no
    | _, _ => none
def K.eqb (ρ : Opd → Option AV) (rd : Nat → Option AB) (n : Nat) (neg : Bool) (x : Opd) (y : Opd) : Option ARes := match ρ x, ρ y with
    | some (.bool a), some (.bool b) => some (.val (.bool (neg != (a == b))) .no)
    | _, _ => none
def K.eqf (ρ : Opd → Option AV) (rd : Nat → Option AB) (n : Nat) (neg : Bool) (ks : List Nat) (x : Opd) (y : Opd) : Option ARes := match ρ x, ρ y with
    | some (.agg a), some (.agg b) => (aeqs ks a b).map fun t => .val (.bool (neg != t)) .no
    | _, _ => none
def K.eqn (ρ : Opd → Option AV) (rd : Nat → Option AB) (n : Nat) (neg : Bool) (k : Nat) (x : Opd) (y : Opd) : Option ARes := match ρ x, ρ y with
    | some a, some b => (aeqn k a b).map fun t => .val (.bool (neg != t)) .no
    | _, _ => none
def K.un (ρ : Opd → Option AV) (rd : Nat → Option AB) (n : Nat) (op : UnOp) (x : Opd) : Option ARes := (ρ x).bind fun v => (aun op v).map fun v => .val v .no
def K.conv (ρ : Opd → Option AV) (rd : Nat → Option AB) (n : Nat) (k : IntKind) (x : Opd) : Option ARes := match ρ x with
    | some (.int _ m) => some (.val (.int k (k.wrap m)) .no)
    | _ => none
def K.b2s (ρ : Opd → Option AV) (rd : Nat → Option AB) (n : Nat) (x : Opd) : Option ARes := (ρ x).bind fun v => (srcOfS rd v).bind fun p => (optAll (fun v => match v with | AV.int .u8 m => some (UInt8.ofNat m.toNat) | _ => none) p.1).map fun l => .val (.str ⟨l.toArray⟩) .no
def K.mkif (ρ : Opd → Option AV) (rd : Nat → Option AB) (n : Nat) (t : TypeId) (x : Opd) : Option ARes := (ρ x).map fun v => .val (.iface t v) .no
def K.mkfn (ρ : Opd → Option AV) (rd : Nat → Option AB) (n : Nat) (f : Fn) (a : List Opd) (b : List Opd) : Option ARes := (optAll ρ a).bind fun a => (optAll ρ b).map fun b => .val (.fn f a b) .no
def K.mkmap (ρ : Opd → Option AV) (rd : Nat → Option AB) (n : Nat)  : Option ARes := some (.val (.mp n) (.new (.map [])))
def K.mksl (ρ : Opd → Option AV) (rd : Nat → Option AB) (n : Nat) (z : List AV) (bytes : Nat) (l : Opd) (c : Opd) : Option ARes := match ρ l, ρ c with
    | some (.int _ l), some (.int _ c) => if 0 ≤ l ∧ l ≤ c ∧ c < 2 ^ 62 ∧ bytes * c ≤ 2 ^ 47 then some (.val (.msl n 0 l.toNat c.toNat) (.new (.row (List.replicate c.toNat z).flatten))) else none
    | _, _ => none
def K.slc (ρ : Opd → Option AV) (rd : Nat → Option AB) (n : Nat) (w : Nat) (x : Opd) (lo : Option Opd) (hi : Option Opd) : Option ARes := match ρ x with
    | some (.csl cs len co nn) => (bound ρ lo 0).bind fun l => (bound ρ hi len).bind fun h =>
      if 0 ≤ l ∧ l ≤ h ∧ (h ≤ len ∨ ∃ c, co = some c ∧ h ≤ c) then some (.val (.csl ((cs.drop (l.toNat * w)).take ((h - l).toNat * w)) (h - l).toNat (co.map (· - l.toNat)) (nn || !cs.isEmpty)) .no) else none
    | some (.msl b off len cap) => (bound ρ lo 0).bind fun l => (bound ρ hi len).bind fun h =>
      if 0 ≤ l ∧ l ≤ h ∧ h ≤ cap then some (.val (.msl b (if cap = l.toNat then off else off + l.toNat * w) (h - l).toNat (cap - l.toNat)) .no) else none
    | some (.gsl b len d) => (bound ρ lo 0).bind fun l => (bound ρ hi len).bind fun h =>
      if l = 0 ∧ 0 ≤ h ∧ h ≤ len then some (.val (.gsl b h.toNat d) .no) else none
    | some .nils => (bound ρ lo 0).bind fun l => (bound ρ hi 0).bind fun h => if l = 0 ∧ h = 0 then some (.val .nils .no) else none
    | _ => none
def K.slcs (ρ : Opd → Option AV) (rd : Nat → Option AB) (n : Nat) (x : Opd) (lo : Option Opd) (hi : Option Opd) : Option ARes := match ρ x with
    | some (.str s) => (bound ρ lo 0).bind fun l => (bound ρ hi s.size).bind fun h =>
      if 0 ≤ l ∧ l ≤ h ∧ h ≤ s.size then some (.val (.str (s.extract l.toNat h.toNat)) .no) else none
    | _ => none
def K.slca (ρ : Opd → Option AV) (rd : Nat → Option AB) (n : Nat) (k : Nat) (w : Nat) (x : Opd) (lo : Option Opd) (hi : Option Opd) : Option ARes := match ρ x with
    | some (.ptr b off) => (bound ρ lo 0).bind fun l => (bound ρ hi k).bind fun h =>
      if 0 ≤ l ∧ l ≤ h ∧ h ≤ k then some (.val (.msl b (if k = l.toNat then off else off + l.toNat * w) (h - l).toNat (k - l.toNat)) .no) else none
    | some (.cptr cs) => (bound ρ lo 0).bind fun l => (bound ρ hi k).bind fun h =>
      if 0 ≤ l ∧ l ≤ h ∧ h ≤ k then some (.val (.csl ((cs.drop (l.toNat * w)).take ((h - l).toNat * w)) (h - l).toNat (some (k - l.toNat)) true) .no) else none
    | _ => none
def K.fld (ρ : Opd → Option AV) (rd : Nat → Option AB) (n : Nat) (off : Nat) (x : Opd) : Option ARes := match ρ x with
    | some (.ptr b o) => some (.val (.ptr b (o + off)) .no)
    | some (.cptr cs) => some (.val (.cptr (cs.drop off)) .no)
    | _ => none
def K.fldv (ρ : Opd → Option AV) (rd : Nat → Option AB) (n : Nat) (agg : Bool) (off : Nat) (k : Nat) (x : Opd) : Option ARes := match ρ x with
    | some (.agg cs) => (takeV agg k (cs.drop off)).map fun v => .val v .no
    | _ => none
def K.idxa (ρ : Opd → Option AV) (rd : Nat → Option AB) (n : Nat) (k : Nat) (w : Nat) (x : Opd) (i : Opd) : Option ARes := match ρ x, ρ i with
    | some (.ptr b o), some (.int _ j) => if 0 ≤ j ∧ j < k then some (.val (.ptr b (o + j.toNat * w)) .no) else none
    | some (.cptr cs), some (.int _ j) => if 0 ≤ j ∧ j < k then some (.val (.cptr ((cs.drop (j.toNat * w)).take w)) .no) else none
    | _, _ => none
def K.idxs (ρ : Opd → Option AV) (rd : Nat → Option AB) (n : Nat) (w : Nat) (x : Opd) (i : Opd) : Option ARes := match ρ x, ρ i with
    | some (.csl cs len _ _), some (.int _ j) => if 0 ≤ j ∧ j < len then some (.val (.cptr ((cs.drop (j.toNat * w)).take w)) .no) else none
    | some (.msl b o len _), some (.int _ j) => if 0 ≤ j ∧ j < len then some (.val (.ptr b (o + j.toNat * w)) .no) else none
    | some (.gsl b len _), some (.int _ j) => if 0 ≤ j ∧ j < len then some (.val (.ptr b (j.toNat * w)) .no) else none
    | _, _ => none
def K.idxv (ρ : Opd → Option AV) (rd : Nat → Option AB) (n : Nat) (k : Nat) (w : Nat) (agg : Bool) (x : Opd) (i : Opd) : Option ARes := match ρ x, ρ i with
    | some (.agg cs), some (.int _ j) => if 0 ≤ j ∧ j < k then (takeV agg w (cs.drop (j.toNat * w))).map fun v => .val v .no else none
    | _, _ => none
def K.idxt (ρ : Opd → Option AV) (rd : Nat → Option AB) (n : Nat) (x : Opd) (i : Opd) : Option ARes := match ρ x, ρ i with
    | some (.str s), some (.int _ j) => if 0 ≤ j then (s[j.toNat]?).map fun b => .val (.int .u8 b.toNat) .no else none
    | _, _ => none
def K.lkp (ρ : Opd → Option AV) (rd : Nat → Option AB) (n : Nat) (g : Bool) (ks : List Nat) (z : AV) (m : Opd) (k : Opd) (ok : Bool) : Option ARes := match ρ m, ρ k with
    | some (.mp b), some k => match rd b with
      | some (.map es) => (keq g ks k k).bind fun _ => (findE g ks es k).map fun r =>
        match r with
        | some (_, v) => .val (if ok then .tup [v, .bool true] else v) .no
        | none => .val (if ok then .tup [z, .bool false] else z) .no
      | _ => none
    | _, _ => none
def K.mset (ρ : Opd → Option AV) (rd : Nat → Option AB) (n : Nat) (g : Bool) (ks : List Nat) (m : Opd) (k : Opd) (v : Opd) : Option ARes := match ρ m, ρ k, ρ v with
    | some (.mp b), some k, some v => match rd b with
      | some (.map es) => (keq g ks k k).bind fun _ => (findE g ks es k).map fun r =>
        match r with
        | some (i, _) => .val (.tup []) (.upd b (.map (es.set i (k, v))))
        | none => .val (.tup []) (.upd b (.map (es ++ [(k, v)])))
      | _ => none
    | _, _, _ => none
def K.ext (ρ : Opd → Option AV) (rd : Nat → Option AB) (n : Nat) (x : Opd) (i : Nat) : Option ARes := match ρ x with
    | some (.tup vs) => (vs[i]?).map fun v => .val v .no
    | _ => none
def K.len (ρ : Opd → Option AV) (rd : Nat → Option AB) (n : Nat) (x : Opd) : Option ARes := match ρ x with
    | some (.csl _ l _ _) | some (.msl _ _ l _) | some (.gsl _ l _) => some (.val (.int .i64 l) .no)
    | some .nils => some (.val (.int .i64 0) .no)
    | _ => none
def K.lent (ρ : Opd → Option AV) (rd : Nat → Option AB) (n : Nat) (x : Opd) : Option ARes := match ρ x with
    | some (.str s) => some (.val (.int .i64 s.size) .no)
    | _ => none
def K.cvs (ρ : Opd → Option AV) (rd : Nat → Option AB) (n : Nat) (x : Opd) : Option ARes := match ρ x with
    | some (.str s) => some (.val (.str s) .no)
    | _ => none
def K.cap (ρ : Opd → Option AV) (rd : Nat → Option AB) (n : Nat) (x : Opd) : Option ARes := match ρ x with
    | some (.csl _ _ (some c) _) | some (.msl _ _ _ c) => some (.val (.int .i64 c) .no)
    | some .nils => some (.val (.int .i64 0) .no)
    | _ => none
def K.app (ρ : Opd → Option AV) (rd : Nat → Option AB) (n : Nat) (w : Nat) (bytes : Nat) (s : Opd) (x : Opd) : Option ARes := (ρ s).bind fun sv => (ρ x).bind fun xv => (srcOf rd w xv).bind fun p =>
    match sv with
    | .nils => if p.2 = 0 then some (.val .nils .no) else
      if p.2 * bytes ≤ maxLen' then some (.val (.gsl n p.2 w) (.new (.row p.1))) else none
    | .csl cs len co nn => if p.2 = 0 then some (.val (.csl cs len co nn) .no) else
      match co with
      | some c => if c < len + p.2 ∧ len * w ≤ cs.length ∧ (len + p.2) * bytes ≤ maxLen' then some (.val (.gsl n (len + p.2) w) (.new (.row (cs.take (len * w) ++ p.1)))) else none
      | none => none
    | .msl b off len cap => match rd b with
      | some (.row cs) =>
        if off + len * w ≤ cs.length then
          if len + p.2 ≤ cap then
            if off + (len + p.2) * w ≤ cs.length ∧ p.1.all AV.isCell then some (.val (.msl b off (len + p.2) cap) (.upd b (.row (over cs (off + len * w) p.1)))) else none
          else if (len + p.2) * bytes ≤ maxLen' then some (.val (.gsl n (len + p.2) w) (.new (.row ((cs.drop off).take (len * w) ++ p.1)))) else none
        else none
      | _ => none
    | .gsl b len d => match rd b with
      | some (.row cs) => if len * w ≤ cs.length ∧ d = w ∧ p.1.all AV.isCell ∧ (len + p.2) * bytes ≤ maxLen' then some (.val (.gsl n (len + p.2) w) (.mv b (.row (cs.take (len * w) ++ p.1)))) else none
      | _ => none
    | _ => none
def K.copy (ρ : Opd → Option AV) (rd : Nat → Option AB) (n : Nat) (w : Nat) (d : Opd) (s : Opd) : Option ARes := (ρ d).bind fun dv => (ρ s).bind fun sv => (srcOf rd w sv).bind fun p =>
    match dv with
    | .msl b off len _ => match rd b with
      | some (.row cs) => if off + len * w ≤ cs.length ∧ p.1.all AV.isCell then some (.val (.int .i64 (min p.2 len : Nat)) (.upd b (.row (over cs off (p.1.take (min p.2 len * w)))))) else none
      | _ => none
    | .gsl b len _ => match rd b with
      | some (.row cs) => if len * w ≤ cs.length ∧ p.1.all AV.isCell then some (.val (.int .i64 (min p.2 len : Nat)) (.upd b (.row (over cs 0 (p.1.take (min p.2 len * w)))))) else none
      | _ => none
    | _ => none
def K.mx (ρ : Opd → Option AV) (rd : Nat → Option AB) (n : Nat) (xs : List Opd) : Option ARes := (optAll ρ xs).bind fun l => match l with
    | [.int k a, .int _ b] => some (.val (.int k (if a < b then b else a)) .no)
    | _ => none
def K.mn (ρ : Opd → Option AV) (rd : Nat → Option AB) (n : Nat) (xs : List Opd) : Option ARes := (optAll ρ xs).bind fun l => match l with
    | [.int k a, .int _ b] => some (.val (.int k (if b < a then b else a)) .no)
    | _ => none
def K.tas (ρ : Opd → Option AV) (rd : Nat → Option AB) (n : Nat) (t : TypeId) (z : AV) (x : Opd) (ok : Bool) : Option ARes := match ρ x with
    | some (.iface u v) => if u = t then some (.val (if ok then .tup [v, .bool true] else v) .no) else if ok then some (.val (.tup [z, .bool false]) .no) else none
    | some .nili => if ok then some (.val (.tup [z, .bool false]) .no) else none
    | _ => none
def K.pan (ρ : Opd → Option AV) (rd : Nat → Option AB) (n : Nat) (x : Opd) : Option ARes := match ρ x with
    | some (.iface t v) => some (.pan (.iface t v))
    | _ => none

/-- A temporary's value. -/
def getF (t : Nat) (e : Env) : Option AV := List.rec none (fun p _ r => Bool.rec r (some p.2) (Nat.beq p.1 t)) e
theorem getF_eq (t : Nat) : ∀ e : Env, getF t e = e.get t
  | [] => rfl
  | (k, v) :: r => by
    have ih := getF_eq t r
    show (Bool.rec (getF t r) (some v) (Nat.beq k t) : Option AV) = if k = t then some v else Env.get r t
    cases hb : Nat.beq k t with
    | true => rw [if_pos (Nat.eq_of_beq_eq_true hb)]
    | false => rw [if_neg (fun h => by rw [h] at hb; exact absurd (Nat.beq_refl t) (by rw [hb]; decide)), ih]
def valF (T : Tab) (e : Env) (o : Opd) : Option AV := Opd.rec (fun n => getF n e) some (fun n => (T.gl n).map .cptr) o
theorem valF_eq (T : Tab) (e : Env) : valF T e = val T e := funext fun o => by cases o with
  | t n => exact getF_eq n e
  | c v => rfl
  | g n => rfl
def rdF (H : List AB) (b : Nat) : Option AB := List.rec (fun _ => none) (fun x _ r n => Nat.rec (some x) (fun m _ => r m) n) H b
theorem rdF_eq : ∀ (H : List AB) (b : Nat), rdF H b = H[b]?
  | [], b => by cases b <;> rfl
  | x :: H, 0 => rfl
  | x :: H, b + 1 => by
    have ih := rdF_eq H b
    show rdF H b = _
    rw [ih]; rfl
theorem rdF_fun (H : List AB) : rdF H = (H[·]?) := funext (rdF_eq H)
/-- A number, brought to its form ahead of what is done with it. -/
def fcN {β : Type} (n : Nat) (k : Nat → β) : β := Nat.rec (k 0) (fun m _ => k (Nat.succ m)) n
theorem fcN_eq {β : Type} (n : Nat) (k : Nat → β) : fcN n k = k n := by cases n <;> rfl
def fcI {β : Type} (z : Int) (k : Int → β) : β := Int.rec (fun n => fcN n fun n => k (Int.ofNat n)) (fun n => fcN n fun n => k (Int.negSucc n)) z
theorem fcI_eq {β : Type} (z : Int) (k : Int → β) : fcI z k = k z := by
  cases z with
  | ofNat n => exact fcN_eq n fun n => k (Int.ofNat n)
  | negSucc n => exact fcN_eq n fun n => k (Int.negSucc n)
/-- A list, its spine brought to its form. -/
def fcL {α β : Type} (l : List α) (k : List α → β) : β := List.rec (motive := fun _ => (List α → β) → β) (fun k => k []) (fun x _ r k => r fun ys => k (x :: ys)) l k
theorem fcL_eq {α β : Type} : ∀ (l : List α) (k : List α → β), fcL l k = k l
  | [], k => rfl
  | x :: l, k => fcL_eq l fun ys => k (x :: ys)
def fcV {β : Type} (v : AV) (k : AV → β) : β := match v with
  | .int q z => fcI z fun z => k (.int q z)
  | v => k v
theorem fcV_eq {β : Type} (v : AV) (k : AV → β) : fcV v k = k v := by
  cases v with
  | int q z => exact fcI_eq z fun z => k (.int q z)
  | _ => rfl
def fcE {β : Type} (H : List AB) (e : AEff) (k : List AB → β) : β := AEff.rec (k H) (fun b B => fcL (H.set b B) k) (fun B => fcL (H ++ [B]) k) (fun b B => fcL (H.set b .dead ++ [B]) k) e
theorem fcE_eq {β : Type} (H : List AB) (e : AEff) (k : List AB → β) : fcE H e k = k (e.at H) := by
  cases e with
  | no => rfl
  | upd b B => exact fcL_eq _ k
  | new B => exact fcL_eq _ k
  | mv b B => exact fcL_eq _ k
def K.out (d : Option Nat) (env : Env) (dfs : List ADf) (base nt : Nat) (ro : Option Nat) (v : AV) (H : List AB) : Option AStep :=
  Option.rec (some (.next ⟨env, H, dfs, base, nt, ro⟩)) (fun d => Bool.rec none (some (.next ⟨(d, v) :: env, H, dfs, base, nt, ro⟩)) (Nat.ble (Nat.succ d) nt)) d
def K.fin (d : Option Nat) (env : Env) (H : List AB) (dfs : List ADf) (base nt : Nat) (ro : Option Nat) (r : Option ARes) : Option AStep :=
  Option.rec none (fun r => ARes.rec (fun v e => fcV v fun v => fcE H e fun H => K.out d env dfs base nt ro v H) (fun v => some (.out (.panic v) ⟨env, H, dfs, base, nt, ro⟩)) r) r
theorem K.fin_eq (d : Option Nat) (st : ASt) (r : Option ARes) : K.fin d st.env st.H st.dfs st.base st.nt st.ro r = (match r with | some (.val v e) => ({ st with H := e.at st.H }.put d v).map .next | some (.pan v) => some (.out (.panic v) st) | none => none) := by
  cases r with
  | none => rfl
  | some r =>
    cases r with
    | pan v => rfl
    | val v e =>
      show (fcV v fun v => fcE st.H e fun H => K.out d st.env st.dfs st.base st.nt st.ro v H) = _
      rw [fcV_eq, fcE_eq]
      cases d with
      | none => rfl
      | some d =>
        show (Bool.rec none (some (.next ⟨(d, v) :: st.env, e.at st.H, st.dfs, st.base, st.nt, st.ro⟩)) (Nat.ble (Nat.succ d) st.nt) : Option AStep) = _
        simp only [ASt.put]
        by_cases h : d < st.nt
        · have : Nat.ble (Nat.succ d) st.nt = true := Nat.ble_eq_true_of_le h
          rw [this, if_pos h]; rfl
        · have : Nat.ble (Nat.succ d) st.nt = false := by
            rw [Bool.eq_false_iff]; intro hb; exact h (Nat.le_of_ble_eq_true hb)
          rw [this, if_neg h]; rfl
abbrev FT := Tab → Sems → Option Nat → ASt → Option AStep

def F.mv (a0 : Opd) : FT := fun T _ d st => ASt.rec (fun env H dfs base nt ro => K.fin d env H dfs base nt ro (K.mv (valF T env) (rdF H) H.length a0)) st
def F.pick (a0 : Opd) (a1 : Opd) (a2 : Opd) : FT := fun T _ d st => ASt.rec (fun env H dfs base nt ro => K.fin d env H dfs base nt ro (K.pick (valF T env) (rdF H) H.length a0 a1 a2)) st
def F.alloc (a0 : List AV) : FT := fun T _ d st => ASt.rec (fun env H dfs base nt ro => K.fin d env H dfs base nt ro (fcN H.length fun n => K.alloc (valF T env) (rdF H) n a0)) st
def F.box (a0 : Opd) : FT := fun T _ d st => ASt.rec (fun env H dfs base nt ro => K.fin d env H dfs base nt ro (fcN H.length fun n => K.box (valF T env) (rdF H) n a0)) st
def F.build (a0 : List AV) (a1 : List (Nat × Nat × Opd)) : FT := fun T _ d st => ASt.rec (fun env H dfs base nt ro => K.fin d env H dfs base nt ro (K.build (valF T env) (rdF H) H.length a0 a1)) st
def F.bsl (a0 : Nat) (a1 : List AV) (a2 : List (Nat × Nat × Opd)) : FT := fun T _ d st => ASt.rec (fun env H dfs base nt ro => K.fin d env H dfs base nt ro (fcN H.length fun n => K.bsl (valF T env) (rdF H) n a0 a1 a2)) st
def F.load (a0 : Bool) (a1 : Nat) (a2 : Opd) : FT := fun T _ d st => ASt.rec (fun env H dfs base nt ro => K.fin d env H dfs base nt ro (K.load (valF T env) (rdF H) H.length a0 a1 a2)) st
def F.store (a0 : Nat) (a1 : Opd) (a2 : Opd) : FT := fun T _ d st => ASt.rec (fun env H dfs base nt ro => K.fin d env H dfs base nt ro (K.store (valF T env) (rdF H) H.length a0 a1 a2)) st
def F.nilc (a0 : Opd) : FT := fun T _ d st => ASt.rec (fun env H dfs base nt ro => K.fin d env H dfs base nt ro (K.nilc (valF T env) (rdF H) H.length a0)) st
def F.bin (a0 : BinOp) (a1 : Opd) (a2 : Opd) : FT := fun T _ d st => ASt.rec (fun env H dfs base nt ro => K.fin d env H dfs base nt ro (K.bin (valF T env) (rdF H) H.length a0 a1 a2)) st
def F.eqb (a0 : Bool) (a1 : Opd) (a2 : Opd) : FT := fun T _ d st => ASt.rec (fun env H dfs base nt ro => K.fin d env H dfs base nt ro (K.eqb (valF T env) (rdF H) H.length a0 a1 a2)) st
def F.eqf (a0 : Bool) (a1 : List Nat) (a2 : Opd) (a3 : Opd) : FT := fun T _ d st => ASt.rec (fun env H dfs base nt ro => K.fin d env H dfs base nt ro (K.eqf (valF T env) (rdF H) H.length a0 a1 a2 a3)) st
def F.eqn (a0 : Bool) (a1 : Nat) (a2 : Opd) (a3 : Opd) : FT := fun T _ d st => ASt.rec (fun env H dfs base nt ro => K.fin d env H dfs base nt ro (K.eqn (valF T env) (rdF H) H.length a0 a1 a2 a3)) st
def F.un (a0 : UnOp) (a1 : Opd) : FT := fun T _ d st => ASt.rec (fun env H dfs base nt ro => K.fin d env H dfs base nt ro (K.un (valF T env) (rdF H) H.length a0 a1)) st
def F.conv (a0 : IntKind) (a1 : Opd) : FT := fun T _ d st => ASt.rec (fun env H dfs base nt ro => K.fin d env H dfs base nt ro (K.conv (valF T env) (rdF H) H.length a0 a1)) st
def F.b2s (a0 : Opd) : FT := fun T _ d st => ASt.rec (fun env H dfs base nt ro => K.fin d env H dfs base nt ro (K.b2s (valF T env) (rdF H) H.length a0)) st
def F.mkif (a0 : TypeId) (a1 : Opd) : FT := fun T _ d st => ASt.rec (fun env H dfs base nt ro => K.fin d env H dfs base nt ro (K.mkif (valF T env) (rdF H) H.length a0 a1)) st
def F.mkfn (a0 : Fn) (a1 : List Opd) (a2 : List Opd) : FT := fun T _ d st => ASt.rec (fun env H dfs base nt ro => K.fin d env H dfs base nt ro (fcN H.length fun n => K.mkfn (valF T env) (rdF H) n a0 a1 a2)) st
def F.mkmap  : FT := fun T _ d st => ASt.rec (fun env H dfs base nt ro => K.fin d env H dfs base nt ro (fcN H.length fun n => K.mkmap (valF T env) (rdF H) n )) st
def F.mksl (a0 : List AV) (a1 : Nat) (a2 : Opd) (a3 : Opd) : FT := fun T _ d st => ASt.rec (fun env H dfs base nt ro => K.fin d env H dfs base nt ro (fcN H.length fun n => K.mksl (valF T env) (rdF H) n a0 a1 a2 a3)) st
def F.slc (a0 : Nat) (a1 : Opd) (a2 : Option Opd) (a3 : Option Opd) : FT := fun T _ d st => ASt.rec (fun env H dfs base nt ro => K.fin d env H dfs base nt ro (K.slc (valF T env) (rdF H) H.length a0 a1 a2 a3)) st
def F.slcs (a0 : Opd) (a1 : Option Opd) (a2 : Option Opd) : FT := fun T _ d st => ASt.rec (fun env H dfs base nt ro => K.fin d env H dfs base nt ro (K.slcs (valF T env) (rdF H) H.length a0 a1 a2)) st
def F.slca (a0 : Nat) (a1 : Nat) (a2 : Opd) (a3 : Option Opd) (a4 : Option Opd) : FT := fun T _ d st => ASt.rec (fun env H dfs base nt ro => K.fin d env H dfs base nt ro (K.slca (valF T env) (rdF H) H.length a0 a1 a2 a3 a4)) st
def F.fld (a0 : Nat) (a1 : Opd) : FT := fun T _ d st => ASt.rec (fun env H dfs base nt ro => K.fin d env H dfs base nt ro (K.fld (valF T env) (rdF H) H.length a0 a1)) st
def F.fldv (a0 : Bool) (a1 : Nat) (a2 : Nat) (a3 : Opd) : FT := fun T _ d st => ASt.rec (fun env H dfs base nt ro => K.fin d env H dfs base nt ro (K.fldv (valF T env) (rdF H) H.length a0 a1 a2 a3)) st
def F.idxa (a0 : Nat) (a1 : Nat) (a2 : Opd) (a3 : Opd) : FT := fun T _ d st => ASt.rec (fun env H dfs base nt ro => K.fin d env H dfs base nt ro (K.idxa (valF T env) (rdF H) H.length a0 a1 a2 a3)) st
def F.idxs (a0 : Nat) (a1 : Opd) (a2 : Opd) : FT := fun T _ d st => ASt.rec (fun env H dfs base nt ro => K.fin d env H dfs base nt ro (K.idxs (valF T env) (rdF H) H.length a0 a1 a2)) st
def F.idxv (a0 : Nat) (a1 : Nat) (a2 : Bool) (a3 : Opd) (a4 : Opd) : FT := fun T _ d st => ASt.rec (fun env H dfs base nt ro => K.fin d env H dfs base nt ro (K.idxv (valF T env) (rdF H) H.length a0 a1 a2 a3 a4)) st
def F.idxt (a0 : Opd) (a1 : Opd) : FT := fun T _ d st => ASt.rec (fun env H dfs base nt ro => K.fin d env H dfs base nt ro (K.idxt (valF T env) (rdF H) H.length a0 a1)) st
def F.lkp (a0 : Bool) (a1 : List Nat) (a2 : AV) (a3 : Opd) (a4 : Opd) (a5 : Bool) : FT := fun T _ d st => ASt.rec (fun env H dfs base nt ro => K.fin d env H dfs base nt ro (K.lkp (valF T env) (rdF H) H.length a0 a1 a2 a3 a4 a5)) st
def F.mset (a0 : Bool) (a1 : List Nat) (a2 : Opd) (a3 : Opd) (a4 : Opd) : FT := fun T _ d st => ASt.rec (fun env H dfs base nt ro => K.fin d env H dfs base nt ro (K.mset (valF T env) (rdF H) H.length a0 a1 a2 a3 a4)) st
def F.ext (a0 : Opd) (a1 : Nat) : FT := fun T _ d st => ASt.rec (fun env H dfs base nt ro => K.fin d env H dfs base nt ro (K.ext (valF T env) (rdF H) H.length a0 a1)) st
def F.len (a0 : Opd) : FT := fun T _ d st => ASt.rec (fun env H dfs base nt ro => K.fin d env H dfs base nt ro (K.len (valF T env) (rdF H) H.length a0)) st
def F.lent (a0 : Opd) : FT := fun T _ d st => ASt.rec (fun env H dfs base nt ro => K.fin d env H dfs base nt ro (K.lent (valF T env) (rdF H) H.length a0)) st
def F.cvs (a0 : Opd) : FT := fun T _ d st => ASt.rec (fun env H dfs base nt ro => K.fin d env H dfs base nt ro (K.cvs (valF T env) (rdF H) H.length a0)) st
def F.cap (a0 : Opd) : FT := fun T _ d st => ASt.rec (fun env H dfs base nt ro => K.fin d env H dfs base nt ro (K.cap (valF T env) (rdF H) H.length a0)) st
def F.app (a0 : Nat) (a1 : Nat) (a2 : Opd) (a3 : Opd) : FT := fun T _ d st => ASt.rec (fun env H dfs base nt ro => K.fin d env H dfs base nt ro (fcN H.length fun n => K.app (valF T env) (rdF H) n a0 a1 a2 a3)) st
def F.copy (a0 : Nat) (a1 : Opd) (a2 : Opd) : FT := fun T _ d st => ASt.rec (fun env H dfs base nt ro => K.fin d env H dfs base nt ro (K.copy (valF T env) (rdF H) H.length a0 a1 a2)) st
def F.mx (a0 : List Opd) : FT := fun T _ d st => ASt.rec (fun env H dfs base nt ro => K.fin d env H dfs base nt ro (K.mx (valF T env) (rdF H) H.length a0)) st
def F.mn (a0 : List Opd) : FT := fun T _ d st => ASt.rec (fun env H dfs base nt ro => K.fin d env H dfs base nt ro (K.mn (valF T env) (rdF H) H.length a0)) st
def F.tas (a0 : TypeId) (a1 : AV) (a2 : Opd) (a3 : Bool) : FT := fun T _ d st => ASt.rec (fun env H dfs base nt ro => K.fin d env H dfs base nt ro (K.tas (valF T env) (rdF H) H.length a0 a1 a2 a3)) st
def F.pan (a0 : Opd) : FT := fun T _ d st => ASt.rec (fun env H dfs base nt ro => K.fin d env H dfs base nt ro (K.pan (valF T env) (rdF H) H.length a0)) st
def F.rcv  : FT := fun T S d st => stepO T S ⟨d, none, .rcv ⟩ st
def F.dfr (a0 : Opd) (a1 : List Opd) : FT := fun T S d st => stepO T S ⟨d, none, .dfr a0 a1⟩ st
def F.call (a0 : Nat) (a1 : Opd) (a2 : List Opd) : FT := fun T S d st => (valF T st.env a1).bind fun f => (optAll (valF T st.env) a2).bind fun xs => (invoke T S a0 f xs st.H).bind (finO d st)
def F.inv (a0 : Nat) (a1 : Opd) (a2 : String) (a3 : List Opd) : FT := fun T S d st => stepO T S ⟨d, none, .inv a0 a1 a2 a3⟩ st
def opF (op : AOp) : FT := AOp.rec (motive := fun _ => FT) F.mv F.pick F.alloc F.box F.build F.bsl F.load F.store F.nilc F.bin F.eqb F.eqf F.eqn F.un F.conv F.b2s F.mkif F.mkfn F.mkmap F.mksl F.slc F.slcs F.slca F.fld F.fldv F.idxa F.idxs F.idxv F.idxt F.lkp F.mset F.ext F.len F.lent F.cvs F.cap F.app F.copy F.mx F.mn F.tas F.pan F.rcv F.dfr F.call F.inv op

theorem opF_eq (T : Tab) (S : Sems) (o : AO) (st : ASt) : opF o.op T S o.dst st = stepO T S o st := by
  obtain ⟨d, g, op⟩ := o
  cases op

  case mv a0 =>
    show K.fin d st.env st.H st.dfs st.base st.nt st.ro (K.mv (valF T st.env) (rdF st.H) st.H.length a0) = _
    rw [K.fin_eq, valF_eq, rdF_fun]; rfl
  case pick a0 a1 a2 =>
    show K.fin d st.env st.H st.dfs st.base st.nt st.ro (K.pick (valF T st.env) (rdF st.H) st.H.length a0 a1 a2) = _
    rw [K.fin_eq, valF_eq, rdF_fun]; rfl
  case alloc a0 =>
    show K.fin d st.env st.H st.dfs st.base st.nt st.ro (fcN st.H.length fun n => K.alloc (valF T st.env) (rdF st.H) n a0) = _
    rw [K.fin_eq, fcN_eq, valF_eq, rdF_fun]; rfl
  case box a0 =>
    show K.fin d st.env st.H st.dfs st.base st.nt st.ro (fcN st.H.length fun n => K.box (valF T st.env) (rdF st.H) n a0) = _
    rw [K.fin_eq, fcN_eq, valF_eq, rdF_fun]; rfl
  case build a0 a1 =>
    show K.fin d st.env st.H st.dfs st.base st.nt st.ro (K.build (valF T st.env) (rdF st.H) st.H.length a0 a1) = _
    rw [K.fin_eq, valF_eq, rdF_fun]; rfl
  case bsl a0 a1 a2 =>
    show K.fin d st.env st.H st.dfs st.base st.nt st.ro (fcN st.H.length fun n => K.bsl (valF T st.env) (rdF st.H) n a0 a1 a2) = _
    rw [K.fin_eq, fcN_eq, valF_eq, rdF_fun]; rfl
  case load a0 a1 a2 =>
    show K.fin d st.env st.H st.dfs st.base st.nt st.ro (K.load (valF T st.env) (rdF st.H) st.H.length a0 a1 a2) = _
    rw [K.fin_eq, valF_eq, rdF_fun]; rfl
  case store a0 a1 a2 =>
    show K.fin d st.env st.H st.dfs st.base st.nt st.ro (K.store (valF T st.env) (rdF st.H) st.H.length a0 a1 a2) = _
    rw [K.fin_eq, valF_eq, rdF_fun]; rfl
  case nilc a0 =>
    show K.fin d st.env st.H st.dfs st.base st.nt st.ro (K.nilc (valF T st.env) (rdF st.H) st.H.length a0) = _
    rw [K.fin_eq, valF_eq, rdF_fun]; rfl
  case bin a0 a1 a2 =>
    show K.fin d st.env st.H st.dfs st.base st.nt st.ro (K.bin (valF T st.env) (rdF st.H) st.H.length a0 a1 a2) = _
    rw [K.fin_eq, valF_eq, rdF_fun]; rfl
  case eqb a0 a1 a2 =>
    show K.fin d st.env st.H st.dfs st.base st.nt st.ro (K.eqb (valF T st.env) (rdF st.H) st.H.length a0 a1 a2) = _
    rw [K.fin_eq, valF_eq, rdF_fun]; rfl
  case eqf a0 a1 a2 a3 =>
    show K.fin d st.env st.H st.dfs st.base st.nt st.ro (K.eqf (valF T st.env) (rdF st.H) st.H.length a0 a1 a2 a3) = _
    rw [K.fin_eq, valF_eq, rdF_fun]; rfl
  case eqn a0 a1 a2 a3 =>
    show K.fin d st.env st.H st.dfs st.base st.nt st.ro (K.eqn (valF T st.env) (rdF st.H) st.H.length a0 a1 a2 a3) = _
    rw [K.fin_eq, valF_eq, rdF_fun]; rfl
  case un a0 a1 =>
    show K.fin d st.env st.H st.dfs st.base st.nt st.ro (K.un (valF T st.env) (rdF st.H) st.H.length a0 a1) = _
    rw [K.fin_eq, valF_eq, rdF_fun]; rfl
  case conv a0 a1 =>
    show K.fin d st.env st.H st.dfs st.base st.nt st.ro (K.conv (valF T st.env) (rdF st.H) st.H.length a0 a1) = _
    rw [K.fin_eq, valF_eq, rdF_fun]; rfl
  case b2s a0 =>
    show K.fin d st.env st.H st.dfs st.base st.nt st.ro (K.b2s (valF T st.env) (rdF st.H) st.H.length a0) = _
    rw [K.fin_eq, valF_eq, rdF_fun]; rfl
  case mkif a0 a1 =>
    show K.fin d st.env st.H st.dfs st.base st.nt st.ro (K.mkif (valF T st.env) (rdF st.H) st.H.length a0 a1) = _
    rw [K.fin_eq, valF_eq, rdF_fun]; rfl
  case mkfn a0 a1 a2 =>
    show K.fin d st.env st.H st.dfs st.base st.nt st.ro (fcN st.H.length fun n => K.mkfn (valF T st.env) (rdF st.H) n a0 a1 a2) = _
    rw [K.fin_eq, fcN_eq, valF_eq, rdF_fun]; rfl
  case mkmap  =>
    show K.fin d st.env st.H st.dfs st.base st.nt st.ro (fcN st.H.length fun n => K.mkmap (valF T st.env) (rdF st.H) n ) = _
    rw [K.fin_eq, fcN_eq, valF_eq, rdF_fun]; rfl
  case mksl a0 a1 a2 a3 =>
    show K.fin d st.env st.H st.dfs st.base st.nt st.ro (fcN st.H.length fun n => K.mksl (valF T st.env) (rdF st.H) n a0 a1 a2 a3) = _
    rw [K.fin_eq, fcN_eq, valF_eq, rdF_fun]; rfl
  case slc a0 a1 a2 a3 =>
    show K.fin d st.env st.H st.dfs st.base st.nt st.ro (K.slc (valF T st.env) (rdF st.H) st.H.length a0 a1 a2 a3) = _
    rw [K.fin_eq, valF_eq, rdF_fun]; rfl
  case slcs a0 a1 a2 =>
    show K.fin d st.env st.H st.dfs st.base st.nt st.ro (K.slcs (valF T st.env) (rdF st.H) st.H.length a0 a1 a2) = _
    rw [K.fin_eq, valF_eq, rdF_fun]; rfl
  case slca a0 a1 a2 a3 a4 =>
    show K.fin d st.env st.H st.dfs st.base st.nt st.ro (K.slca (valF T st.env) (rdF st.H) st.H.length a0 a1 a2 a3 a4) = _
    rw [K.fin_eq, valF_eq, rdF_fun]; rfl
  case fld a0 a1 =>
    show K.fin d st.env st.H st.dfs st.base st.nt st.ro (K.fld (valF T st.env) (rdF st.H) st.H.length a0 a1) = _
    rw [K.fin_eq, valF_eq, rdF_fun]; rfl
  case fldv a0 a1 a2 a3 =>
    show K.fin d st.env st.H st.dfs st.base st.nt st.ro (K.fldv (valF T st.env) (rdF st.H) st.H.length a0 a1 a2 a3) = _
    rw [K.fin_eq, valF_eq, rdF_fun]; rfl
  case idxa a0 a1 a2 a3 =>
    show K.fin d st.env st.H st.dfs st.base st.nt st.ro (K.idxa (valF T st.env) (rdF st.H) st.H.length a0 a1 a2 a3) = _
    rw [K.fin_eq, valF_eq, rdF_fun]; rfl
  case idxs a0 a1 a2 =>
    show K.fin d st.env st.H st.dfs st.base st.nt st.ro (K.idxs (valF T st.env) (rdF st.H) st.H.length a0 a1 a2) = _
    rw [K.fin_eq, valF_eq, rdF_fun]; rfl
  case idxv a0 a1 a2 a3 a4 =>
    show K.fin d st.env st.H st.dfs st.base st.nt st.ro (K.idxv (valF T st.env) (rdF st.H) st.H.length a0 a1 a2 a3 a4) = _
    rw [K.fin_eq, valF_eq, rdF_fun]; rfl
  case idxt a0 a1 =>
    show K.fin d st.env st.H st.dfs st.base st.nt st.ro (K.idxt (valF T st.env) (rdF st.H) st.H.length a0 a1) = _
    rw [K.fin_eq, valF_eq, rdF_fun]; rfl
  case lkp a0 a1 a2 a3 a4 a5 =>
    show K.fin d st.env st.H st.dfs st.base st.nt st.ro (K.lkp (valF T st.env) (rdF st.H) st.H.length a0 a1 a2 a3 a4 a5) = _
    rw [K.fin_eq, valF_eq, rdF_fun]; rfl
  case mset a0 a1 a2 a3 a4 =>
    show K.fin d st.env st.H st.dfs st.base st.nt st.ro (K.mset (valF T st.env) (rdF st.H) st.H.length a0 a1 a2 a3 a4) = _
    rw [K.fin_eq, valF_eq, rdF_fun]; rfl
  case ext a0 a1 =>
    show K.fin d st.env st.H st.dfs st.base st.nt st.ro (K.ext (valF T st.env) (rdF st.H) st.H.length a0 a1) = _
    rw [K.fin_eq, valF_eq, rdF_fun]; rfl
  case len a0 =>
    show K.fin d st.env st.H st.dfs st.base st.nt st.ro (K.len (valF T st.env) (rdF st.H) st.H.length a0) = _
    rw [K.fin_eq, valF_eq, rdF_fun]; rfl
  case lent a0 =>
    show K.fin d st.env st.H st.dfs st.base st.nt st.ro (K.lent (valF T st.env) (rdF st.H) st.H.length a0) = _
    rw [K.fin_eq, valF_eq, rdF_fun]; rfl
  case cvs a0 =>
    show K.fin d st.env st.H st.dfs st.base st.nt st.ro (K.cvs (valF T st.env) (rdF st.H) st.H.length a0) = _
    rw [K.fin_eq, valF_eq, rdF_fun]; rfl
  case cap a0 =>
    show K.fin d st.env st.H st.dfs st.base st.nt st.ro (K.cap (valF T st.env) (rdF st.H) st.H.length a0) = _
    rw [K.fin_eq, valF_eq, rdF_fun]; rfl
  case app a0 a1 a2 a3 =>
    show K.fin d st.env st.H st.dfs st.base st.nt st.ro (fcN st.H.length fun n => K.app (valF T st.env) (rdF st.H) n a0 a1 a2 a3) = _
    rw [K.fin_eq, fcN_eq, valF_eq, rdF_fun]; rfl
  case copy a0 a1 a2 =>
    show K.fin d st.env st.H st.dfs st.base st.nt st.ro (K.copy (valF T st.env) (rdF st.H) st.H.length a0 a1 a2) = _
    rw [K.fin_eq, valF_eq, rdF_fun]; rfl
  case mx a0 =>
    show K.fin d st.env st.H st.dfs st.base st.nt st.ro (K.mx (valF T st.env) (rdF st.H) st.H.length a0) = _
    rw [K.fin_eq, valF_eq, rdF_fun]; rfl
  case mn a0 =>
    show K.fin d st.env st.H st.dfs st.base st.nt st.ro (K.mn (valF T st.env) (rdF st.H) st.H.length a0) = _
    rw [K.fin_eq, valF_eq, rdF_fun]; rfl
  case tas a0 a1 a2 a3 =>
    show K.fin d st.env st.H st.dfs st.base st.nt st.ro (K.tas (valF T st.env) (rdF st.H) st.H.length a0 a1 a2 a3) = _
    rw [K.fin_eq, valF_eq, rdF_fun]; rfl
  case pan a0 =>
    show K.fin d st.env st.H st.dfs st.base st.nt st.ro (K.pan (valF T st.env) (rdF st.H) st.H.length a0) = _
    rw [K.fin_eq, valF_eq, rdF_fun]; rfl
  case rcv  => rfl
  case dfr a0 a1 => rfl
  case call a0 a1 a2 =>
    show ((valF T st.env a1).bind fun f => (optAll (valF T st.env) a2).bind fun xs => (invoke T S a0 f xs st.H).bind (finO d st)) = _
    rw [valF_eq]; rfl
  case inv a0 a1 a2 a3 => rfl

section
variable (T : Tab) (S : Sems)
def guardF (o : AO) (st : ASt) : Option Bool := Option.rec (some true) (fun p => match getF p.1 st.env with
    | some (.bool b) => some (b == p.2)
    | some (.tup []) => some false
    | _ => none) o.guard
theorem guardF_eq (o : AO) (st : ASt) : guardF o st = guardO o st := by
  obtain ⟨d, g, op⟩ := o
  cases g with
  | none => rfl
  | some p =>
    show (match getF p.1 st.env with | some (.bool b) => some (b == p.2) | some (.tup []) => some false | _ => none) = _
    rw [getF_eq]; rfl
def R.opt {α β : Type} (n : β) (f : α → β) (x : Option α) : β := Option.rec n f x
def R.st {β : Type} (f : ASt → β) (g : AExit → ASt → β) (s : AStep) : β := AStep.rec f g s
def R.go (k : ASt → Option AStep) (s : AStep) : Option AStep := AStep.rec k (fun e st => some (.out e st)) s
def runF (l : List AO) : ASt → Option AStep :=
  List.rec (fun st => some (.next st)) (fun o _ k st => R.opt none (fun b => Bool.rec ((skipO o st).bind k) (R.opt none (R.go k) (opF o.op T S o.dst st)) b) (guardF o st)) l
theorem runF_eq : ∀ (l : List AO), runF T S l = runOps T S l
  | [] => rfl
  | o :: r => by
    funext st
    have ih := runF_eq r
    show R.opt none (fun b => Bool.rec ((skipO o st).bind (runF T S r)) (R.opt none (R.go (runF T S r)) (opF o.op T S o.dst st)) b) (guardF o st) = _
    rw [guardF_eq, opF_eq, ih]
    simp only [runOps]
    cases guardO o st with
    | none => rfl
    | some b =>
      cases b with
      | false => rfl
      | true =>
        cases stepO T S o st with
        | none => rfl
        | some s => cases s <;> rfl
def traceF (l : List AO) : ASt → List Tch :=
  List.rec (fun _ => []) (fun o _ k st => R.opt [] (fun b => bif b then R.opt [] (fun s => R.st (fun st1 => tchO T o st st1 :: k st1) (fun _ _ => []) s) (opF o.op T S o.dst st) else R.opt [] (fun st1 => ⟨some [], [], false⟩ :: k st1) (skipO o st)) (guardF o st)) l
theorem traceF_eq : ∀ (l : List AO), traceF T S l = trace T S l
  | [] => rfl
  | o :: r => by
    funext st
    have ih := traceF_eq r
    show R.opt [] (fun b => bif b then R.opt [] (fun s => R.st (fun st1 => tchO T o st st1 :: traceF T S r st1) (fun _ _ => []) s) (opF o.op T S o.dst st) else R.opt [] (fun st1 => ⟨some [], [], false⟩ :: traceF T S r st1) (skipO o st)) (guardF o st) = _
    rw [guardF_eq, opF_eq, ih]
    simp only [trace]
    cases guardO o st with
    | none => rfl
    | some b =>
      cases b with
      | false => cases skipO o st <;> rfl
      | true =>
        cases stepO T S o st with
        | none => rfl
        | some s => cases s <;> rfl
def looseF (l : List AO) (st : ASt) (inc : List (Nat × Nat)) : Bool :=
  l.all (·.op.calm) && (inc.isEmpty || (let tr := traceF T S l st; inc.all fun (i, j) =>
    match tr[i]?, tr[j]? with
    | some ⟨some a, _, _⟩, some ⟨c, d, r⟩ => a.isEmpty || (!r && a.all fun x => !(c.getD []).contains x && !d.contains x)
    | _, _ => false))
theorem looseF_eq (l : List AO) (st : ASt) (inc : List (Nat × Nat)) : looseF T S l st inc = looseOk T S l st inc := by
  simp only [looseF, looseOk, traceF_eq]
  rfl
def C.ops (l : List AO) (draw : Option (List (Nat × Nat))) (st : ASt) : Option (AExit × ASt) :=
  Option.rec none (fun s => AStep.rec (fun st1 => Option.rec (some (.normal, st1)) (fun inc => bif looseF T S l st inc then some (.normal, st1) else none) draw) (fun e st1 => Option.rec (some (e, st1)) (fun _ => none) draw) s) (runF T S l st)
theorem C.ops_eq (l : List AO) (draw : Option (List (Nat × Nat))) (st : ASt) : C.ops T S l draw st = code T S (.ops l draw) st := by
  simp only [C.ops, code, runF_eq, looseF_eq]
  cases runOps T S l st with
  | none => rfl
  | some s =>
    cases s with
    | out e st1 => cases draw <;> rfl
    | next st1 =>
      cases draw with
      | none => rfl
      | some inc =>
        show (bif looseOk T S l st inc then _ else _) = if looseOk T S l st inc = true then _ else _
        cases looseOk T S l st inc <;> rfl
def C.seq (a b : ASt → Option (AExit × ASt)) (st : ASt) : Option (AExit × ASt) := match a st with
  | some (.normal, st1) => b st1
  | x => x
def C.cond (c : Opd) (a b : ASt → Option (AExit × ASt)) (st : ASt) : Option (AExit × ASt) := match valF T st.env c with
  | some (.bool t) => bif t then a st else b st
  | _ => none
def C.block (id : Nat) (a : ASt → Option (AExit × ASt)) (st : ASt) : Option (AExit × ASt) := match a st with
  | some (.exit id', st1) => bif Nat.beq id' id then some (.normal, st1) else some (.exit id', st1)
  | x => x
def C.loop (b : AC) (a : ASt → Option (AExit × ASt)) (st : ASt) : Option (AExit × ASt) := match a st with
  | some (.normal, st1) => S.code (.loop b) st1
  | x => x
def keepC {β : Type} (ts : List Nat) (e : Env) (k : Env → β) : β := List.rec (motive := fun _ => (Env → β) → β) (fun k => k []) (fun t _ r k => r fun q => R.opt (k q) (fun v => k ((t, v) :: q)) (getF t e)) ts k
theorem keepC_eq {β : Type} (e : Env) : ∀ (ts : List Nat) (k : Env → β), keepC ts e k = k (e.keep ts)
  | [], k => rfl
  | t :: ts, k => by
    have ih := keepC_eq e ts fun q => R.opt (k q) (fun v => k ((t, v) :: q)) (getF t e)
    show keepC ts e (fun q => R.opt (k q) (fun v => k ((t, v) :: q)) (getF t e)) = _
    rw [ih, getF_eq]
    simp only [Env.keep]
    cases e.get t <;> rfl
def C.hint (h : Hint) (a : ASt → Option (AExit × ASt)) (st : ASt) : Option (AExit × ASt) := match h with
  | .keep ts => ASt.rec (fun env H dfs base nt ro => keepC ts env fun env => a ⟨env, H, dfs, base, nt, ro⟩) st
  | h => R.opt none a (doHint h st)
def codeF (c : AC) : ASt → Option (AExit × ASt) :=
  AC.rec (motive := fun _ => ASt → Option (AExit × ASt)) (fun st => some (.normal, st)) (C.ops T S) (fun _ _ a b => C.seq a b) (fun c _ _ a b => C.cond T c a b) (fun id _ a => C.block id a) (fun b a => C.loop S b a) (fun f ps x y _ _ st => code T S (.rng f ps x y) st) (fun id st => some (.exit id, st)) (fun st => some (.ret, st)) (fun h _ a => C.hint h a) c
theorem codeF_eq : ∀ (c : AC), codeF T S c = code T S c := by
  intro c
  induction c with
  | skip | exit | ret => rfl
  | ops l d => exact funext fun st => C.ops_eq T S l d st
  | seq a b iha ihb =>
    funext st
    show C.seq (codeF T S a) (codeF T S b) st = _
    rw [iha, ihb]; rfl
  | cond c t e iht ihe =>
    funext st
    show C.cond T c (codeF T S t) (codeF T S e) st = _
    rw [iht, ihe]
    simp only [C.cond, code, valF_eq]
    cases val T st.env c with
    | none => rfl
    | some v => cases v <;> first | rfl | (rename_i b; cases b <;> rfl)
  | block id b ih =>
    funext st
    show C.block id (codeF T S b) st = _
    rw [ih]
    simp only [C.block, code]
    cases code T S b st with
    | none => rfl
    | some q =>
      obtain ⟨e, s⟩ := q
      cases e with
      | exit k =>
        show (bif Nat.beq k id then _ else _) = if k = id then _ else _
        cases hb : Nat.beq k id with
        | true => rw [if_pos (Nat.eq_of_beq_eq_true hb)]; rfl
        | false => rw [if_neg (fun h => by rw [h] at hb; exact absurd (Nat.beq_refl id) (by rw [hb]; decide))]; rfl
      | _ => rfl
  | loop b ih =>
    funext st
    show C.loop S b (codeF T S b) st = _
    rw [ih]; rfl
  | rng f ps a b _ _ => rfl
  | hint h c ih =>
    funext st
    show C.hint h (codeF T S c) st = _
    rw [ih]
    cases h with
    | keep ts =>
      show (keepC ts st.env fun env => code T S c ⟨env, st.H, st.dfs, st.base, st.nt, st.ro⟩) = _
      rw [keepC_eq]
      rfl
    | _ =>
      simp only [C.hint, code]
      generalize doHint _ st = x
      cases x <;> rfl
def callF (f : Nat) (xs : List AV) (H : List AB) : Option (AEnd × List AB) :=
  match T.fn f with
  | none => none
  | some F =>
    if xs.length ≤ F.nt then
      match codeF T S F.body ⟨(List.range xs.length).zip xs, H, [], H.length, F.nt, none⟩ with
      | some (.normal, st) | some (.ret, st) => leave T S F st.dfs none st
      | some (.panic v, st) => leave T S F st.dfs (some v) st
      | _ => none
    else none
theorem callF_eq (f : Nat) (xs : List AV) (H : List AB) : callF T S f xs H = call T S f xs H := by
  simp only [callF, call, codeF_eq]
  rfl
end

section
variable (T : Tab) (M : Book)
def findF (f : Nat) (xs : List AV) : Option (AEnd × List AB) := List.rec none (fun x _ r => Bool.rec r (Bool.rec r (some x.2.2) (AV.sames xs x.2.1)) (Nat.beq f x.1)) M
theorem findF_eq (f : Nat) (xs : List AV) : ∀ M : Book, findF M f xs = M.find f xs
  | [] => rfl
  | (g, ys, q) :: M => by
    have ih := findF_eq f xs M
    show (Bool.rec (findF M f xs) (Bool.rec (findF M f xs) (some q) (AV.sames xs ys)) (Nat.beq f g) : Option (AEnd × List AB)) = _
    rw [ih]
    simp only [Book.find]
    cases Nat.beq f g with
    | false => rfl
    | true => cases AV.sames xs ys <;> rfl
def bookF (S : Sems) : Sems where
  code := codeF T S
  call f xs H := match H with
    | [] => R.opt (callF T S f xs []) some (findF M f xs)
    | _ :: _ => callF T S f xs H
def semsF : Nat → Sems
  | 0 => ⟨fun _ _ => none, fun _ _ _ => none⟩
  | n + 1 => bookF T M (semsF n)
theorem semsF_eq : ∀ n, semsF T M n = semsM T M n
  | 0 => rfl
  | n + 1 => by
    have e : codeF T (semsM T M n) = code T (semsM T M n) := funext fun c => codeF_eq T _ c
    have e2 : callF T (semsM T M n) = call T (semsM T M n) := funext fun f => funext fun xs => funext fun H => callF_eq T _ f xs H
    have e3 : (fun (f : Nat) (xs : List AV) (H : List AB) => (bookF T M (semsM T M n)).call f xs H) = (bookS T M (semsM T M n)).call := by
      funext f xs H
      simp only [bookF, bookS, e2, findF_eq]
      cases H with
      | cons => rfl
      | nil => cases M.find f xs <;> rfl
    show bookF T M (semsF T M n) = ⟨code T (semsM T M n), (bookS T M (semsM T M n)).call⟩
    rw [semsF_eq n, ← e3, ← e]
    rfl
theorem semsM_nil : ∀ n, semsM T [] n = sems T n
  | 0 => rfl
  | n + 1 => by
    have e : (fun (f : Nat) (xs : List AV) (H : List AB) => (bookS T [] (sems T n)).call f xs H) = call T (sems T n) := by
      funext f xs H; cases H <;> rfl
    show bookS T [] (semsM T [] n) = ⟨code T (sems T n), call T (sems T n)⟩
    rw [semsM_nil n, ← e]
    rfl
end
end
end Go.Abs
end
