/- The table of functions. Conditions: none. -/
import Derived.Test.YthaebccedgaamaaGreatDoorSF
import Derived.Shelf.SlIterI.Nil
import Derived.Shelf.SortM.Plain
import Derived.Shelf.SortM.SortNone
import Derived.Shelf.SlGeneric
import Derived.Ground.GgzProg
import Derived.Ground.SlgmProg
import Derived.Test.YthaebccedgaamaaGreatDoorProg
import Derived.KernelRfl
set_option linter.unusedSimpArgs false
set_option linter.unusedVariables false
section
/-
  DERIVED: THE SHELF's CONTRACTS AT THIS DUMP, IN PLAIN WORDS (tools/lay-plain.mjs out of 'YthaebccedgaamaaGreatDoorShelf.lean', which tools/lay-shelf.mjs wrote): THE SAME DECLARATIONS UNDER THE SAME NAMES: 'import', 'namespace', 'open', 'def', 'theorem' AND NOTHING ELSE: no command of the shelf's: FOR A HAND-IN. Each laying: the table of numbers ('.._ren') and one theorem, a field a fact of the dump's own or the kernel's comparison; each contract: ONE APPLICATION.
-/
namespace Go.Proofs
open Go.Shelf
def Tryz.keysA_ren : Go.Shelf.Ren := ⟨fun | 7 => 262 | 10 => 293 | n => n, fun | 23 => 391 | 26 => 3 | 3 => 380 | 28 => 389 | 0 => 0 | 27 => 388 | 33 => 195 | 4 => 4 | n => n, fun | n => n⟩
theorem Tryz.keysA : Go.Proofs.SlLaysZI.n7 Tryz.prog Tryz.keysA_ren := {
  mixed := by kernel_rfl
  f7 := ⟨Tryz.f262.name, by decide, Tryz.func262.trans (congrArg some (by kernel_rfl))⟩
  f10 := ⟨Tryz.f293.name, by decide, Tryz.func293.trans (congrArg some (by kernel_rfl))⟩
  t0 := Tryz.underlying0
  a0 := Tryz.isAgg0
  z0 := Tryz.sizeOf0
  v0 := Tryz.zeroValue0
  t4 := Tryz.underlying4
  a4 := Tryz.isAgg4
  z4 := Tryz.sizeOf4
  v4 := Tryz.zeroValue4
  t23 := Tryz.underlying391
  a23 := Tryz.isAgg391
  z23 := Tryz.sizeOf391
  v23 := Tryz.zeroValue391
  t26 := Tryz.underlying3
  a26 := Tryz.isAgg3
  z26 := Tryz.sizeOf3
  v26 := Tryz.zeroValue3
  t27 := Tryz.underlying388
  a27 := Tryz.isAgg388
  z27 := Tryz.sizeOf388
  v27 := Tryz.zeroValue388
  t28 := Tryz.underlying389
  a28 := Tryz.isAgg389
  z28 := Tryz.sizeOf389
  v28 := Tryz.zeroValue389
  t33 := Tryz.underlying195
  a33 := Tryz.isAgg195
  z33 := Tryz.sizeOf195
  v33 := Tryz.zeroValue195 }
def Tryz.sortedA_ren : Go.Shelf.Ren := ⟨fun | 6 => 261 | 8 => 291 | 9 => 292 | 11 => 303 | 13 => 104 | 12 => 304 | 23 => 158 | 24 => 159 | 14 => 308 | 15 => 309 | 16 => 310 | 17 => 311 | 18 => 312 | 19 => 313 | 20 => 314 | 21 => 315 | 22 => 316 | 25 => 318 | 26 => 224 | 27 => 225 | 28 => 319 | 29 => 320 | 30 => 228 | 31 => 321 | n => n, fun | 26 => 3 | 28 => 389 | 24 => 50 | 0 => 0 | 3 => 3 | 37 => 211 | 48 => 293 | 50 => 277 | 4 => 4 | 40 => 286 | 39 => 285 | 45 => 290 | 5 => 5 | 9 => 9 | 51 => 352 | 55 => 356 | 57 => 399 | 58 => 377 | 33 => 195 | n => n, fun | n => n⟩
theorem Tryz.sortedA : Go.Proofs.SlLaysZI.n6 Tryz.prog Tryz.sortedA_ren := {
  mixed := by kernel_rfl
  f6 := ⟨Tryz.f261.name, by decide, Tryz.func261.trans (congrArg some (by kernel_rfl))⟩
  f8 := ⟨Tryz.f291.name, by decide, Tryz.func291.trans (congrArg some (by kernel_rfl))⟩
  f11 := ⟨Tryz.f303.name, by decide, Tryz.func303.trans (congrArg some (by kernel_rfl))⟩
  t0 := Tryz.underlying0
  a0 := Tryz.isAgg0
  z0 := Tryz.sizeOf0
  v0 := Tryz.zeroValue0
  t24 := Tryz.underlying50
  a24 := Tryz.isAgg50
  z24 := Tryz.sizeOf50
  v24 := Tryz.zeroValue50
  t26 := Tryz.underlying3
  a26 := Tryz.isAgg3
  z26 := Tryz.sizeOf3
  v26 := Tryz.zeroValue3
  t28 := Tryz.underlying389
  a28 := Tryz.isAgg389
  z28 := Tryz.sizeOf389
  v28 := Tryz.zeroValue389
  i26 := by kernel_rfl }
def Tryz.sortA_ren : Go.Shelf.Ren := ⟨fun | 5 => 292 | 8 => 104 | 7 => 304 | 19 => 158 | 20 => 159 | 10 => 308 | 11 => 309 | 12 => 310 | 13 => 311 | 14 => 312 | 15 => 313 | 16 => 314 | 17 => 315 | 18 => 316 | 30 => 318 | 31 => 224 | 32 => 225 | 33 => 319 | 34 => 320 | 35 => 228 | 40 => 321 | n => n, fun | 23 => 50 | 25 => 3 | 3 => 3 | 32 => 211 | 22 => 50 | 0 => 0 | 44 => 293 | 46 => 277 | 4 => 4 | 36 => 286 | 35 => 285 | 41 => 290 | 5 => 5 | 9 => 9 | 53 => 352 | 57 => 356 | 63 => 399 | 64 => 377 | n => n, fun | n => n⟩
theorem Tryz.sortA : Go.Proofs.SlLaysM.n5 Tryz.prog Tryz.sortA_ren := {
  mixed := by kernel_rfl
  f5 := ⟨Tryz.f292.name, by decide, Tryz.func292.trans (congrArg some (by kernel_rfl))⟩
  f7 := ⟨Tryz.f304.name, by decide, Tryz.func304.trans (congrArg some (by kernel_rfl))⟩
  f8 := Tryz.func104.trans (congrArg some (by kernel_rfl))
  f10 := ⟨Tryz.f308.name, by decide, Tryz.func308.trans (congrArg some (by kernel_rfl))⟩
  f11 := ⟨Tryz.f309.name, by decide, Tryz.func309.trans (congrArg some (by kernel_rfl))⟩
  f12 := ⟨Tryz.f310.name, by decide, Tryz.func310.trans (congrArg some (by kernel_rfl))⟩
  f13 := ⟨Tryz.f311.name, by decide, Tryz.func311.trans (congrArg some (by kernel_rfl))⟩
  f14 := ⟨Tryz.f312.name, by decide, Tryz.func312.trans (congrArg some (by kernel_rfl))⟩
  f15 := ⟨Tryz.f313.name, by decide, Tryz.func313.trans (congrArg some (by kernel_rfl))⟩
  f16 := ⟨Tryz.f314.name, by decide, Tryz.func314.trans (congrArg some (by kernel_rfl))⟩
  f17 := ⟨Tryz.f315.name, by decide, Tryz.func315.trans (congrArg some (by kernel_rfl))⟩
  f18 := ⟨Tryz.f316.name, by decide, Tryz.func316.trans (congrArg some (by kernel_rfl))⟩
  f19 := Tryz.func158.trans (congrArg some (by kernel_rfl))
  f20 := Tryz.func159.trans (congrArg some (by kernel_rfl))
  f30 := ⟨Tryz.f318.name, by decide, Tryz.func318.trans (congrArg some (by kernel_rfl))⟩
  f31 := Tryz.func224.trans (congrArg some (by kernel_rfl))
  f32 := Tryz.func225.trans (congrArg some (by kernel_rfl))
  f33 := ⟨Tryz.f319.name, by decide, Tryz.func319.trans (congrArg some (by kernel_rfl))⟩
  f34 := ⟨Tryz.f320.name, by decide, Tryz.func320.trans (congrArg some (by kernel_rfl))⟩
  f35 := ⟨Tryz.f228.name, by decide, Tryz.func228.trans (congrArg some (by kernel_rfl))⟩
  f40 := ⟨Tryz.f321.name, by decide, Tryz.func321.trans (congrArg some (by kernel_rfl))⟩
  t0 := Tryz.underlying0
  a0 := Tryz.isAgg0
  z0 := Tryz.sizeOf0
  v0 := Tryz.zeroValue0
  t3 := Tryz.underlying3
  a3 := Tryz.isAgg3
  z3 := Tryz.sizeOf3
  v3 := Tryz.zeroValue3
  t4 := Tryz.underlying4
  a4 := Tryz.isAgg4
  z4 := Tryz.sizeOf4
  v4 := Tryz.zeroValue4
  t5 := Tryz.underlying5
  a5 := Tryz.isAgg5
  z5 := Tryz.sizeOf5
  v5 := Tryz.zeroValue5
  t9 := Tryz.underlying9
  a9 := Tryz.isAgg9
  z9 := Tryz.sizeOf9
  v9 := Tryz.zeroValue9
  t22 := Tryz.underlying50
  a22 := Tryz.isAgg50
  z22 := Tryz.sizeOf50
  v22 := Tryz.zeroValue50
  t23 := Tryz.underlying50
  a23 := Tryz.isAgg50
  z23 := Tryz.sizeOf50
  v23 := Tryz.zeroValue50
  t25 := Tryz.underlying3
  a25 := Tryz.isAgg3
  z25 := Tryz.sizeOf3
  v25 := Tryz.zeroValue3
  t32 := Tryz.underlying211
  a32 := Tryz.isAgg211
  z32 := Tryz.sizeOf211
  v32 := Tryz.zeroValue211
  t35 := Tryz.underlying285
  a35 := Tryz.isAgg285
  z35 := Tryz.sizeOf285
  v35 := Tryz.zeroValue285
  t36 := Tryz.underlying286
  a36 := Tryz.isAgg286
  z36 := Tryz.sizeOf286
  v36 := Tryz.zeroValue286
  t41 := Tryz.underlying290
  a41 := Tryz.isAgg290
  z41 := Tryz.sizeOf290
  v41 := Tryz.zeroValue290
  t44 := Tryz.underlying293
  a44 := Tryz.isAgg293
  z44 := Tryz.sizeOf293
  v44 := Tryz.zeroValue293
  t46 := Tryz.underlying277
  a46 := Tryz.isAgg277
  z46 := Tryz.sizeOf277
  v46 := Tryz.zeroValue277
  t53 := Tryz.underlying352
  a53 := Tryz.isAgg352
  z53 := Tryz.sizeOf352
  v53 := Tryz.zeroValue352
  t57 := Tryz.underlying356
  a57 := Tryz.isAgg356
  z57 := Tryz.sizeOf356
  v57 := Tryz.zeroValue356
  t63 := Tryz.underlying399
  a63 := Tryz.isAgg399
  z63 := Tryz.sizeOf399
  v63 := Tryz.zeroValue399
  t64 := Tryz.underlying377
  a64 := Tryz.isAgg377
  z64 := Tryz.sizeOf377
  v64 := Tryz.zeroValue377 }
end Go.Proofs
end

section
/- The functions that the laws come to, in the walk's own code: by program. Conditions: none. -/
set_option maxRecDepth 10000
namespace Go.Abs.V
open Go.Abs Go.Abs.Y
/- custos/font.drawings -/
def f263b : AC := (.seq (.ops [o 2 (.mv (.c .nilm))] none)
  (.hint (.keep [0]) (.seq (.seq (.ops [o 3 (.mv (t 0))] none)
  (.hint (.keep [3]) (.block 0 (.seq (.ops [o 5 (.bin .eql (t 3) (I 1)), o 4 (.mv (t 5))] none)
  (.hint (.keep [3, 4]) (.cond (t 4) (.seq (.ops [o 6 (.mkmap), o 7 (.bsl 5 [(.str ⟨#[]⟩), (.str ⟨#[]⟩), (.str ⟨#[]⟩), (.str ⟨#[]⟩), (.str ⟨#[]⟩)] [(0, 1, (.c (.str ⟨#[46, 35, 35, 35, 35, 46]⟩))), (1, 1, (.c (.str ⟨#[35, 35, 35, 35, 35, 35]⟩))), (2, 1, (.c (.str ⟨#[35, 35, 35, 35, 35, 35]⟩))), (3, 1, (.c (.str ⟨#[35, 35, 35, 35, 35, 35]⟩))), (4, 1, (.c (.str ⟨#[46, 35, 35, 35, 35, 46]⟩)))]), s (.mset false [1] (t 6) (I 1) (t 7)), o 8 (.bsl 5 [(.str ⟨#[]⟩), (.str ⟨#[]⟩), (.str ⟨#[]⟩), (.str ⟨#[]⟩), (.str ⟨#[]⟩)] [(0, 1, (.c (.str ⟨#[46, 35, 35, 35, 35, 46]⟩))), (1, 1, (.c (.str ⟨#[35, 46, 46, 46, 46, 35]⟩))), (2, 1, (.c (.str ⟨#[35, 46, 46, 46, 46, 35]⟩))), (3, 1, (.c (.str ⟨#[35, 46, 46, 46, 46, 35]⟩))), (4, 1, (.c (.str ⟨#[46, 35, 35, 35, 35, 46]⟩)))]), s (.mset false [1] (t 6) (I 2) (t 8)), o 9 (.bsl 5 [(.str ⟨#[]⟩), (.str ⟨#[]⟩), (.str ⟨#[]⟩), (.str ⟨#[]⟩), (.str ⟨#[]⟩)] [(0, 1, (.c (.str ⟨#[46, 35, 35, 35, 35, 46]⟩))), (1, 1, (.c (.str ⟨#[35, 35, 46, 46, 35, 35]⟩))), (2, 1, (.c (.str ⟨#[35, 35, 46, 46, 35, 35]⟩))), (3, 1, (.c (.str ⟨#[35, 35, 46, 46, 35, 35]⟩))), (4, 1, (.c (.str ⟨#[46, 35, 35, 35, 35, 46]⟩)))]), s (.mset false [1] (t 6) (I 3) (t 9)), o 10 (.mv (t 6)), o 2 (.mv (t 10))] none)
  (.hint (.keep [2]) .ret)) (.seq (.ops [o 12 (.bin .eql (t 3) (I 2)), o 11 (.mv (t 12))] none)
  (.hint (.keep [3, 11]) (.cond (t 11) (.seq (.ops [o 13 (.mkmap), o 14 (.bsl 5 [(.str ⟨#[]⟩), (.str ⟨#[]⟩), (.str ⟨#[]⟩), (.str ⟨#[]⟩), (.str ⟨#[]⟩)] [(0, 1, (.c (.str ⟨#[46, 35, 46, 35]⟩))), (1, 1, (.c (.str ⟨#[35, 35, 35, 35]⟩))), (2, 1, (.c (.str ⟨#[46, 35, 46, 35]⟩))), (3, 1, (.c (.str ⟨#[35, 35, 35, 35]⟩))), (4, 1, (.c (.str ⟨#[46, 35, 46, 35]⟩)))]), s (.mset false [1] (t 13) (I 1) (t 14)), o 15 (.bsl 5 [(.str ⟨#[]⟩), (.str ⟨#[]⟩), (.str ⟨#[]⟩), (.str ⟨#[]⟩), (.str ⟨#[]⟩)] [(0, 1, (.c (.str ⟨#[35, 46, 46, 46]⟩))), (1, 1, (.c (.str ⟨#[35, 46, 46, 46]⟩))), (2, 1, (.c (.str ⟨#[35, 35, 35, 46]⟩))), (3, 1, (.c (.str ⟨#[35, 46, 35, 46]⟩))), (4, 1, (.c (.str ⟨#[35, 35, 46, 46]⟩)))]), s (.mset false [1] (t 13) (I 2) (t 15)), o 16 (.bsl 5 [(.str ⟨#[]⟩), (.str ⟨#[]⟩), (.str ⟨#[]⟩), (.str ⟨#[]⟩), (.str ⟨#[]⟩)] [(0, 1, (.c (.str ⟨#[35, 46, 46, 35]⟩))), (1, 1, (.c (.str ⟨#[35, 46, 35, 35]⟩))), (2, 1, (.c (.str ⟨#[35, 35, 35, 35]⟩))), (3, 1, (.c (.str ⟨#[35, 35, 46, 35]⟩))), (4, 1, (.c (.str ⟨#[35, 46, 46, 35]⟩)))]), s (.mset false [1] (t 13) (I 3) (t 16)), o 17 (.mv (t 13)), o 2 (.mv (t 17))] none)
  (.hint (.keep [2]) .ret)) (.seq (.ops [o 19 (.bin .eql (t 3) (I 3)), o 18 (.mv (t 19))] none)
  (.hint (.keep [3, 18]) (.cond (t 18) (.seq (.ops [o 20 (.mkmap), o 21 (.bsl 5 [(.str ⟨#[]⟩), (.str ⟨#[]⟩), (.str ⟨#[]⟩), (.str ⟨#[]⟩), (.str ⟨#[]⟩)] [(0, 1, (.c (.str ⟨#[46, 46]⟩))), (1, 1, (.c (.str ⟨#[35, 35]⟩))), (2, 1, (.c (.str ⟨#[35, 35]⟩))), (3, 1, (.c (.str ⟨#[46, 46]⟩))), (4, 1, (.c (.str ⟨#[46, 46]⟩)))]), s (.mset false [1] (t 20) (I 1) (t 21)), o 22 (.mv (t 20)), o 2 (.mv (t 22))] none)
  (.hint (.keep [2]) .ret)) (.seq (.ops [o 24 (.bin .eql (t 3) (I 4)), o 23 (.mv (t 24))] none)
  (.hint (.keep [3, 23]) (.cond (t 23) (.seq (.ops [o 25 (.mkmap), o 26 (.bsl 5 [(.str ⟨#[]⟩), (.str ⟨#[]⟩), (.str ⟨#[]⟩), (.str ⟨#[]⟩), (.str ⟨#[]⟩)] [(0, 1, (.c (.str ⟨#[46, 46, 46]⟩))), (1, 1, (.c (.str ⟨#[46, 46, 46]⟩))), (2, 1, (.c (.str ⟨#[46, 46, 46]⟩))), (3, 1, (.c (.str ⟨#[35, 46, 35]⟩))), (4, 1, (.c (.str ⟨#[46, 35, 46]⟩)))]), s (.mset false [1] (t 25) (I 1) (t 26)), o 27 (.mv (t 25)), o 2 (.mv (t 27))] none)
  (.hint (.keep [2]) .ret)) (.seq (.ops [o 29 (.bin .eql (t 3) (I 5)), o 28 (.mv (t 29))] none)
  (.hint (.keep [3, 28]) (.cond (t 28) (.seq (.ops [o 30 (.mkmap), o 31 (.bsl 7 [(.str ⟨#[]⟩), (.str ⟨#[]⟩), (.str ⟨#[]⟩), (.str ⟨#[]⟩), (.str ⟨#[]⟩), (.str ⟨#[]⟩), (.str ⟨#[]⟩)] [(0, 1, (.c (.str ⟨#[46, 46, 46, 46, 46, 46]⟩))), (1, 1, (.c (.str ⟨#[46, 46, 46, 46, 46, 46]⟩))), (2, 1, (.c (.str ⟨#[46, 46, 46, 46, 46, 46]⟩))), (3, 1, (.c (.str ⟨#[46, 46, 46, 46, 46, 46]⟩))), (4, 1, (.c (.str ⟨#[46, 35, 35, 35, 35, 46]⟩))), (5, 1, (.c (.str ⟨#[46, 35, 35, 35, 35, 46]⟩))), (6, 1, (.c (.str ⟨#[46, 46, 46, 46, 46, 46]⟩)))]), s (.mset false [1] (t 30) (I 1) (t 31)), o 32 (.bsl 7 [(.str ⟨#[]⟩), (.str ⟨#[]⟩), (.str ⟨#[]⟩), (.str ⟨#[]⟩), (.str ⟨#[]⟩), (.str ⟨#[]⟩), (.str ⟨#[]⟩)] [(0, 1, (.c (.str ⟨#[46, 46, 46, 46, 46, 46]⟩))), (1, 1, (.c (.str ⟨#[46, 35, 35, 35, 35, 46]⟩))), (2, 1, (.c (.str ⟨#[46, 35, 35, 35, 35, 46]⟩))), (3, 1, (.c (.str ⟨#[46, 46, 46, 46, 46, 46]⟩))), (4, 1, (.c (.str ⟨#[46, 46, 46, 46, 46, 46]⟩))), (5, 1, (.c (.str ⟨#[46, 46, 46, 46, 46, 46]⟩))), (6, 1, (.c (.str ⟨#[46, 46, 46, 46, 46, 46]⟩)))]), s (.mset false [1] (t 30) (I 2) (t 32)), o 33 (.bsl 7 [(.str ⟨#[]⟩), (.str ⟨#[]⟩), (.str ⟨#[]⟩), (.str ⟨#[]⟩), (.str ⟨#[]⟩), (.str ⟨#[]⟩), (.str ⟨#[]⟩)] [(0, 1, (.c (.str ⟨#[46, 35, 35, 46, 46, 46]⟩))), (1, 1, (.c (.str ⟨#[46, 46, 35, 35, 46, 46]⟩))), (2, 1, (.c (.str ⟨#[46, 46, 46, 35, 35, 46]⟩))), (3, 1, (.c (.str ⟨#[46, 46, 35, 35, 46, 46]⟩))), (4, 1, (.c (.str ⟨#[46, 35, 35, 46, 46, 46]⟩))), (5, 1, (.c (.str ⟨#[46, 46, 35, 35, 46, 46]⟩))), (6, 1, (.c (.str ⟨#[46, 46, 46, 35, 35, 46]⟩)))]), s (.mset false [1] (t 30) (I 4) (t 33)), o 34 (.bsl 7 [(.str ⟨#[]⟩), (.str ⟨#[]⟩), (.str ⟨#[]⟩), (.str ⟨#[]⟩), (.str ⟨#[]⟩), (.str ⟨#[]⟩), (.str ⟨#[]⟩)] [(0, 1, (.c (.str ⟨#[35, 35, 46, 46, 46, 35]⟩))), (1, 1, (.c (.str ⟨#[35, 35, 46, 46, 35, 46]⟩))), (2, 1, (.c (.str ⟨#[46, 35, 35, 35, 46, 46]⟩))), (3, 1, (.c (.str ⟨#[46, 46, 46, 35, 46, 46]⟩))), (4, 1, (.c (.str ⟨#[46, 46, 35, 46, 46, 46]⟩))), (5, 1, (.c (.str ⟨#[46, 46, 35, 46, 46, 46]⟩))), (6, 1, (.c (.str ⟨#[46, 35, 46, 46, 46, 46]⟩)))]), s (.mset false [1] (t 30) (I 8) (t 34)), o 35 (.bsl 7 [(.str ⟨#[]⟩), (.str ⟨#[]⟩), (.str ⟨#[]⟩), (.str ⟨#[]⟩), (.str ⟨#[]⟩), (.str ⟨#[]⟩), (.str ⟨#[]⟩)] [(0, 1, (.c (.str ⟨#[35, 35, 46, 46, 46, 35]⟩))), (1, 1, (.c (.str ⟨#[35, 35, 46, 46, 35, 46]⟩))), (2, 1, (.c (.str ⟨#[46, 35, 35, 35, 46, 46]⟩))), (3, 1, (.c (.str ⟨#[35, 35, 46, 35, 46, 46]⟩))), (4, 1, (.c (.str ⟨#[35, 35, 35, 35, 46, 46]⟩))), (5, 1, (.c (.str ⟨#[46, 46, 35, 46, 46, 46]⟩))), (6, 1, (.c (.str ⟨#[46, 35, 46, 46, 46, 46]⟩)))]), s (.mset false [1] (t 30) (I 16) (t 35)), o 36 (.mv (t 30)), o 2 (.mv (t 36))] none)
  (.hint (.keep [2]) .ret)) (.seq (.ops [o 38 (.bin .eql (t 3) (I 6)), o 37 (.mv (t 38))] none)
  (.hint (.keep [3, 37]) (.cond (t 37) (.seq (.ops [o 39 (.mkmap), o 40 (.bsl 5 [(.str ⟨#[]⟩), (.str ⟨#[]⟩), (.str ⟨#[]⟩), (.str ⟨#[]⟩), (.str ⟨#[]⟩)] [(0, 1, (.c (.str ⟨#[46, 35, 35, 35, 35, 35]⟩))), (1, 1, (.c (.str ⟨#[35, 35, 46, 46, 46, 46]⟩))), (2, 1, (.c (.str ⟨#[35, 35, 46, 35, 35, 35]⟩))), (3, 1, (.c (.str ⟨#[35, 35, 46, 46, 35, 35]⟩))), (4, 1, (.c (.str ⟨#[46, 35, 35, 35, 35, 35]⟩)))]), s (.mset false [1] (t 39) (I 1) (t 40)), o 41 (.bsl 5 [(.str ⟨#[]⟩), (.str ⟨#[]⟩), (.str ⟨#[]⟩), (.str ⟨#[]⟩), (.str ⟨#[]⟩)] [(0, 1, (.c (.str ⟨#[46, 35, 35, 35, 35, 35]⟩))), (1, 1, (.c (.str ⟨#[35, 35, 46, 46, 46, 46]⟩))), (2, 1, (.c (.str ⟨#[35, 35, 46, 46, 46, 46]⟩))), (3, 1, (.c (.str ⟨#[35, 35, 46, 46, 46, 46]⟩))), (4, 1, (.c (.str ⟨#[46, 35, 35, 35, 35, 35]⟩)))]), s (.mset false [1] (t 39) (I 2) (t 41)), o 42 (.bsl 5 [(.str ⟨#[]⟩), (.str ⟨#[]⟩), (.str ⟨#[]⟩), (.str ⟨#[]⟩), (.str ⟨#[]⟩)] [(0, 1, (.c (.str ⟨#[35, 35, 35, 35, 35, 35]⟩))), (1, 1, (.c (.str ⟨#[35, 35, 46, 46, 46, 46]⟩))), (2, 1, (.c (.str ⟨#[35, 35, 35, 35, 35, 46]⟩))), (3, 1, (.c (.str ⟨#[35, 35, 46, 46, 46, 46]⟩))), (4, 1, (.c (.str ⟨#[35, 35, 46, 46, 46, 46]⟩)))]), s (.mset false [1] (t 39) (I 3) (t 42)), o 43 (.mv (t 39)), o 2 (.mv (t 43))] none)
  (.hint (.keep [2]) .ret)) (.seq (.ops [o 45 (.bin .eql (t 3) (I 7)), o 44 (.mv (t 45))] none)
  (.hint (.keep [3, 44]) (.cond (t 44) (.seq (.ops [o 46 (.mkmap), o 47 (.bsl 5 [(.str ⟨#[]⟩), (.str ⟨#[]⟩), (.str ⟨#[]⟩), (.str ⟨#[]⟩), (.str ⟨#[]⟩)] [(0, 1, (.c (.str ⟨#[46, 46, 35, 46]⟩))), (1, 1, (.c (.str ⟨#[46, 35, 35, 46]⟩))), (2, 1, (.c (.str ⟨#[46, 46, 35, 46]⟩))), (3, 1, (.c (.str ⟨#[46, 46, 35, 46]⟩))), (4, 1, (.c (.str ⟨#[46, 35, 35, 35]⟩)))]), s (.mset false [1] (t 46) (I 1) (t 47)), o 48 (.bsl 5 [(.str ⟨#[]⟩), (.str ⟨#[]⟩), (.str ⟨#[]⟩), (.str ⟨#[]⟩), (.str ⟨#[]⟩)] [(0, 1, (.c (.str ⟨#[35, 35, 35, 46]⟩))), (1, 1, (.c (.str ⟨#[46, 46, 46, 35]⟩))), (2, 1, (.c (.str ⟨#[46, 35, 35, 46]⟩))), (3, 1, (.c (.str ⟨#[35, 46, 46, 46]⟩))), (4, 1, (.c (.str ⟨#[35, 35, 35, 35]⟩)))]), s (.mset false [1] (t 46) (I 2) (t 48)), o 49 (.bsl 5 [(.str ⟨#[]⟩), (.str ⟨#[]⟩), (.str ⟨#[]⟩), (.str ⟨#[]⟩), (.str ⟨#[]⟩)] [(0, 1, (.c (.str ⟨#[35, 35, 35, 46]⟩))), (1, 1, (.c (.str ⟨#[46, 46, 46, 35]⟩))), (2, 1, (.c (.str ⟨#[46, 35, 35, 46]⟩))), (3, 1, (.c (.str ⟨#[46, 46, 46, 35]⟩))), (4, 1, (.c (.str ⟨#[35, 35, 35, 46]⟩)))]), s (.mset false [1] (t 46) (I 3) (t 49)), o 50 (.bsl 5 [(.str ⟨#[]⟩), (.str ⟨#[]⟩), (.str ⟨#[]⟩), (.str ⟨#[]⟩), (.str ⟨#[]⟩)] [(0, 1, (.c (.str ⟨#[35, 46, 46, 35]⟩))), (1, 1, (.c (.str ⟨#[35, 46, 46, 35]⟩))), (2, 1, (.c (.str ⟨#[35, 35, 35, 35]⟩))), (3, 1, (.c (.str ⟨#[46, 46, 46, 35]⟩))), (4, 1, (.c (.str ⟨#[46, 46, 46, 35]⟩)))]), s (.mset false [1] (t 46) (I 4) (t 50)), o 51 (.bsl 5 [(.str ⟨#[]⟩), (.str ⟨#[]⟩), (.str ⟨#[]⟩), (.str ⟨#[]⟩), (.str ⟨#[]⟩)] [(0, 1, (.c (.str ⟨#[35, 35, 35, 35]⟩))), (1, 1, (.c (.str ⟨#[35, 46, 46, 46]⟩))), (2, 1, (.c (.str ⟨#[35, 35, 35, 46]⟩))), (3, 1, (.c (.str ⟨#[46, 46, 46, 35]⟩))), (4, 1, (.c (.str ⟨#[35, 35, 35, 46]⟩)))]), s (.mset false [1] (t 46) (I 5) (t 51)), o 52 (.bsl 5 [(.str ⟨#[]⟩), (.str ⟨#[]⟩), (.str ⟨#[]⟩), (.str ⟨#[]⟩), (.str ⟨#[]⟩)] [(0, 1, (.c (.str ⟨#[46, 35, 35, 46]⟩))), (1, 1, (.c (.str ⟨#[35, 46, 46, 46]⟩))), (2, 1, (.c (.str ⟨#[35, 35, 35, 46]⟩))), (3, 1, (.c (.str ⟨#[35, 46, 46, 35]⟩))), (4, 1, (.c (.str ⟨#[46, 35, 35, 46]⟩)))]), s (.mset false [1] (t 46) (I 6) (t 52)), o 53 (.bsl 5 [(.str ⟨#[]⟩), (.str ⟨#[]⟩), (.str ⟨#[]⟩), (.str ⟨#[]⟩), (.str ⟨#[]⟩)] [(0, 1, (.c (.str ⟨#[35, 35, 35, 35]⟩))), (1, 1, (.c (.str ⟨#[46, 46, 46, 35]⟩))), (2, 1, (.c (.str ⟨#[46, 46, 35, 46]⟩))), (3, 1, (.c (.str ⟨#[46, 35, 46, 46]⟩))), (4, 1, (.c (.str ⟨#[46, 35, 46, 46]⟩)))]), s (.mset false [1] (t 46) (I 7) (t 53)), o 54 (.bsl 5 [(.str ⟨#[]⟩), (.str ⟨#[]⟩), (.str ⟨#[]⟩), (.str ⟨#[]⟩), (.str ⟨#[]⟩)] [(0, 1, (.c (.str ⟨#[46, 35, 35, 46]⟩))), (1, 1, (.c (.str ⟨#[35, 46, 46, 35]⟩))), (2, 1, (.c (.str ⟨#[46, 35, 35, 46]⟩))), (3, 1, (.c (.str ⟨#[35, 46, 46, 35]⟩))), (4, 1, (.c (.str ⟨#[46, 35, 35, 46]⟩)))]), s (.mset false [1] (t 46) (I 8) (t 54)), o 55 (.bsl 5 [(.str ⟨#[]⟩), (.str ⟨#[]⟩), (.str ⟨#[]⟩), (.str ⟨#[]⟩), (.str ⟨#[]⟩)] [(0, 1, (.c (.str ⟨#[46, 35, 35, 46]⟩))), (1, 1, (.c (.str ⟨#[35, 46, 46, 35]⟩))), (2, 1, (.c (.str ⟨#[46, 35, 35, 35]⟩))), (3, 1, (.c (.str ⟨#[46, 46, 46, 35]⟩))), (4, 1, (.c (.str ⟨#[46, 35, 35, 46]⟩)))]), s (.mset false [1] (t 46) (I 9) (t 55)), o 56 (.mv (t 46)), o 2 (.mv (t 56))] none)
  (.hint (.keep [2]) .ret)) (.seq (.ops [o 58 (.bin .eql (t 3) (I 8)), o 57 (.mv (t 58))] none)
  (.hint (.keep [3, 57]) (.cond (t 57) (.seq (.ops [o 59 (.call 0 (F 294) []), o 2 (.mv (t 59))] none)
  (.hint (.keep [2]) .ret)) (.seq (.ops [o 61 (.bin .eql (t 3) (I 10)), o 60 (.mv (t 61))] none)
  (.hint (.keep [3, 60]) (.cond (t 60) (.seq (.ops [o 62 (.mkmap), o 63 (.bsl 4 [(.str ⟨#[]⟩), (.str ⟨#[]⟩), (.str ⟨#[]⟩), (.str ⟨#[]⟩)] [(0, 1, (.c (.str ⟨#[46, 46]⟩))), (1, 1, (.c (.str ⟨#[35, 35]⟩))), (2, 1, (.c (.str ⟨#[35, 35]⟩))), (3, 1, (.c (.str ⟨#[46, 46]⟩)))]), s (.mset false [1] (t 62) (I 1) (t 63)), o 64 (.mv (t 62)), o 2 (.mv (t 64))] none)
  (.hint (.keep [2]) .ret)) (.seq (.ops [o 66 (.bin .eql (t 3) (I 9)), o 65 (.mv (t 66))] none)
  (.hint (.keep [65]) (.cond (t 65) (.seq (.ops [o 67 (.call 0 (F 295) []), o 2 (.mv (t 67))] none)
  (.hint (.keep [2]) .ret)) .skip)))))))))))))))))))))))))))))))))
  (.hint (.keep []) (.seq (.ops [o 2 (.mv (.c .nilm))] none)
  (.hint (.keep [2]) .ret))))))
def f263 : AFun := ⟨68, f263b, [.t 2]⟩
end Go.Abs.V
end

section
namespace Go.Abs.V
open Go Go.Abs Go.Proofs Go.RowKit Go.Maps Go.Sort Go.Shelf
set_option maxRecDepth 100000

theorem k263 : FnB Tryz.prog 263 f263 := ⟨Tryz.f263, Tryz.func263, by kernel_rfl⟩
def T0 : Tab := { fn := fun k => bif Nat.beq k 263 then some f263 else none, gl := fun _ => none, meth := fun _ _ => none, prim := fun _ _ => none }

theorem t0_fn {k : Nat} {F : AFun} (h : T0.fn k = some F) : FnB Tryz.prog k F := by
  simp only [T0] at h
  cases hb : Nat.beq k 263 with
  | true =>
    rw [hb] at h
    cases h
    rw [Nat.eq_of_beq_eq_true hb]
    exact k263
  | false => rw [hb] at h; cases h

theorem t0_ok : TabOK Tryz.prog T0 := ⟨fun _ _ h => (t0_fn h).enters, fun _ _ _ h => (by cases h), fun _ _ _ _ h => (by cases h), fun _ _ _ _ h => (by cases h)⟩
theorem t0_fnok : FnOK Tryz.prog T0 := fun _ _ h => (t0_fn h).ok

/-- What is looked at of the map that is made: its keys. -/
def look : Option (AEnd × List AB) → Option (Nat × List AV)
  | some (.ret (.mp b), H) => match H[b]? with
    | some (.map es) => some (b, es.map (·.1))
    | _ => none
  | _ => none
def keys : List AV := [.int .i64 1, .int .i64 2, .int .i64 4, .int .i64 8, .int .i64 16]
theorem run263 : ((look ((sems T0 8).call 263 [.int .i64 5] [])).map (·.2)) = some keys := by kernel_rfl

/-- How the map's values read: not at all. -/
def R0 {H : Type} : Value → Option (DataW H × List MemPlace) := fun _ => some (.nil, [])

def D0 : DataW Unit := .map [(.int .i64 1, .nil), (.int .i64 2, .nil), (.int .i64 4, .nil), (.int .i64 8, .nil), (.int .i64 16, .nil)]

/-- The map that is made. -/
theorem c263 (n : Nat) (W : World) : CallsIn Fence.wide n Tryz.prog 263 #[.int .i64 5] W fun e W' => ∃ b, e = .returned (.map (some b)) ∧ W'.ownsMap Tryz.prog 3 R0 b 5 D0 ∧ Below W.heap.size W W' := by
  cases hr : (sems T0 8).call 263 [.int .i64 5] [] with
  | none => have := run263; rw [hr] at this; cases this
  | some q =>
    obtain ⟨q, H'⟩ := q
    have hl := run263
    rw [hr] at hl
    simp only [Option.map_eq_some_iff] at hl
    obtain ⟨⟨b0, ks⟩, hl, rfl⟩ := hl
    have hq : q = .ret (.mp b0) ∧ ∃ es, H'[b0]? = some (.map es) ∧ es.map (·.1) = keys := by
      unfold look at hl
      split at hl
      · rename_i b H he
        split at hl
        · rename_i es hes
          cases he
          simp only [Option.some.injEq, Prod.mk.injEq] at hl
          obtain ⟨rfl, hk⟩ := hl
          exact ⟨rfl, es, hes, hk⟩
        · cases hl
      · cases hl
    obtain ⟨rfl, es, hes, hk⟩ := hq
    have ht := told t0_ok t0_fnok hr W (fun k => k < W.heap.size) (fun _ => none) #[.int .i64 5] (hrel_nil fun k h => h) (fun g cs h => by cases h) ⟨rfl, fun j v x h1 h2 => by
      cases j with
      | zero => simp at h1 h2; subst h1 h2; exact .int _ _
      | succ j => simp at h1⟩
    have ht' := (callsIn_wide.1 ht)
    refine callsIn_wide.2 (ht'.mono ?_)
    rintro e W' ⟨D', ι', h1, h2, h3, _, _⟩
    cases e with
    | panicked ch => exact h1.elim
    | outgrown => exact h1.elim
    | returned x =>
      obtain ⟨k, hb, rfl⟩ := VRel.mp_inv h1
      refine ⟨k, rfl, ?_, ⟨h3.os, h3.tape, h3.output, h3.size, fun i hi => h3.keep i hi (live_nil i)⟩⟩
      obtain ⟨_, en, cl, g1, g2, g3, g4⟩ := h2.blk b0 _ k hes rfl hb
      have hlen : es.length = 5 := by have := congrArg List.length hk; simpa [keys] using this
      have key : ∀ (j : Nat) (e : MapEntry), en[j]? = some e → ∃ z, keys[j]? = some (.int .i64 z) ∧ e.key = .int .i64 z := fun j e he => by
        have hj : j < 5 := by have := (Array.getElem?_eq_some_iff.1 he).1; omega
        have hp : es[j]? = some es[j] := List.getElem?_eq_getElem (by omega)
        obtain ⟨v1, _⟩ := g3 j _ e hp he
        have hkj : keys[j]? = some (es[j]).1 := by rw [← hk, List.getElem?_map, hp]; rfl
        have : ∃ z, keys[j]? = some (.int .i64 z) := by
          match j, hj with
          | 0, _ => exact ⟨1, rfl⟩
          | 1, _ => exact ⟨2, rfl⟩
          | 2, _ => exact ⟨4, rfl⟩
          | 3, _ => exact ⟨8, rfl⟩
          | 4, _ => exact ⟨16, rfl⟩
        obtain ⟨z, hz⟩ := this
        rw [hkj] at hz
        simp only [Option.some.injEq] at hz
        rw [hz] at v1
        exact ⟨z, by rw [hkj, hz], v1.int_inv⟩
      obtain ⟨l⟩ := en
      have h5 : l.length = 5 := by have := g2; simp at this; omega
      match l, h5, key, g4, g1 with
      | [e0, e1, e2, e3, e4], _, key, g4, g1 =>
        obtain ⟨z0, a0, b0⟩ := key 0 e0 rfl
        obtain ⟨z1, a1, b1⟩ := key 1 e1 rfl
        obtain ⟨z2, a2, b2⟩ := key 2 e2 rfl
        obtain ⟨z3, a3, b3⟩ := key 3 e3 rfl
        obtain ⟨z4, a4, b4⟩ := key 4 e4 rfl
        simp only [keys, List.getElem?_cons_zero, List.getElem?_cons_succ, Option.some.injEq, AV.int.injEq, true_and] at a0 a1 a2 a3 a4
        subst a0 a1 a2 a3 a4
        have rdk : ∀ (x : MapEntry) (z : Int), x.key = .int .i64 z → (Lit.int .i64 z).wf = true → WideElems.rd (H := Unit) Tryz.prog 3 R0 x = some (.int .i64 z, .nil) := fun x z hx hz => by
          simp [WideElems.rd, hx, keyOf, mapKey, hz, R0]
        have r0 := rdk e0 1 b0 (by decide)
        have r1 := rdk e1 2 b1 (by decide)
        have r2 := rdk e2 4 b2 (by decide)
        have r3 := rdk e3 8 b3 (by decide)
        have r4 := rdk e4 16 b4 (by decide)
        refine ⟨_, cl, g1, ⟨by simp [maxLen], ?_, ?_⟩, by simp, ?_⟩
        · rw [MapKept.stamped_iff]
          refine ⟨g4.1, g4.2, ?_⟩
          simp [b0, b1, b2, b3, b4]
        · simp [r0, r1, r2, r3, r4]
        · simp [WideElems.rg, r0, r1, r2, r3, r4, D0]
          rfl


theorem sortsA (m : Nat) : AnyZI.SortsIn Tryz.prog Tryz.sortedA_ren Fence.wide m :=
  ⟨fun blk off cap ss W hH hblk hsz => callsIn_wide.2 (AnyM.slices_Sort_int Tryz.sortA blk off cap ss W hH hblk hsz),
   fun p cap W => callsIn_wide.2 (AnyM.slices_Sort_int_none Tryz.sortA p cap W)⟩

def vals : List Int := [1, 2, 4, 8, 16]

set_option maxHeartbeats 1000000 in
/-- font.Values at the rests: the values, sorted. -/
theorem values (w : World) : Calls Tryz.prog 216 #[.int .i64 5] w fun e w' => ∃ v, e = .returned v ∧ w'.ownsRow w.heap.size 3 1 v 5 (vals.map encZ) ∧ Below w.heap.size w w' := by
  refine (callsIn_wide (n := 6)).1 ?_
  have cK : ∀ mb W, CallsIn Fence.wide 5 Tryz.prog 262 #[.map mb] W fun e w' => e = .returned (.func (.func 293) #[] #[.pointer (some ⟨W.heap.size, 0, none⟩)]) ∧ w' = W.alloc (.cells #[.map mb] 391) := fun mb W => AnyZI.keys_in Tryz.keysA Fence.wide 5 trivial rfl mb W
  have cS : ∀ (b : Nat) (W : World), W.ownsMap Tryz.prog 3 (R0 (H := Unit)) b 5 D0 → CallsIn Fence.wide 5 Tryz.prog 261 #[.func (.func 293) #[] #[.pointer (some ⟨W.heap.size, 0, none⟩)]] (W.alloc (.cells #[.map (some b)] 391)) fun e w' => ∃ (v : Value) (ss : List Int), e = .returned v ∧ ss.Perm (intKeys D0) ∧
      w'.ownsRow (W.alloc (.cells #[.map (some b)] 391)).heap.size 3 1 v ss.length ((ss.mergeSort (fun x y => decide (x ≤ y))).map encZ) ∧ (v = .slice none 0 0 ↔ ss = []) ∧ Below (W.alloc (.cells #[.map (some b)] 391)).heap.size (W.alloc (.cells #[.map (some b)] 391)) w' := fun b W hown => by
    have hbl := hown.lt
    have hseq : SeqGives Fence.wide 2 Tryz.prog 293 #[.pointer (some ⟨W.heap.size, 0, none⟩)] encZ (fun ss => ss.Perm (intKeys D0)) (Maps.size D0) (W.alloc (.cells #[.map (some b)] 391)) :=
      AnyZI.keys_gives (ρ := Tryz.keysA_ren) { Tryz.keysA with } Fence.wide _ trivial rfl (by omega) W.heap.size b 5 D0 _ (by simp) (by simp) (by
        obtain ⟨es, clock, hb, Ft, hs, hD⟩ := hown
        exact ⟨es, clock, (Below.heap_alloc _ _ b hbl).trans hb, Ft, hs, hD⟩)
    exact AnyZI.sorted_in Tryz.sortedA Fence.wide 5 trivial trivial trivial trivial rfl (by omega) (sortsA _) (enters_of Tryz.func292 (by kernel_rfl) rfl) 293 #[.pointer (some ⟨W.heap.size, 0, none⟩)] trivial (enters_of Tryz.func293 (by kernel_rfl) rfl) _ _ (by simp [Maps.size, D0, maxLen]) (by simp [Maps.size, D0]) _ hseq
  have hfK : Fence.wide.fn 262 := trivial
  have hfS : Fence.wide.fn 261 := trivial
  have hfM : Fence.wide.fn 263 := trivial
  refine callsIn_of_wp Tryz.func216 rfl trivial ?_ rfl
  simp only [Tryz.ntmps216, List.size_toArray, List.length_cons, List.length_nil, Nat.reduceAdd, Nat.reduceSub, Array.replicate_succ, Array.replicate_zero, List.push_toArray, List.append_toArray, List.nil_append, List.cons_append]
  gi_wp2_with (first
    | (gi_at_call 263; refine (c263 _ _).mono ?_; rintro e w' ⟨b, rfl, hown, hb0⟩)
    | (gi_at_call 262; refine (cK _ _).mono ?_; rintro e w' ⟨rfl, rfl⟩)
    | (gi_at_call 261; refine (cS _ _ hown).mono ?_; rintro e w' ⟨v, ss, rfl, hS, hrow, hnil, hb⟩))
  go_ret
  have hss : ss.mergeSort (fun x y => decide (x ≤ y)) = vals := by
    have := mergeSort_of_perm_i hS
    rw [show (fun x y : Int => decide (x ≤ y)) = leI from rfl, this]
    rw [show intKeys D0 = vals from rfl]
    exact List.mergeSort_of_pairwise (by simp [vals, leI])
  have hlen : ss.length = 5 := by have := hS.length_eq; simpa [intKeys, D0] using this
  rw [hss, hlen] at hrow
  refine ⟨v, rfl, ownsRow_base_a hrow (by have := hb0.size; simp; omega), ?_⟩
  exact (hb0.alloc hb0.size _).trans (hb.mono (by have := hb0.size; simp; omega))


/-- ... told. -/
theorem values_told (T : Tab) (H : List AB) : Told Tryz.prog T 216 [.int .i64 5] H (.ret (.csl (vals.map (AV.int .i64)) 5 none false)) H := by
  intro w D ι args hh _ hx
  have ha : args = #[.int .i64 5] := by
    obtain ⟨h1, h2⟩ := hx
    obtain ⟨l⟩ := args
    match l, h1 with
    | [x], _ => have := (h2 0 _ x rfl rfl).int_inv; rw [this]
  subst ha
  refine callsIn_wide.2 ((values w).mono ?_)
  rintro e w' ⟨v, rfl, hrow, hb⟩
  have hsame : ∀ k, k < w.heap.size → w'.heap[k]? = w.heap[k]? := fun k hk => hb.block k hk
  obtain ⟨_, hrow⟩ := hrow
  rcases hrow with ⟨_, h0⟩ | ⟨g, cap, cur, rfl, hbase, hg, r1, r2, r3, r4⟩
  · cases h0
  · have hgl : g < w'.heap.size := (Array.getElem?_eq_some_iff.1 hg).1
    obtain ⟨f1, f2⟩ := frame (D' := fun k => D k ∨ k = g) hh hsame hb.size (fun k hk => .inl hk) (fun k hk => hk.elim (fun h => Nat.lt_of_lt_of_le (hh.dlt k h) hb.size) fun h => h ▸ hgl) fun k ⟨b, B, e1, e2, e3⟩ hd => by
      have hlt := hh.ilt b k e3
      rcases hd with hd | rfl
      · exact (hh.blk b B k e1 e2 e3).1 hd
      · omega
    refine ⟨fun k => D k ∨ k = g, ι, ?_, f1, ⟨hb.os, hb.tape, hb.output, hb.size, fun k hk _ => hsame k hk, fun k hk => .inl hk, fun k hk => .inl hk, fun k hk => ?_, fun k c e f hc hk => ⟨c, f, by rw [← hsame k hk]; exact hc, rfl⟩⟩, fun _ _ h => h, Nat.le_refl _⟩
    · have cell : ∀ (j : Nat) (u : AV), (vals.map (AV.int .i64))[j]? = some u → ∃ x, cur[j]? = some x ∧ VRel w' (fun k => D k ∨ k = g) ι u x := fun j u hj => by
        rw [List.getElem?_map, Option.map_eq_some_iff] at hj
        obtain ⟨z, hz, rfl⟩ := hj
        have h1 : (cur.toList.take (5 * 1))[j]? = some (encZ z) := by rw [r4, List.getElem?_map, hz]; rfl
        rw [List.getElem?_take] at h1
        split at h1
        · exact ⟨encZ z, by rw [← Array.getElem?_toList]; exact h1, .int _ _⟩
        · cases h1
      refine .csl (fun j => (cur[j]?).getD undef) r1 (fun h => by cases h) (fun c h => by cases h) (fun h => by cases h) (fun a' h _ => ?_) (fun a' h j u hj => ?_) (fun j u hj => ?_)
      · cases h; exact ⟨.inr rfl, rfl⟩
      · cases h
        obtain ⟨x, h1, _⟩ := cell j u hj
        simp [World.cell?, hg, h1]
      · obtain ⟨x, h1, h2⟩ := cell j u hj
        rw [h1]; exact h2
    · rcases hk with hk | rfl
      · exact .inl hk
      · exact .inr (.inr hbase)

end Go.Abs.V
end

section
namespace Go.Abs.C
open Go Go.Abs Go.Proofs
set_option maxRecDepth 100000
theorem all_ok : ft.All (FnB Tryz.prog) := ⟨⟨⟨⟨⟨⟨⟨⟨⟨trivial, k4, trivial⟩, k8, trivial⟩, k10, ⟨trivial, k11, trivial⟩⟩, k12, ⟨⟨trivial, k13, trivial⟩, k15, ⟨trivial, k17, trivial⟩⟩⟩, k18, ⟨⟨⟨trivial, k19, trivial⟩, k20, ⟨trivial, k21, trivial⟩⟩, k22, ⟨⟨trivial, k23, trivial⟩, k24, ⟨trivial, k33, trivial⟩⟩⟩⟩, k34, ⟨⟨⟨⟨⟨trivial, k35, trivial⟩, k36, trivial⟩, k37, ⟨trivial, k38, trivial⟩⟩, k39, ⟨⟨trivial, k40, trivial⟩, k41, ⟨trivial, k42, trivial⟩⟩⟩, k44, ⟨⟨⟨trivial, k46, trivial⟩, k47, ⟨trivial, k48, trivial⟩⟩, k49, ⟨⟨trivial, k50, trivial⟩, k51, ⟨trivial, k52, trivial⟩⟩⟩⟩⟩, k53, ⟨⟨⟨⟨⟨⟨trivial, k54, trivial⟩, k55, trivial⟩, k58, ⟨trivial, k61, trivial⟩⟩, k63, ⟨⟨trivial, k64, trivial⟩, k65, ⟨trivial, k66, trivial⟩⟩⟩, k67, ⟨⟨⟨trivial, k68, trivial⟩, k69, ⟨trivial, k71, trivial⟩⟩, k72, ⟨⟨trivial, k73, trivial⟩, k74, ⟨trivial, k75, trivial⟩⟩⟩⟩, k76, ⟨⟨⟨⟨⟨trivial, k77, trivial⟩, k78, trivial⟩, k79, ⟨trivial, k80, trivial⟩⟩, k81, ⟨⟨trivial, k82, trivial⟩, k83, ⟨trivial, k84, trivial⟩⟩⟩, k85, ⟨⟨⟨trivial, k86, trivial⟩, k87, ⟨trivial, k88, trivial⟩⟩, k89, ⟨⟨trivial, k90, trivial⟩, k92, ⟨trivial, k93, trivial⟩⟩⟩⟩⟩⟩, k94, ⟨⟨⟨⟨⟨⟨⟨trivial, k96, trivial⟩, k97, trivial⟩, k98, ⟨trivial, k100, trivial⟩⟩, k101, ⟨⟨trivial, k102, trivial⟩, k103, ⟨trivial, k104, trivial⟩⟩⟩, k105, ⟨⟨⟨trivial, k106, trivial⟩, k107, ⟨trivial, k108, trivial⟩⟩, k109, ⟨⟨trivial, k110, trivial⟩, k111, ⟨trivial, k112, trivial⟩⟩⟩⟩, k113, ⟨⟨⟨⟨⟨trivial, k114, trivial⟩, k115, trivial⟩, k116, ⟨trivial, k117, trivial⟩⟩, k118, ⟨⟨trivial, k119, trivial⟩, k120, ⟨trivial, k121, trivial⟩⟩⟩, k122, ⟨⟨⟨trivial, k123, trivial⟩, k124, ⟨trivial, k125, trivial⟩⟩, k126, ⟨⟨trivial, k127, trivial⟩, k128, ⟨trivial, k129, trivial⟩⟩⟩⟩⟩, k130, ⟨⟨⟨⟨⟨⟨trivial, k131, trivial⟩, k132, trivial⟩, k133, ⟨trivial, k134, trivial⟩⟩, k135, ⟨⟨trivial, k136, trivial⟩, k137, ⟨trivial, k138, trivial⟩⟩⟩, k139, ⟨⟨⟨trivial, k140, trivial⟩, k141, ⟨trivial, k142, trivial⟩⟩, k144, ⟨⟨trivial, k145, trivial⟩, k146, ⟨trivial, k148, trivial⟩⟩⟩⟩, k149, ⟨⟨⟨⟨⟨trivial, k150, trivial⟩, k151, trivial⟩, k152, ⟨trivial, k153, trivial⟩⟩, k154, ⟨⟨trivial, k155, trivial⟩, k156, ⟨trivial, k157, trivial⟩⟩⟩, k158, ⟨⟨⟨trivial, k159, trivial⟩, k160, ⟨trivial, k161, trivial⟩⟩, k162, ⟨⟨trivial, k163, trivial⟩, k164, ⟨trivial, k165, trivial⟩⟩⟩⟩⟩⟩⟩, k166, ⟨⟨⟨⟨⟨⟨⟨⟨trivial, k167, trivial⟩, k168, trivial⟩, k169, ⟨trivial, k170, trivial⟩⟩, k171, ⟨⟨trivial, k172, trivial⟩, k173, ⟨trivial, k174, trivial⟩⟩⟩, k175, ⟨⟨⟨trivial, k176, trivial⟩, k177, ⟨trivial, k178, trivial⟩⟩, k179, ⟨⟨trivial, k180, trivial⟩, k181, ⟨trivial, k182, trivial⟩⟩⟩⟩, k183, ⟨⟨⟨⟨⟨trivial, k184, trivial⟩, k185, trivial⟩, k186, ⟨trivial, k187, trivial⟩⟩, k188, ⟨⟨trivial, k189, trivial⟩, k190, ⟨trivial, k191, trivial⟩⟩⟩, k192, ⟨⟨⟨trivial, k193, trivial⟩, k194, ⟨trivial, k195, trivial⟩⟩, k196, ⟨⟨trivial, k197, trivial⟩, k198, ⟨trivial, k199, trivial⟩⟩⟩⟩⟩, k200, ⟨⟨⟨⟨⟨⟨trivial, k201, trivial⟩, k202, trivial⟩, k203, ⟨trivial, k204, trivial⟩⟩, k205, ⟨⟨trivial, k206, trivial⟩, k207, ⟨trivial, k208, trivial⟩⟩⟩, k209, ⟨⟨⟨trivial, k210, trivial⟩, k211, ⟨trivial, k212, trivial⟩⟩, k213, ⟨⟨trivial, k214, trivial⟩, k215, ⟨trivial, k217, trivial⟩⟩⟩⟩, k218, ⟨⟨⟨⟨⟨trivial, k219, trivial⟩, k220, trivial⟩, k221, ⟨trivial, k222, trivial⟩⟩, k223, ⟨⟨trivial, k224, trivial⟩, k225, ⟨trivial, k226, trivial⟩⟩⟩, k227, ⟨⟨⟨trivial, k228, trivial⟩, k229, ⟨trivial, k230, trivial⟩⟩, k231, ⟨⟨trivial, k232, trivial⟩, k233, ⟨trivial, k234, trivial⟩⟩⟩⟩⟩⟩, k235, ⟨⟨⟨⟨⟨⟨⟨trivial, k236, trivial⟩, k237, trivial⟩, k238, ⟨trivial, k239, trivial⟩⟩, k240, ⟨⟨trivial, k241, trivial⟩, k242, ⟨trivial, k243, trivial⟩⟩⟩, k244, ⟨⟨⟨trivial, k245, trivial⟩, k246, ⟨trivial, k247, trivial⟩⟩, k248, ⟨⟨trivial, k249, trivial⟩, k250, ⟨trivial, k251, trivial⟩⟩⟩⟩, k252, ⟨⟨⟨⟨⟨trivial, k253, trivial⟩, k254, trivial⟩, k255, ⟨trivial, k256, trivial⟩⟩, k257, ⟨⟨trivial, k258, trivial⟩, k259, ⟨trivial, k260, trivial⟩⟩⟩, k264, ⟨⟨⟨trivial, k265, trivial⟩, k266, ⟨trivial, k267, trivial⟩⟩, k268, ⟨⟨trivial, k269, trivial⟩, k270, ⟨trivial, k271, trivial⟩⟩⟩⟩⟩, k272, ⟨⟨⟨⟨⟨⟨trivial, k273, trivial⟩, k274, trivial⟩, k275, ⟨trivial, k276, trivial⟩⟩, k277, ⟨⟨trivial, k278, trivial⟩, k279, ⟨trivial, k280, trivial⟩⟩⟩, k281, ⟨⟨⟨trivial, k282, trivial⟩, k283, ⟨trivial, k284, trivial⟩⟩, k285, ⟨⟨trivial, k286, trivial⟩, k287, ⟨trivial, k288, trivial⟩⟩⟩⟩, k289, ⟨⟨⟨⟨⟨trivial, k290, trivial⟩, k296, trivial⟩, k297, ⟨trivial, k298, trivial⟩⟩, k299, ⟨⟨trivial, k300, trivial⟩, k301, ⟨trivial, k302, trivial⟩⟩⟩, k306, ⟨⟨⟨trivial, k307, trivial⟩, k338, ⟨trivial, k339, trivial⟩⟩, k340, ⟨⟨trivial, k341, trivial⟩, k342, ⟨trivial, k343, trivial⟩⟩⟩⟩⟩⟩⟩⟩
def zones : List AV := [.int .i64 4, .int .i64 10, .int .i64 (-2)]
def T : Tab := { fn := ft.get, gl := fun g => bif Nat.beq g 0 then some zones else none, meth := meths, prim := fun f xs => bif Nat.beq f 216 then (match xs with | [.int .i64 5] => some (.csl (V.vals.map (AV.int .i64)) 5 none false) | _ => none) else none }

theorem prim_inv {f : Nat} {xs : List AV} {v : AV} (h : T.prim f xs = some v) : f = 216 ∧ xs = [.int .i64 5] ∧ v = .csl (V.vals.map (AV.int .i64)) 5 none false := by
  simp only [T] at h
  cases hb : Nat.beq f 216 with
  | false => rw [hb] at h; cases h
  | true =>
    rw [hb] at h
    simp only [cond_true] at h
    split at h
    · cases h; exact ⟨Nat.eq_of_beq_eq_true hb, rfl, rfl⟩
    · cases h

theorem meths_ok {t : Nat} {m : String} {k : Nat} {d : Option (Bool × Nat)} (h : meths t m = some (k, d)) : methT Tryz.prog t m = some (k, d) := by
  unfold meths at h
  repeat' first
    | (cases h; done)
    | split at h
    | (rename_i hc; cases h; simp only [Bool.and_eq_true, beq_iff_eq] at hc; obtain ⟨h1, rfl⟩ := hc; rw [Nat.eq_of_beq_eq_true h1]; kernel_rfl)

theorem tab_ok : TabOK Tryz.prog T where
  fn f F h := (all_ok.get h).enters
  prim f xs v h := by
    obtain ⟨rfl, _, _⟩ := prim_inv h
    exact ⟨Tryz.f216, _, Tryz.func216, rfl, by kernel_rfl⟩
  primOK f xs v H h := by
    obtain ⟨rfl, rfl, rfl⟩ := prim_inv h
    exact V.values_told T H
  meth t m k d h := by
    have := methT_ok (meths_ok h)
    cases d with
    | none => exact this
    | some gn => exact this

theorem fn_ok : FnOK Tryz.prog T := fun _ _ h => (all_ok.get h).ok
end Go.Abs.C
end
