/-
  DERIVED: THE SHELF's CONTRACTS AT THIS DUMP, IN PLAIN WORDS (tools/lay-plain.mjs out of 'YtogdiebhajiefaaGreatDoorShq.lean', which tools/lay-shelf.mjs wrote): THE SAME DECLARATIONS UNDER THE SAME NAMES: 'import', 'namespace', 'open', 'def', 'theorem' AND NOTHING ELSE: no command of the shelf's: FOR A HAND-IN. Each laying: the table of numbers ('.._ren') and one theorem, a field a fact of the dump's own or the kernel's comparison; each contract: ONE APPLICATION.
-/
import Derived.Shelf.SlIter.Nil
import Derived.Shelf.SortM.Plain
import Derived.Shelf.SortM.SortNone
import Derived.Ground.GgzProg
import Derived.Ground.SlgmProg
import Derived.Shelf.SlGeneric
import Derived.Test.YtogdiebhajiefaaGreatDoorProg
namespace Go.Proofs
open Go.Shelf
def Tryz.keysL_ren : Go.Shelf.Ren := ⟨fun | 7 => 114 | 10 => 182 | n => n, fun | 23 => 101 | 26 => 9 | 3 => 143 | 28 => 229 | 0 => 0 | 27 => 228 | 33 => 205 | 4 => 4 | n => n, fun | n => n⟩
theorem Tryz.keysL : Go.Proofs.SlLaysZ.n7 Tryz.prog Tryz.keysL_ren := {
  mixed := by kernel_rfl
  f7 := ⟨Tryz.f114.name, by decide, Tryz.func114.trans (congrArg some (by kernel_rfl))⟩
  f10 := ⟨Tryz.f182.name, by decide, Tryz.func182.trans (congrArg some (by kernel_rfl))⟩
  t0 := Tryz.underlying0
  a0 := Tryz.isAgg0
  z0 := Tryz.sizeOf0
  v0 := Tryz.zeroValue0
  t4 := Tryz.underlying4
  a4 := Tryz.isAgg4
  z4 := Tryz.sizeOf4
  v4 := Tryz.zeroValue4
  t23 := Tryz.underlying101
  a23 := Tryz.isAgg101
  z23 := Tryz.sizeOf101
  v23 := Tryz.zeroValue101
  t26 := Tryz.underlying9
  a26 := Tryz.isAgg9
  z26 := Tryz.sizeOf9
  v26 := Tryz.zeroValue9
  t27 := Tryz.underlying228
  a27 := Tryz.isAgg228
  z27 := Tryz.sizeOf228
  v27 := Tryz.zeroValue228
  t28 := Tryz.underlying229
  a28 := Tryz.isAgg229
  z28 := Tryz.sizeOf229
  v28 := Tryz.zeroValue229
  t33 := Tryz.underlying205
  a33 := Tryz.isAgg205
  z33 := Tryz.sizeOf205
  v33 := Tryz.zeroValue205 }
def Tryz.sortedL_ren : Go.Shelf.Ren := ⟨fun | 6 => 113 | 8 => 180 | 9 => 181 | 11 => 242 | 13 => 238 | 12 => 243 | 23 => 294 | 24 => 295 | 14 => 302 | 15 => 303 | 16 => 304 | 17 => 305 | 18 => 306 | 19 => 307 | 20 => 308 | 21 => 309 | 22 => 310 | 25 => 355 | 26 => 343 | 27 => 344 | 28 => 356 | 29 => 357 | 30 => 163 | 31 => 381 | n => n, fun | 26 => 9 | 28 => 229 | 24 => 141 | 0 => 0 | 3 => 3 | 37 => 268 | 48 => 289 | 50 => 399 | 4 => 4 | 40 => 391 | 39 => 390 | 45 => 124 | 5 => 5 | 9 => 9 | 51 => 428 | 55 => 432 | 57 => 457 | 58 => 458 | 33 => 205 | n => n, fun | n => n⟩
theorem Tryz.sortedL : Go.Proofs.SlLaysZ.n6 Tryz.prog Tryz.sortedL_ren := {
  mixed := by kernel_rfl
  f6 := ⟨Tryz.f113.name, by decide, Tryz.func113.trans (congrArg some (by kernel_rfl))⟩
  f8 := ⟨Tryz.f180.name, by decide, Tryz.func180.trans (congrArg some (by kernel_rfl))⟩
  f11 := ⟨Tryz.f242.name, by decide, Tryz.func242.trans (congrArg some (by kernel_rfl))⟩
  t0 := Tryz.underlying0
  a0 := Tryz.isAgg0
  z0 := Tryz.sizeOf0
  v0 := Tryz.zeroValue0
  t24 := Tryz.underlying141
  a24 := Tryz.isAgg141
  z24 := Tryz.sizeOf141
  v24 := Tryz.zeroValue141
  t26 := Tryz.underlying9
  a26 := Tryz.isAgg9
  z26 := Tryz.sizeOf9
  v26 := Tryz.zeroValue9
  t28 := Tryz.underlying229
  a28 := Tryz.isAgg229
  z28 := Tryz.sizeOf229
  v28 := Tryz.zeroValue229
  i26 := by kernel_rfl }
def Tryz.sortL_ren : Go.Shelf.Ren := ⟨fun | 6 => 181 | 8 => 238 | 9 => 243 | 19 => 294 | 20 => 295 | 21 => 302 | 22 => 303 | 23 => 304 | 24 => 305 | 25 => 306 | 26 => 307 | 27 => 308 | 28 => 309 | 29 => 310 | 36 => 355 | 31 => 343 | 32 => 344 | 37 => 356 | 38 => 357 | 39 => 163 | 41 => 381 | n => n, fun | 27 => 141 | 29 => 9 | 3 => 3 | 32 => 268 | 26 => 141 | 0 => 0 | 44 => 289 | 46 => 399 | 4 => 4 | 36 => 391 | 35 => 390 | 41 => 124 | 5 => 5 | 9 => 9 | 53 => 428 | 57 => 432 | 63 => 457 | 64 => 458 | n => n, fun | n => n⟩
theorem Tryz.sortL : Go.Proofs.SlLaysM.n6 Tryz.prog Tryz.sortL_ren := {
  mixed := by kernel_rfl
  f6 := ⟨Tryz.f181.name, by decide, Tryz.func181.trans (congrArg some (by kernel_rfl))⟩
  f8 := Tryz.func238.trans (congrArg some (by kernel_rfl))
  f9 := ⟨Tryz.f243.name, by decide, Tryz.func243.trans (congrArg some (by kernel_rfl))⟩
  f19 := Tryz.func294.trans (congrArg some (by kernel_rfl))
  f20 := Tryz.func295.trans (congrArg some (by kernel_rfl))
  f21 := ⟨Tryz.f302.name, by decide, Tryz.func302.trans (congrArg some (by kernel_rfl))⟩
  f22 := ⟨Tryz.f303.name, by decide, Tryz.func303.trans (congrArg some (by kernel_rfl))⟩
  f23 := ⟨Tryz.f304.name, by decide, Tryz.func304.trans (congrArg some (by kernel_rfl))⟩
  f24 := ⟨Tryz.f305.name, by decide, Tryz.func305.trans (congrArg some (by kernel_rfl))⟩
  f25 := ⟨Tryz.f306.name, by decide, Tryz.func306.trans (congrArg some (by kernel_rfl))⟩
  f26 := ⟨Tryz.f307.name, by decide, Tryz.func307.trans (congrArg some (by kernel_rfl))⟩
  f27 := ⟨Tryz.f308.name, by decide, Tryz.func308.trans (congrArg some (by kernel_rfl))⟩
  f28 := ⟨Tryz.f309.name, by decide, Tryz.func309.trans (congrArg some (by kernel_rfl))⟩
  f29 := ⟨Tryz.f310.name, by decide, Tryz.func310.trans (congrArg some (by kernel_rfl))⟩
  f31 := Tryz.func343.trans (congrArg some (by kernel_rfl))
  f32 := Tryz.func344.trans (congrArg some (by kernel_rfl))
  f36 := ⟨Tryz.f355.name, by decide, Tryz.func355.trans (congrArg some (by kernel_rfl))⟩
  f37 := ⟨Tryz.f356.name, by decide, Tryz.func356.trans (congrArg some (by kernel_rfl))⟩
  f38 := ⟨Tryz.f357.name, by decide, Tryz.func357.trans (congrArg some (by kernel_rfl))⟩
  f39 := ⟨Tryz.f163.name, by decide, Tryz.func163.trans (congrArg some (by kernel_rfl))⟩
  f41 := ⟨Tryz.f381.name, by decide, Tryz.func381.trans (congrArg some (by kernel_rfl))⟩
  t0 := Tryz.underlying0
  a0 := Tryz.isAgg0
  z0 := Tryz.sizeOf0
  v0 := Tryz.zeroValue0
  t3 := Tryz.underlying3
  a3 := Tryz.isAgg3
  z3 := Tryz.sizeOf3
  v3 := Tryz.zeroValue3
  t4 := Tryz.underlying4
  a4 := Tryz.isAgg4
  z4 := Tryz.sizeOf4
  v4 := Tryz.zeroValue4
  t5 := Tryz.underlying5
  a5 := Tryz.isAgg5
  z5 := Tryz.sizeOf5
  v5 := Tryz.zeroValue5
  t9 := Tryz.underlying9
  a9 := Tryz.isAgg9
  z9 := Tryz.sizeOf9
  v9 := Tryz.zeroValue9
  t26 := Tryz.underlying141
  a26 := Tryz.isAgg141
  z26 := Tryz.sizeOf141
  v26 := Tryz.zeroValue141
  t27 := Tryz.underlying141
  a27 := Tryz.isAgg141
  z27 := Tryz.sizeOf141
  v27 := Tryz.zeroValue141
  t29 := Tryz.underlying9
  a29 := Tryz.isAgg9
  z29 := Tryz.sizeOf9
  v29 := Tryz.zeroValue9
  t32 := Tryz.underlying268
  a32 := Tryz.isAgg268
  z32 := Tryz.sizeOf268
  v32 := Tryz.zeroValue268
  t35 := Tryz.underlying390
  a35 := Tryz.isAgg390
  z35 := Tryz.sizeOf390
  v35 := Tryz.zeroValue390
  t36 := Tryz.underlying391
  a36 := Tryz.isAgg391
  z36 := Tryz.sizeOf391
  v36 := Tryz.zeroValue391
  t41 := Tryz.underlying124
  a41 := Tryz.isAgg124
  z41 := Tryz.sizeOf124
  v41 := Tryz.zeroValue124
  t44 := Tryz.underlying289
  a44 := Tryz.isAgg289
  z44 := Tryz.sizeOf289
  v44 := Tryz.zeroValue289
  t46 := Tryz.underlying399
  a46 := Tryz.isAgg399
  z46 := Tryz.sizeOf399
  v46 := Tryz.zeroValue399
  t53 := Tryz.underlying428
  a53 := Tryz.isAgg428
  z53 := Tryz.sizeOf428
  v53 := Tryz.zeroValue428
  t57 := Tryz.underlying432
  a57 := Tryz.isAgg432
  z57 := Tryz.sizeOf432
  v57 := Tryz.zeroValue432
  t63 := Tryz.underlying457
  a63 := Tryz.isAgg457
  z63 := Tryz.sizeOf457
  v63 := Tryz.zeroValue457
  t64 := Tryz.underlying458
  a64 := Tryz.isAgg458
  z64 := Tryz.sizeOf458
  v64 := Tryz.zeroValue458 }
end Go.Proofs
