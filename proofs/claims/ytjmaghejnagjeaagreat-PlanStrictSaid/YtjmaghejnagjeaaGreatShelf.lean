/-
  DERIVED: THE SHELF's CONTRACTS AT THIS DUMP, IN PLAIN WORDS (tools/lay-plain.mjs out of 'YtjmaghejnagjeaaGreatShelf.lean', which tools/lay-shelf.mjs wrote): THE SAME DECLARATIONS UNDER THE SAME NAMES: 'import', 'namespace', 'open', 'def', 'theorem' AND NOTHING ELSE: no command of the shelf's: FOR A HAND-IN. Each laying: the table of numbers ('.._ren') and one theorem, a field a fact of the dump's own or the kernel's comparison; each contract: ONE APPLICATION.
-/
import Derived.Ground.SlsfProg
import Derived.Shelf.SlSortCmp.WholeK
import Derived.Shelf.SlSortCmp.NoneTotal
import Derived.Test.YtjmaghejnagjeaaGreatChecked
namespace Go.Proofs
open Go.Shelf
def Tryz.laysSortS_ren : Go.Shelf.Ren := ⟨fun | 6 => 165 | 15 => 221 | 14 => 220 | 28 => 270 | 29 => 271 | 20 => 262 | 21 => 263 | 22 => 264 | 23 => 265 | 24 => 266 | 25 => 267 | 26 => 268 | 27 => 269 | 46 => 296 | 47 => 297 | 48 => 298 | 49 => 299 | 50 => 300 | 57 => 315 | n => n, fun | 22 => 85 | 24 => 225 | 25 => 257 | 3 => 3 | 39 => 300 | 0 => 0 | 53 => 337 | 55 => 339 | 4 => 4 | 46 => 330 | 45 => 329 | 50 => 334 | 5 => 5 | 9 => 9 | 66 => 365 | 70 => 369 | 76 => 385 | 77 => 386 | n => n, fun | n => n⟩
theorem Tryz.laysSortS : Go.Proofs.SlLaysF0.n6 Tryz.prog Tryz.laysSortS_ren := {
  mixed := by kernel_rfl
  f6 := ⟨Tryz.f165.name, by decide, Tryz.func165.trans (congrArg some (by kernel_rfl))⟩
  f14 := ⟨Tryz.f220.name, by decide, Tryz.func220.trans (congrArg some (by kernel_rfl))⟩
  f15 := Tryz.func221.trans (congrArg some (by kernel_rfl))
  f20 := ⟨Tryz.f262.name, by decide, Tryz.func262.trans (congrArg some (by kernel_rfl))⟩
  f21 := ⟨Tryz.f263.name, by decide, Tryz.func263.trans (congrArg some (by kernel_rfl))⟩
  f22 := ⟨Tryz.f264.name, by decide, Tryz.func264.trans (congrArg some (by kernel_rfl))⟩
  f23 := ⟨Tryz.f265.name, by decide, Tryz.func265.trans (congrArg some (by kernel_rfl))⟩
  f24 := ⟨Tryz.f266.name, by decide, Tryz.func266.trans (congrArg some (by kernel_rfl))⟩
  f25 := ⟨Tryz.f267.name, by decide, Tryz.func267.trans (congrArg some (by kernel_rfl))⟩
  f26 := ⟨Tryz.f268.name, by decide, Tryz.func268.trans (congrArg some (by kernel_rfl))⟩
  f27 := ⟨Tryz.f269.name, by decide, Tryz.func269.trans (congrArg some (by kernel_rfl))⟩
  f28 := Tryz.func270.trans (congrArg some (by kernel_rfl))
  f29 := Tryz.func271.trans (congrArg some (by kernel_rfl))
  f46 := ⟨Tryz.f296.name, by decide, Tryz.func296.trans (congrArg some (by kernel_rfl))⟩
  f47 := Tryz.func297.trans (congrArg some (by kernel_rfl))
  f48 := Tryz.func298.trans (congrArg some (by kernel_rfl))
  f49 := ⟨Tryz.f299.name, by decide, Tryz.func299.trans (congrArg some (by kernel_rfl))⟩
  f50 := ⟨Tryz.f300.name, by decide, Tryz.func300.trans (congrArg some (by kernel_rfl))⟩
  f57 := ⟨Tryz.f315.name, by decide, Tryz.func315.trans (congrArg some (by kernel_rfl))⟩
  t0 := Tryz.underlying0
  a0 := Tryz.isAgg0
  z0 := Tryz.sizeOf0
  v0 := Tryz.zeroValue0
  t3 := Tryz.underlying3
  a3 := Tryz.isAgg3
  z3 := Tryz.sizeOf3
  v3 := Tryz.zeroValue3
  t4 := Tryz.underlying4
  a4 := Tryz.isAgg4
  z4 := Tryz.sizeOf4
  v4 := Tryz.zeroValue4
  t5 := Tryz.underlying5
  a5 := Tryz.isAgg5
  z5 := Tryz.sizeOf5
  v5 := Tryz.zeroValue5
  t9 := Tryz.underlying9
  a9 := Tryz.isAgg9
  z9 := Tryz.sizeOf9
  v9 := Tryz.zeroValue9
  t22 := Tryz.underlying85
  a22 := Tryz.isAgg85
  z22 := Tryz.sizeOf85
  v22 := Tryz.zeroValue85
  t25 := Tryz.underlying257
  a25 := Tryz.isAgg257
  z25 := Tryz.sizeOf257
  v25 := Tryz.zeroValue257
  t39 := Tryz.underlying300
  a39 := Tryz.isAgg300
  z39 := Tryz.sizeOf300
  v39 := Tryz.zeroValue300
  t45 := Tryz.underlying329
  a45 := Tryz.isAgg329
  z45 := Tryz.sizeOf329
  v45 := Tryz.zeroValue329
  t46 := Tryz.underlying330
  a46 := Tryz.isAgg330
  z46 := Tryz.sizeOf330
  v46 := Tryz.zeroValue330
  t50 := Tryz.underlying334
  a50 := Tryz.isAgg334
  z50 := Tryz.sizeOf334
  v50 := Tryz.zeroValue334
  t53 := Tryz.underlying337
  a53 := Tryz.isAgg337
  z53 := Tryz.sizeOf337
  v53 := Tryz.zeroValue337
  t55 := Tryz.underlying339
  a55 := Tryz.isAgg339
  z55 := Tryz.sizeOf339
  v55 := Tryz.zeroValue339
  t66 := Tryz.underlying365
  a66 := Tryz.isAgg365
  z66 := Tryz.sizeOf365
  v66 := Tryz.zeroValue365
  t70 := Tryz.underlying369
  a70 := Tryz.isAgg369
  z70 := Tryz.sizeOf369
  v70 := Tryz.zeroValue369
  t76 := Tryz.underlying385
  a76 := Tryz.isAgg385
  z76 := Tryz.sizeOf385
  v76 := Tryz.zeroValue385
  t77 := Tryz.underlying386
  a77 := Tryz.isAgg386
  z77 := Tryz.sizeOf386
  v77 := Tryz.zeroValue386 }
end Go.Proofs
