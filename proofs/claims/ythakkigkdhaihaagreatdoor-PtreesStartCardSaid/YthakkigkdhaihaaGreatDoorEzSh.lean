/-
 DERIVED: THE SHELF's CONTRACTS AT THIS DUMP, IN PLAIN WORDS (tools/lay-plain.mjs out of 'EzSg.lean', which tools/lay-shelf.mjs wrote): THE SAME DECLARATIONS UNDER THE SAME NAMES: 'import', 'namespace', 'open', 'def', 'theorem' AND NOTHING ELSE: no command of the shelf's: FOR A HAND-IN. Each laying: the table of numbers ('.._ren') and one theorem, a field a fact of the dump's own or the kernel's comparison; each contract: ONE APPLICATION.
-/
import Derived.Test.YthakkigkdhaihaaGreatDoorEzP
import Derived.Shelf.SlSortCmp.NoneTotal
import Derived.Shelf.SlicesE.Clone
namespace Go.Proofs
open Go.Shelf
def Tryz.sortOids_ren : Go.Shelf.Ren := ⟨fun | 6 => 164 | 15 => 191 | 14 => 190 | 28 => 226 | 29 => 227 | 20 => 218 | 21 => 219 | 22 => 220 | 23 => 221 | 24 => 222 | 25 => 223 | 26 => 224 | 27 => 225 | 46 => 254 | 47 => 255 | 48 => 256 | 49 => 257 | 50 => 258 | 57 => 275 | n => n, fun | 22 => 32 | 24 => 55 | 25 => 149 | 3 => 3 | 39 => 260 | 0 => 0 | 53 => 52 | 55 => 302 | 4 => 4 | 46 => 294 | 45 => 293 | 50 => 298 | 5 => 5 | 9 => 9 | 66 => 316 | 70 => 113 | 76 => 339 | 77 => 269 | n => n, fun | n => n⟩
theorem Tryz.sortOids : Go.Proofs.SlLaysF0.n6 Tryz.prog Tryz.sortOids_ren := {
 mixed := by kernel_rfl
 f6 := ⟨Tryz.f164.name, by decide, Tryz.func164.trans (congrArg some (by kernel_rfl))⟩
 f14 := ⟨Tryz.f190.name, by decide, Tryz.func190.trans (congrArg some (by kernel_rfl))⟩
 f15 := Tryz.func191.trans (congrArg some (by kernel_rfl))
 f20 := ⟨Tryz.f218.name, by decide, Tryz.func218.trans (congrArg some (by kernel_rfl))⟩
 f21 := ⟨Tryz.f219.name, by decide, Tryz.func219.trans (congrArg some (by kernel_rfl))⟩
 f22 := ⟨Tryz.f220.name, by decide, Tryz.func220.trans (congrArg some (by kernel_rfl))⟩
 f23 := ⟨Tryz.f221.name, by decide, Tryz.func221.trans (congrArg some (by kernel_rfl))⟩
 f24 := ⟨Tryz.f222.name, by decide, Tryz.func222.trans (congrArg some (by kernel_rfl))⟩
 f25 := ⟨Tryz.f223.name, by decide, Tryz.func223.trans (congrArg some (by kernel_rfl))⟩
 f26 := ⟨Tryz.f224.name, by decide, Tryz.func224.trans (congrArg some (by kernel_rfl))⟩
 f27 := ⟨Tryz.f225.name, by decide, Tryz.func225.trans (congrArg some (by kernel_rfl))⟩
 f28 := Tryz.func226.trans (congrArg some (by kernel_rfl))
 f29 := Tryz.func227.trans (congrArg some (by kernel_rfl))
 f46 := ⟨Tryz.f254.name, by decide, Tryz.func254.trans (congrArg some (by kernel_rfl))⟩
 f47 := Tryz.func255.trans (congrArg some (by kernel_rfl))
 f48 := Tryz.func256.trans (congrArg some (by kernel_rfl))
 f49 := ⟨Tryz.f257.name, by decide, Tryz.func257.trans (congrArg some (by kernel_rfl))⟩
 f50 := ⟨Tryz.f258.name, by decide, Tryz.func258.trans (congrArg some (by kernel_rfl))⟩
 f57 := ⟨Tryz.f275.name, by decide, Tryz.func275.trans (congrArg some (by kernel_rfl))⟩
 t0 := Tryz.underlying0
 a0 := Tryz.isAgg0
 z0 := Tryz.sizeOf0
 v0 := Tryz.zeroValue0
 t3 := Tryz.underlying3
 a3 := Tryz.isAgg3
 z3 := Tryz.sizeOf3
 v3 := Tryz.zeroValue3
 t4 := Tryz.underlying4
 a4 := Tryz.isAgg4
 z4 := Tryz.sizeOf4
 v4 := Tryz.zeroValue4
 t5 := Tryz.underlying5
 a5 := Tryz.isAgg5
 z5 := Tryz.sizeOf5
 v5 := Tryz.zeroValue5
 t9 := Tryz.underlying9
 a9 := Tryz.isAgg9
 z9 := Tryz.sizeOf9
 v9 := Tryz.zeroValue9
 t22 := Tryz.underlying32
 a22 := Tryz.isAgg32
 z22 := Tryz.sizeOf32
 v22 := Tryz.zeroValue32
 t25 := Tryz.underlying149
 a25 := Tryz.isAgg149
 z25 := Tryz.sizeOf149
 v25 := Tryz.zeroValue149
 t39 := Tryz.underlying260
 a39 := Tryz.isAgg260
 z39 := Tryz.sizeOf260
 v39 := Tryz.zeroValue260
 t45 := Tryz.underlying293
 a45 := Tryz.isAgg293
 z45 := Tryz.sizeOf293
 v45 := Tryz.zeroValue293
 t46 := Tryz.underlying294
 a46 := Tryz.isAgg294
 z46 := Tryz.sizeOf294
 v46 := Tryz.zeroValue294
 t50 := Tryz.underlying298
 a50 := Tryz.isAgg298
 z50 := Tryz.sizeOf298
 v50 := Tryz.zeroValue298
 t53 := Tryz.underlying52
 a53 := Tryz.isAgg52
 z53 := Tryz.sizeOf52
 v53 := Tryz.zeroValue52
 t55 := Tryz.underlying302
 a55 := Tryz.isAgg302
 z55 := Tryz.sizeOf302
 v55 := Tryz.zeroValue302
 t66 := Tryz.underlying316
 a66 := Tryz.isAgg316
 z66 := Tryz.sizeOf316
 v66 := Tryz.zeroValue316
 t70 := Tryz.underlying113
 a70 := Tryz.isAgg113
 z70 := Tryz.sizeOf113
 v70 := Tryz.zeroValue113
 t76 := Tryz.underlying339
 a76 := Tryz.isAgg339
 z76 := Tryz.sizeOf339
 v76 := Tryz.zeroValue339
 t77 := Tryz.underlying269
 a77 := Tryz.isAgg269
 z77 := Tryz.sizeOf269
 v77 := Tryz.zeroValue269 }
def Tryz.cloneNodes_ren : Go.Shelf.Ren := ⟨fun | 41 => 128 | n => n, fun | 22 => 60 | 23 => 96 | 4 => 4 | n => n, fun | n => n⟩
theorem Tryz.cloneNodes : Go.Proofs.SlLaysE0.n41 Tryz.prog Tryz.cloneNodes_ren := {
 mixed := by kernel_rfl
 f41 := ⟨Tryz.f128.name, by decide, Tryz.func128.trans (congrArg some (by kernel_rfl))⟩
 t4 := Tryz.underlying4
 a4 := Tryz.isAgg4
 z4 := Tryz.sizeOf4
 v4 := Tryz.zeroValue4
 t22 := Tryz.underlying60
 a22 := Tryz.isAgg60
 z22 := Tryz.sizeOf60
 v22 := Tryz.zeroValue60 }
end Go.Proofs