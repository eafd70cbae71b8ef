/-
  DERIVED: THE SHELF's CONTRACTS AT THIS DUMP, IN PLAIN WORDS (tools/lay-plain.mjs out of 'TrySort.lean', which tools/lay-shelf.mjs wrote): THE SAME DECLARATIONS UNDER THE SAME NAMES: 'import', 'namespace', 'open', 'def', 'theorem' AND NOTHING ELSE: no command of the shelf's: FOR A HAND-IN. Each laying: the table of numbers ('.._ren') and one theorem, a field a fact of the dump's own or the kernel's comparison; each contract: ONE APPLICATION.
-/
import Derived.Ground.SlgnProg
import Derived.Shelf.SlGeneric
import Derived.Shelf.SortG.Plain
import Derived.Test.YtndiklipffipcaaProg
namespace Go.Proofs
open Go.Shelf
def Try.laysSort_ren : Go.Shelf.Ren := ⟨fun | 53 => 130 | 64 => 158 | 63 => 157 | 78 => 178 | 79 => 179 | 70 => 170 | 71 => 171 | 72 => 172 | 73 => 173 | 74 => 174 | 75 => 175 | 59 => 159 | 76 => 176 | 77 => 177 | 88 => 191 | 89 => 192 | 90 => 193 | 91 => 194 | 92 => 195 | 68 => 180 | 96 => 199 | n => n, fun | 22 => 22 | 23 => 2 | 3 => 3 | 51 => 102 | 0 => 0 | 67 => 204 | 69 => 63 | 4 => 4 | 61 => 198 | 60 => 197 | 44 => 165 | 5 => 5 | 9 => 9 | 75 => 212 | 79 => 216 | 83 => 220 | 84 => 221 | n => n, fun | n => n⟩
theorem Try.laysSort : Go.Proofs.SlLaysN.n53 Try.prog Try.laysSort_ren := {
  mixed := by kernel_rfl
  f53 := ⟨Try.f130.name, by decide, Try.func130.trans (congrArg some (by kernel_rfl))⟩
  f59 := ⟨Try.f159.name, by decide, Try.func159.trans (congrArg some (by kernel_rfl))⟩
  f63 := ⟨Try.f157.name, by decide, Try.func157.trans (congrArg some (by kernel_rfl))⟩
  f64 := Try.func158.trans (congrArg some (by kernel_rfl))
  f68 := ⟨Try.f180.name, by decide, Try.func180.trans (congrArg some (by kernel_rfl))⟩
  f70 := ⟨Try.f170.name, by decide, Try.func170.trans (congrArg some (by kernel_rfl))⟩
  f71 := ⟨Try.f171.name, by decide, Try.func171.trans (congrArg some (by kernel_rfl))⟩
  f72 := ⟨Try.f172.name, by decide, Try.func172.trans (congrArg some (by kernel_rfl))⟩
  f73 := ⟨Try.f173.name, by decide, Try.func173.trans (congrArg some (by kernel_rfl))⟩
  f74 := ⟨Try.f174.name, by decide, Try.func174.trans (congrArg some (by kernel_rfl))⟩
  f75 := ⟨Try.f175.name, by decide, Try.func175.trans (congrArg some (by kernel_rfl))⟩
  f76 := ⟨Try.f176.name, by decide, Try.func176.trans (congrArg some (by kernel_rfl))⟩
  f77 := ⟨Try.f177.name, by decide, Try.func177.trans (congrArg some (by kernel_rfl))⟩
  f78 := Try.func178.trans (congrArg some (by kernel_rfl))
  f79 := Try.func179.trans (congrArg some (by kernel_rfl))
  f88 := ⟨Try.f191.name, by decide, Try.func191.trans (congrArg some (by kernel_rfl))⟩
  f89 := Try.func192.trans (congrArg some (by kernel_rfl))
  f90 := Try.func193.trans (congrArg some (by kernel_rfl))
  f91 := ⟨Try.f194.name, by decide, Try.func194.trans (congrArg some (by kernel_rfl))⟩
  f92 := ⟨Try.f195.name, by decide, Try.func195.trans (congrArg some (by kernel_rfl))⟩
  f96 := ⟨Try.f199.name, by decide, Try.func199.trans (congrArg some (by kernel_rfl))⟩
  t0 := Try.underlying0
  a0 := Try.isAgg0
  z0 := Try.sizeOf0
  v0 := Try.zeroValue0
  t3 := Try.underlying3
  a3 := Try.isAgg3
  z3 := Try.sizeOf3
  v3 := Try.zeroValue3
  t4 := Try.underlying4
  a4 := Try.isAgg4
  z4 := Try.sizeOf4
  v4 := Try.zeroValue4
  t5 := Try.underlying5
  a5 := Try.isAgg5
  z5 := Try.sizeOf5
  v5 := Try.zeroValue5
  t9 := Try.underlying9
  a9 := Try.isAgg9
  z9 := Try.sizeOf9
  v9 := Try.zeroValue9
  t22 := Try.underlying22
  a22 := Try.isAgg22
  z22 := Try.sizeOf22
  v22 := Try.zeroValue22
  t23 := Try.underlying2
  a23 := Try.isAgg2
  z23 := Try.sizeOf2
  v23 := Try.zeroValue2
  t44 := Try.underlying165
  a44 := Try.isAgg165
  z44 := Try.sizeOf165
  v44 := Try.zeroValue165
  t51 := Try.underlying102
  a51 := Try.isAgg102
  z51 := Try.sizeOf102
  v51 := Try.zeroValue102
  t60 := Try.underlying197
  a60 := Try.isAgg197
  z60 := Try.sizeOf197
  v60 := Try.zeroValue197
  t61 := Try.underlying198
  a61 := Try.isAgg198
  z61 := Try.sizeOf198
  v61 := Try.zeroValue198
  t67 := Try.underlying204
  a67 := Try.isAgg204
  z67 := Try.sizeOf204
  v67 := Try.zeroValue204
  t69 := Try.underlying63
  a69 := Try.isAgg63
  z69 := Try.sizeOf63
  v69 := Try.zeroValue63
  t75 := Try.underlying212
  a75 := Try.isAgg212
  z75 := Try.sizeOf212
  v75 := Try.zeroValue212
  t79 := Try.underlying216
  a79 := Try.isAgg216
  z79 := Try.sizeOf216
  v79 := Try.zeroValue216
  t83 := Try.underlying220
  a83 := Try.isAgg220
  z83 := Try.sizeOf220
  v83 := Try.zeroValue220
  t84 := Try.underlying221
  a84 := Try.isAgg221
  z84 := Try.sizeOf221
  v84 := Try.zeroValue221 }
open Go.Sort in
theorem Try.slices_Sort_int (blk off cap : Nat) (zs : List Int) (w : World) (hH : Holds (Value.int .i64) w blk off zs.toArray) (hblk : blk < w.heap.size) (hsz : zs.length < 4611686018427387904) :
    Calls Try.prog 130 #[.slice (some ⟨blk, off, none⟩) zs.length cap] w fun e w' => e = .returned (.tuple #[]) ∧ ∃ n os, w' = grow (putRow (Value.int .i64) (Sort.ahead w n) blk off (zs.mergeSort fun x y => decide (x ≤ y)).toArray) os := AnyG.slices_Sort_int Try.laysSort blk off cap zs w hH hblk hsz
end Go.Proofs
