/-
  DERIVED: THE SHELF's CONTRACTS AT THIS DUMP, IN PLAIN WORDS (tools/lay-plain.mjs out of 'TrySort.lean', which tools/lay-shelf.mjs wrote): THE SAME DECLARATIONS UNDER THE SAME NAMES: 'import', 'namespace', 'open', 'def', 'theorem' AND NOTHING ELSE: no command of the shelf's: FOR A HAND-IN. Each laying: the table of numbers ('.._ren') and one theorem, a field a fact of the dump's own or the kernel's comparison; each contract: ONE APPLICATION.
-/
import Derived.Ground.SlgnProg
import Derived.Shelf.SlGeneric
import Derived.Shelf.SortG.Plain
import Derived.Test.YtnmjfjppgpkieaaProg
namespace Go.Proofs
open Go.Shelf
def Try.laysSort_ren : Go.Shelf.Ren := ⟨fun | 53 => 134 | 64 => 152 | 63 => 151 | 78 => 166 | 79 => 167 | 70 => 158 | 71 => 159 | 72 => 160 | 73 => 161 | 74 => 162 | 75 => 163 | 59 => 153 | 76 => 164 | 77 => 165 | 88 => 169 | 89 => 170 | 90 => 171 | 91 => 172 | 92 => 173 | 68 => 168 | 96 => 174 | n => n, fun | 22 => 28 | 23 => 2 | 3 => 3 | 51 => 178 | 0 => 0 | 67 => 188 | 69 => 190 | 4 => 4 | 61 => 182 | 60 => 181 | 44 => 169 | 5 => 5 | 9 => 9 | 75 => 191 | 79 => 195 | 83 => 197 | 84 => 198 | n => n, fun | n => n⟩
theorem Try.laysSort : Go.Proofs.SlLaysN.n53 Try.prog Try.laysSort_ren := {
  mixed := by kernel_rfl
  f53 := ⟨Try.f134.name, by decide, Try.func134.trans (congrArg some (by kernel_rfl))⟩
  f59 := ⟨Try.f153.name, by decide, Try.func153.trans (congrArg some (by kernel_rfl))⟩
  f63 := ⟨Try.f151.name, by decide, Try.func151.trans (congrArg some (by kernel_rfl))⟩
  f64 := Try.func152.trans (congrArg some (by kernel_rfl))
  f68 := ⟨Try.f168.name, by decide, Try.func168.trans (congrArg some (by kernel_rfl))⟩
  f70 := ⟨Try.f158.name, by decide, Try.func158.trans (congrArg some (by kernel_rfl))⟩
  f71 := ⟨Try.f159.name, by decide, Try.func159.trans (congrArg some (by kernel_rfl))⟩
  f72 := ⟨Try.f160.name, by decide, Try.func160.trans (congrArg some (by kernel_rfl))⟩
  f73 := ⟨Try.f161.name, by decide, Try.func161.trans (congrArg some (by kernel_rfl))⟩
  f74 := ⟨Try.f162.name, by decide, Try.func162.trans (congrArg some (by kernel_rfl))⟩
  f75 := ⟨Try.f163.name, by decide, Try.func163.trans (congrArg some (by kernel_rfl))⟩
  f76 := ⟨Try.f164.name, by decide, Try.func164.trans (congrArg some (by kernel_rfl))⟩
  f77 := ⟨Try.f165.name, by decide, Try.func165.trans (congrArg some (by kernel_rfl))⟩
  f78 := Try.func166.trans (congrArg some (by kernel_rfl))
  f79 := Try.func167.trans (congrArg some (by kernel_rfl))
  f88 := ⟨Try.f169.name, by decide, Try.func169.trans (congrArg some (by kernel_rfl))⟩
  f89 := Try.func170.trans (congrArg some (by kernel_rfl))
  f90 := Try.func171.trans (congrArg some (by kernel_rfl))
  f91 := ⟨Try.f172.name, by decide, Try.func172.trans (congrArg some (by kernel_rfl))⟩
  f92 := ⟨Try.f173.name, by decide, Try.func173.trans (congrArg some (by kernel_rfl))⟩
  f96 := ⟨Try.f174.name, by decide, Try.func174.trans (congrArg some (by kernel_rfl))⟩
  t0 := Try.underlying0
  a0 := Try.isAgg0
  z0 := Try.sizeOf0
  v0 := Try.zeroValue0
  t3 := Try.underlying3
  a3 := Try.isAgg3
  z3 := Try.sizeOf3
  v3 := Try.zeroValue3
  t4 := Try.underlying4
  a4 := Try.isAgg4
  z4 := Try.sizeOf4
  v4 := Try.zeroValue4
  t5 := Try.underlying5
  a5 := Try.isAgg5
  z5 := Try.sizeOf5
  v5 := Try.zeroValue5
  t9 := Try.underlying9
  a9 := Try.isAgg9
  z9 := Try.sizeOf9
  v9 := Try.zeroValue9
  t22 := Try.underlying28
  a22 := Try.isAgg28
  z22 := Try.sizeOf28
  v22 := Try.zeroValue28
  t23 := Try.underlying2
  a23 := Try.isAgg2
  z23 := Try.sizeOf2
  v23 := Try.zeroValue2
  t44 := Try.underlying169
  a44 := Try.isAgg169
  z44 := Try.sizeOf169
  v44 := Try.zeroValue169
  t51 := Try.underlying178
  a51 := Try.isAgg178
  z51 := Try.sizeOf178
  v51 := Try.zeroValue178
  t60 := Try.underlying181
  a60 := Try.isAgg181
  z60 := Try.sizeOf181
  v60 := Try.zeroValue181
  t61 := Try.underlying182
  a61 := Try.isAgg182
  z61 := Try.sizeOf182
  v61 := Try.zeroValue182
  t67 := Try.underlying188
  a67 := Try.isAgg188
  z67 := Try.sizeOf188
  v67 := Try.zeroValue188
  t69 := Try.underlying190
  a69 := Try.isAgg190
  z69 := Try.sizeOf190
  v69 := Try.zeroValue190
  t75 := Try.underlying191
  a75 := Try.isAgg191
  z75 := Try.sizeOf191
  v75 := Try.zeroValue191
  t79 := Try.underlying195
  a79 := Try.isAgg195
  z79 := Try.sizeOf195
  v79 := Try.zeroValue195
  t83 := Try.underlying197
  a83 := Try.isAgg197
  z83 := Try.sizeOf197
  v83 := Try.zeroValue197
  t84 := Try.underlying198
  a84 := Try.isAgg198
  z84 := Try.sizeOf198
  v84 := Try.zeroValue198 }
open Go.Sort in
theorem Try.slices_Sort_int (blk off cap : Nat) (zs : List Int) (w : World) (hH : Holds (Value.int .i64) w blk off zs.toArray) (hblk : blk < w.heap.size) (hsz : zs.length < 4611686018427387904) :
    Calls Try.prog 134 #[.slice (some ⟨blk, off, none⟩) zs.length cap] w fun e w' => e = .returned (.tuple #[]) ∧ ∃ n os, w' = grow (putRow (Value.int .i64) (Sort.ahead w n) blk off (zs.mergeSort fun x y => decide (x ≤ y)).toArray) os := AnyG.slices_Sort_int Try.laysSort blk off cap zs w hH hblk hsz
end Go.Proofs
