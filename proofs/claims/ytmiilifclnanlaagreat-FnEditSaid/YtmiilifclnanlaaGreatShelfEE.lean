/-
 DERIVED: THE SHELF's CONTRACTS AT THIS DUMP, IN PLAIN WORDS (tools/lay-plain.mjs out of 'TrySort.lean', which tools/lay-shelf.mjs wrote): THE SAME DECLARATIONS UNDER THE SAME NAMES: 'import', 'namespace', 'open', 'def', 'theorem' AND NOTHING ELSE: no command of the shelf's: FOR A HAND-IN. Each laying: the table of numbers ('.._ren') and one theorem, a field a fact of the dump's own or the kernel's comparison; each contract: ONE APPLICATION.
-/
import Derived.Ground.SlgnProg
import Derived.Shelf.SlGeneric
import Derived.Shelf.SortG.Plain
import Derived.Shelf.SortG.SortNone
import Derived.Test.YtmiilifclnanlaaGreatProg
namespace Go.Proofs
open Go.Shelf
def Tryz.laysSort_ren : Go.Shelf.Ren := ⟨fun | 53 => 120 | 64 => 144 | 63 => 143 | 78 => 167 | 79 => 168 | 70 => 159 | 71 => 160 | 72 => 161 | 73 => 162 | 74 => 163 | 75 => 164 | 59 => 145 | 76 => 165 | 77 => 166 | 88 => 175 | 89 => 176 | 90 => 177 | 91 => 178 | 92 => 179 | 68 => 169 | 96 => 180 | n => n, fun | 22 => 22 | 23 => 2 | 3 => 3 | 51 => 143 | 0 => 0 | 67 => 164 | 69 => 166 | 4 => 4 | 61 => 158 | 60 => 157 | 44 => 127 | 5 => 5 | 9 => 9 | 75 => 170 | 79 => 174 | 83 => 176 | 84 => 177 | n => n, fun | n => n⟩
theorem Tryz.laysSort : Go.Proofs.SlLaysN.n53 Tryz.prog Tryz.laysSort_ren := {
 mixed := by kernel_rfl
 f53 := ⟨Tryz.f120.name, by decide, Tryz.func120.trans (congrArg some (by kernel_rfl))⟩
 f59 := ⟨Tryz.f145.name, by decide, Tryz.func145.trans (congrArg some (by kernel_rfl))⟩
 f63 := ⟨Tryz.f143.name, by decide, Tryz.func143.trans (congrArg some (by kernel_rfl))⟩
 f64 := Tryz.func144.trans (congrArg some (by kernel_rfl))
 f68 := ⟨Tryz.f169.name, by decide, Tryz.func169.trans (congrArg some (by kernel_rfl))⟩
 f70 := ⟨Tryz.f159.name, by decide, Tryz.func159.trans (congrArg some (by kernel_rfl))⟩
 f71 := ⟨Tryz.f160.name, by decide, Tryz.func160.trans (congrArg some (by kernel_rfl))⟩
 f72 := ⟨Tryz.f161.name, by decide, Tryz.func161.trans (congrArg some (by kernel_rfl))⟩
 f73 := ⟨Tryz.f162.name, by decide, Tryz.func162.trans (congrArg some (by kernel_rfl))⟩
 f74 := ⟨Tryz.f163.name, by decide, Tryz.func163.trans (congrArg some (by kernel_rfl))⟩
 f75 := ⟨Tryz.f164.name, by decide, Tryz.func164.trans (congrArg some (by kernel_rfl))⟩
 f76 := ⟨Tryz.f165.name, by decide, Tryz.func165.trans (congrArg some (by kernel_rfl))⟩
 f77 := ⟨Tryz.f166.name, by decide, Tryz.func166.trans (congrArg some (by kernel_rfl))⟩
 f78 := Tryz.func167.trans (congrArg some (by kernel_rfl))
 f79 := Tryz.func168.trans (congrArg some (by kernel_rfl))
 f88 := ⟨Tryz.f175.name, by decide, Tryz.func175.trans (congrArg some (by kernel_rfl))⟩
 f89 := Tryz.func176.trans (congrArg some (by kernel_rfl))
 f90 := Tryz.func177.trans (congrArg some (by kernel_rfl))
 f91 := ⟨Tryz.f178.name, by decide, Tryz.func178.trans (congrArg some (by kernel_rfl))⟩
 f92 := ⟨Tryz.f179.name, by decide, Tryz.func179.trans (congrArg some (by kernel_rfl))⟩
 f96 := ⟨Tryz.f180.name, by decide, Tryz.func180.trans (congrArg some (by kernel_rfl))⟩
 t0 := Tryz.underlying0
 a0 := Tryz.isAgg0
 z0 := Tryz.sizeOf0
 v0 := Tryz.zeroValue0
 t3 := Tryz.underlying3
 a3 := Tryz.isAgg3
 z3 := Tryz.sizeOf3
 v3 := Tryz.zeroValue3
 t4 := Tryz.underlying4
 a4 := Tryz.isAgg4
 z4 := Tryz.sizeOf4
 v4 := Tryz.zeroValue4
 t5 := Tryz.underlying5
 a5 := Tryz.isAgg5
 z5 := Tryz.sizeOf5
 v5 := Tryz.zeroValue5
 t9 := Tryz.underlying9
 a9 := Tryz.isAgg9
 z9 := Tryz.sizeOf9
 v9 := Tryz.zeroValue9
 t22 := Tryz.underlying22
 a22 := Tryz.isAgg22
 z22 := Tryz.sizeOf22
 v22 := Tryz.zeroValue22
 t23 := Tryz.underlying2
 a23 := Tryz.isAgg2
 z23 := Tryz.sizeOf2
 v23 := Tryz.zeroValue2
 t44 := Tryz.underlying127
 a44 := Tryz.isAgg127
 z44 := Tryz.sizeOf127
 v44 := Tryz.zeroValue127
 t51 := Tryz.underlying143
 a51 := Tryz.isAgg143
 z51 := Tryz.sizeOf143
 v51 := Tryz.zeroValue143
 t60 := Tryz.underlying157
 a60 := Tryz.isAgg157
 z60 := Tryz.sizeOf157
 v60 := Tryz.zeroValue157
 t61 := Tryz.underlying158
 a61 := Tryz.isAgg158
 z61 := Tryz.sizeOf158
 v61 := Tryz.zeroValue158
 t67 := Tryz.underlying164
 a67 := Tryz.isAgg164
 z67 := Tryz.sizeOf164
 v67 := Tryz.zeroValue164
 t69 := Tryz.underlying166
 a69 := Tryz.isAgg166
 z69 := Tryz.sizeOf166
 v69 := Tryz.zeroValue166
 t75 := Tryz.underlying170
 a75 := Tryz.isAgg170
 z75 := Tryz.sizeOf170
 v75 := Tryz.zeroValue170
 t79 := Tryz.underlying174
 a79 := Tryz.isAgg174
 z79 := Tryz.sizeOf174
 v79 := Tryz.zeroValue174
 t83 := Tryz.underlying176
 a83 := Tryz.isAgg176
 z83 := Tryz.sizeOf176
 v83 := Tryz.zeroValue176
 t84 := Tryz.underlying177
 a84 := Tryz.isAgg177
 z84 := Tryz.sizeOf177
 v84 := Tryz.zeroValue177 }
open Go.Sort in
theorem Tryz.slices_Sort_int (blk off cap : Nat) (zs : List Int) (w : World) (hH : Holds (Value.int .i64) w blk off zs.toArray) (hblk : blk < w.heap.size) (hsz : zs.length < 4611686018427387904) :
 Calls Tryz.prog 120 #[.slice (some ⟨blk, off, none⟩) zs.length cap] w fun e w' => e = .returned (.tuple #[]) ∧ ∃ n os, w' = grow (putRow (Value.int .i64) (Sort.ahead w n) blk off (zs.mergeSort fun x y => decide (x ≤ y)).toArray) os := AnyG.slices_Sort_int Tryz.laysSort blk off cap zs w hH hblk hsz
theorem Tryz.slices_Sort_int_none (p : Option Addr) (cap : Nat) (w : World) :
 Calls Tryz.prog 120 #[.slice p 0 cap] w fun e w' => e = .returned (.tuple #[]) ∧ w' = w := AnyG.slices_Sort_int_none Tryz.laysSort p cap w
end Go.Proofs
