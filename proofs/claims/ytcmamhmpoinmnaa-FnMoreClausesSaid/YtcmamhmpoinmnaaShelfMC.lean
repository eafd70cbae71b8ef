/-
 DERIVED: THE SHELF's CONTRACTS AT THIS DUMP, IN PLAIN WORDS (tools/lay-plain.mjs out of 'TryCut.lean', which tools/lay-shelf.mjs wrote): THE SAME DECLARATIONS UNDER THE SAME NAMES: 'import', 'namespace', 'open', 'def', 'theorem' AND NOTHING ELSE: no command of the shelf's: FOR A HAND-IN. Each laying: the table of numbers ('.._ren') and one theorem, a field a fact of the dump's own or the kernel's comparison; each contract: ONE APPLICATION.
-/
import Derived.Ground.SlgnProg
import Derived.Shelf.SlGeneric
import Derived.Shelf.SortG.Plain
import Derived.Shelf.SortG.SortNone
import Derived.Shelf.Small.Bits
import Derived.Shelf.Strconv.Itoa0
import Derived.Ground.SlsfProg
import Derived.Shelf.SlSortCmp.Insertion
import Derived.Shelf.SlSortCmp.SiftDown1
import Derived.Shelf.SlSortCmp.HeapSort1
import Derived.Shelf.SlSortCmp.Insertion1
import Derived.Shelf.SlSortCmp.Median1
import Derived.Shelf.SlSortCmp.Pivot1
import Derived.Shelf.SlSortCmp.ReverseRange1
import Derived.Shelf.SlSortCmp.PartialInsertion1
import Derived.Shelf.SlSortCmp.PartitionEqual1
import Derived.Shelf.SlSortCmp.Partition1
import Derived.Shelf.SlSortCmp.Pdq1
import Derived.Shelf.SlSortCmp.Whole1
import Derived.Shelf.SlSortCmp.NoneTotal
import Derived.Test.YtcmamhmpoinmnaaProg
namespace Go.Proofs
open Go.Shelf
def Try.laysSlF6_f88_ren : Go.Shelf.Ren := ⟨fun | 6 => 88 | 15 => 104 | 14 => 105 | 28 => 123 | 29 => 124 | 20 => 125 | 21 => 126 | 22 => 127 | 23 => 128 | 24 => 129 | 25 => 130 | 26 => 131 | 27 => 132 | 46 => 141 | 47 => 137 | 48 => 138 | 49 => 142 | 50 => 143 | 57 => 145 | n => n, fun | 22 => 22 | 24 => 24 | 25 => 122 | 3 => 3 | 39 => 79 | 0 => 0 | 53 => 150 | 55 => 45 | 4 => 4 | 46 => 144 | 45 => 143 | 50 => 123 | 5 => 5 | 9 => 9 | 66 => 158 | 70 => 162 | 76 => 166 | 77 => 167 | n => n, fun | n => n⟩
theorem Try.laysSlF6_f88 : Go.Proofs.SlLaysF.n6 Try.prog Try.laysSlF6_f88_ren := {
 mixed := by kernel_rfl
 f6 := ⟨Try.f88.name, by decide, Try.func88.trans (congrArg some (by kernel_rfl))⟩
 f14 := ⟨Try.f105.name, by decide, Try.func105.trans (congrArg some (by kernel_rfl))⟩
 f15 := Try.func104.trans (congrArg some (by kernel_rfl))
 f20 := ⟨Try.f125.name, by decide, Try.func125.trans (congrArg some (by kernel_rfl))⟩
 f21 := ⟨Try.f126.name, by decide, Try.func126.trans (congrArg some (by kernel_rfl))⟩
 f22 := ⟨Try.f127.name, by decide, Try.func127.trans (congrArg some (by kernel_rfl))⟩
 f23 := ⟨Try.f128.name, by decide, Try.func128.trans (congrArg some (by kernel_rfl))⟩
 f24 := ⟨Try.f129.name, by decide, Try.func129.trans (congrArg some (by kernel_rfl))⟩
 f25 := ⟨Try.f130.name, by decide, Try.func130.trans (congrArg some (by kernel_rfl))⟩
 f26 := ⟨Try.f131.name, by decide, Try.func131.trans (congrArg some (by kernel_rfl))⟩
 f27 := ⟨Try.f132.name, by decide, Try.func132.trans (congrArg some (by kernel_rfl))⟩
 f28 := Try.func123.trans (congrArg some (by kernel_rfl))
 f29 := Try.func124.trans (congrArg some (by kernel_rfl))
 f46 := ⟨Try.f141.name, by decide, Try.func141.trans (congrArg some (by kernel_rfl))⟩
 f47 := Try.func137.trans (congrArg some (by kernel_rfl))
 f48 := Try.func138.trans (congrArg some (by kernel_rfl))
 f49 := ⟨Try.f142.name, by decide, Try.func142.trans (congrArg some (by kernel_rfl))⟩
 f50 := ⟨Try.f143.name, by decide, Try.func143.trans (congrArg some (by kernel_rfl))⟩
 f57 := ⟨Try.f145.name, by decide, Try.func145.trans (congrArg some (by kernel_rfl))⟩
 t0 := Try.underlying0
 a0 := Try.isAgg0
 z0 := Try.sizeOf0
 v0 := Try.zeroValue0
 t3 := Try.underlying3
 a3 := Try.isAgg3
 z3 := Try.sizeOf3
 v3 := Try.zeroValue3
 t4 := Try.underlying4
 a4 := Try.isAgg4
 z4 := Try.sizeOf4
 v4 := Try.zeroValue4
 t5 := Try.underlying5
 a5 := Try.isAgg5
 z5 := Try.sizeOf5
 v5 := Try.zeroValue5
 t9 := Try.underlying9
 a9 := Try.isAgg9
 z9 := Try.sizeOf9
 v9 := Try.zeroValue9
 t22 := Try.underlying22
 a22 := Try.isAgg22
 z22 := Try.sizeOf22
 v22 := Try.zeroValue22
 a24 := Try.isAgg24
 z24 := Try.sizeOf24
 t25 := Try.underlying122
 a25 := Try.isAgg122
 z25 := Try.sizeOf122
 v25 := Try.zeroValue122
 t39 := Try.underlying79
 a39 := Try.isAgg79
 z39 := Try.sizeOf79
 v39 := Try.zeroValue79
 t45 := Try.underlying143
 a45 := Try.isAgg143
 z45 := Try.sizeOf143
 v45 := Try.zeroValue143
 t46 := Try.underlying144
 a46 := Try.isAgg144
 z46 := Try.sizeOf144
 v46 := Try.zeroValue144
 t50 := Try.underlying123
 a50 := Try.isAgg123
 z50 := Try.sizeOf123
 v50 := Try.zeroValue123
 t53 := Try.underlying150
 a53 := Try.isAgg150
 z53 := Try.sizeOf150
 v53 := Try.zeroValue150
 t55 := Try.underlying45
 a55 := Try.isAgg45
 z55 := Try.sizeOf45
 v55 := Try.zeroValue45
 t66 := Try.underlying158
 a66 := Try.isAgg158
 z66 := Try.sizeOf158
 v66 := Try.zeroValue158
 t70 := Try.underlying162
 a70 := Try.isAgg162
 z70 := Try.sizeOf162
 v70 := Try.zeroValue162
 t76 := Try.underlying166
 a76 := Try.isAgg166
 z76 := Try.sizeOf166
 v76 := Try.zeroValue166
 t77 := Try.underlying167
 a77 := Try.isAgg167
 z77 := Try.sizeOf167
 v77 := Try.zeroValue167 }
open Go.RowKit Go.Lib Go.Sort in
theorem Try.slices_SortFunc {α : Type} [Inhabited α] (enc : α → Value) (h1 : OneCell enc) (cf : α → α → Int) (hO : SWO (ltOf cf)) (g : Nat) (cb : Array Value) (blk off cap : Nat) (d : Array α) (w : World) (eg : ∀ args w, (callFunc g args).run Try.prog w = .ok (.enter g args) w) (hcmp : CmpLays1 Try.prog g cb enc cf blk off d.size w) (hH : Holds enc w blk off d) (hblk : blk < w.heap.size) (hsz : d.size < 4611686018427387904) :
 Calls Try.prog 88 #[.slice (some ⟨blk, off, none⟩) d.size cap, .func (.func g) #[] cb] w fun e w' =>
  e = .returned (.tuple #[]) ∧ ∃ d' n os, PermIn 0 d.size d d' ∧ SortedIn (ltOf cf) 0 d.size d' ∧ w' = sortWorld enc w blk off n d' os := Any.slices_SortFunc Try.laysSlF6_f88 enc h1 cf hO g cb blk off cap d w eg hcmp hH hblk hsz
def Try.laysSlF06_f88_ren : Go.Shelf.Ren := ⟨fun | 6 => 88 | 15 => 104 | 14 => 105 | 28 => 123 | 29 => 124 | 20 => 125 | 21 => 126 | 22 => 127 | 23 => 128 | 24 => 129 | 25 => 130 | 26 => 131 | 27 => 132 | 46 => 141 | 47 => 137 | 48 => 138 | 49 => 142 | 50 => 143 | 57 => 145 | n => n, fun | 22 => 22 | 24 => 24 | 25 => 122 | 3 => 3 | 39 => 79 | 0 => 0 | 53 => 150 | 55 => 45 | 4 => 4 | 46 => 144 | 45 => 143 | 50 => 123 | 5 => 5 | 9 => 9 | 66 => 158 | 70 => 162 | 76 => 166 | 77 => 167 | n => n, fun | n => n⟩
theorem Try.laysSlF06_f88 : Go.Proofs.SlLaysF0.n6 Try.prog Try.laysSlF06_f88_ren := {
 mixed := by kernel_rfl
 f6 := ⟨Try.f88.name, by decide, Try.func88.trans (congrArg some (by kernel_rfl))⟩
 f14 := ⟨Try.f105.name, by decide, Try.func105.trans (congrArg some (by kernel_rfl))⟩
 f15 := Try.func104.trans (congrArg some (by kernel_rfl))
 f20 := ⟨Try.f125.name, by decide, Try.func125.trans (congrArg some (by kernel_rfl))⟩
 f21 := ⟨Try.f126.name, by decide, Try.func126.trans (congrArg some (by kernel_rfl))⟩
 f22 := ⟨Try.f127.name, by decide, Try.func127.trans (congrArg some (by kernel_rfl))⟩
 f23 := ⟨Try.f128.name, by decide, Try.func128.trans (congrArg some (by kernel_rfl))⟩
 f24 := ⟨Try.f129.name, by decide, Try.func129.trans (congrArg some (by kernel_rfl))⟩
 f25 := ⟨Try.f130.name, by decide, Try.func130.trans (congrArg some (by kernel_rfl))⟩
 f26 := ⟨Try.f131.name, by decide, Try.func131.trans (congrArg some (by kernel_rfl))⟩
 f27 := ⟨Try.f132.name, by decide, Try.func132.trans (congrArg some (by kernel_rfl))⟩
 f28 := Try.func123.trans (congrArg some (by kernel_rfl))
 f29 := Try.func124.trans (congrArg some (by kernel_rfl))
 f46 := ⟨Try.f141.name, by decide, Try.func141.trans (congrArg some (by kernel_rfl))⟩
 f47 := Try.func137.trans (congrArg some (by kernel_rfl))
 f48 := Try.func138.trans (congrArg some (by kernel_rfl))
 f49 := ⟨Try.f142.name, by decide, Try.func142.trans (congrArg some (by kernel_rfl))⟩
 f50 := ⟨Try.f143.name, by decide, Try.func143.trans (congrArg some (by kernel_rfl))⟩
 f57 := ⟨Try.f145.name, by decide, Try.func145.trans (congrArg some (by kernel_rfl))⟩
 t0 := Try.underlying0
 a0 := Try.isAgg0
 z0 := Try.sizeOf0
 v0 := Try.zeroValue0
 t3 := Try.underlying3
 a3 := Try.isAgg3
 z3 := Try.sizeOf3
 v3 := Try.zeroValue3
 t4 := Try.underlying4
 a4 := Try.isAgg4
 z4 := Try.sizeOf4
 v4 := Try.zeroValue4
 t5 := Try.underlying5
 a5 := Try.isAgg5
 z5 := Try.sizeOf5
 v5 := Try.zeroValue5
 t9 := Try.underlying9
 a9 := Try.isAgg9
 z9 := Try.sizeOf9
 v9 := Try.zeroValue9
 t22 := Try.underlying22
 a22 := Try.isAgg22
 z22 := Try.sizeOf22
 v22 := Try.zeroValue22
 t25 := Try.underlying122
 a25 := Try.isAgg122
 z25 := Try.sizeOf122
 v25 := Try.zeroValue122
 t39 := Try.underlying79
 a39 := Try.isAgg79
 z39 := Try.sizeOf79
 v39 := Try.zeroValue79
 t45 := Try.underlying143
 a45 := Try.isAgg143
 z45 := Try.sizeOf143
 v45 := Try.zeroValue143
 t46 := Try.underlying144
 a46 := Try.isAgg144
 z46 := Try.sizeOf144
 v46 := Try.zeroValue144
 t50 := Try.underlying123
 a50 := Try.isAgg123
 z50 := Try.sizeOf123
 v50 := Try.zeroValue123
 t53 := Try.underlying150
 a53 := Try.isAgg150
 z53 := Try.sizeOf150
 v53 := Try.zeroValue150
 t55 := Try.underlying45
 a55 := Try.isAgg45
 z55 := Try.sizeOf45
 v55 := Try.zeroValue45
 t66 := Try.underlying158
 a66 := Try.isAgg158
 z66 := Try.sizeOf158
 v66 := Try.zeroValue158
 t70 := Try.underlying162
 a70 := Try.isAgg162
 z70 := Try.sizeOf162
 v70 := Try.zeroValue162
 t76 := Try.underlying166
 a76 := Try.isAgg166
 z76 := Try.sizeOf166
 v76 := Try.zeroValue166
 t77 := Try.underlying167
 a77 := Try.isAgg167
 z77 := Try.sizeOf167
 v77 := Try.zeroValue167 }
open Go.RowKit Go.Lib Go.Sort in
theorem Try.slices_SortFunc_none {α : Type} [Inhabited α] (p : Option Addr) (cap : Nat) (fv : Value) (w : World) :
 Calls Try.prog 88 #[.slice p 0 cap, fv] w fun e w' => e = .returned (.tuple #[]) ∧ w' = w := AnyF.slices_SortFunc_none Try.laysSlF06_f88 p cap fv w
def Try.laysSort_ren : Go.Shelf.Ren := ⟨fun | 53 => 87 | 64 => 104 | 63 => 103 | 78 => 123 | 79 => 124 | 70 => 115 | 71 => 116 | 72 => 117 | 73 => 118 | 74 => 119 | 75 => 120 | 59 => 107 | 76 => 121 | 77 => 122 | 88 => 136 | 89 => 137 | 90 => 138 | 91 => 139 | 92 => 140 | 68 => 133 | 96 => 144 | n => n, fun | 22 => 24 | 23 => 2 | 3 => 3 | 51 => 79 | 0 => 0 | 67 => 150 | 69 => 45 | 4 => 4 | 61 => 144 | 60 => 143 | 44 => 123 | 5 => 5 | 9 => 9 | 75 => 158 | 79 => 162 | 83 => 166 | 84 => 167 | n => n, fun | n => n⟩
theorem Try.laysSort : Go.Proofs.SlLaysN.n53 Try.prog Try.laysSort_ren := {
 mixed := by kernel_rfl
 f53 := ⟨Try.f87.name, by decide, Try.func87.trans (congrArg some (by kernel_rfl))⟩
 f59 := ⟨Try.f107.name, by decide, Try.func107.trans (congrArg some (by kernel_rfl))⟩
 f63 := ⟨Try.f103.name, by decide, Try.func103.trans (congrArg some (by kernel_rfl))⟩
 f64 := Try.func104.trans (congrArg some (by kernel_rfl))
 f68 := ⟨Try.f133.name, by decide, Try.func133.trans (congrArg some (by kernel_rfl))⟩
 f70 := ⟨Try.f115.name, by decide, Try.func115.trans (congrArg some (by kernel_rfl))⟩
 f71 := ⟨Try.f116.name, by decide, Try.func116.trans (congrArg some (by kernel_rfl))⟩
 f72 := ⟨Try.f117.name, by decide, Try.func117.trans (congrArg some (by kernel_rfl))⟩
 f73 := ⟨Try.f118.name, by decide, Try.func118.trans (congrArg some (by kernel_rfl))⟩
 f74 := ⟨Try.f119.name, by decide, Try.func119.trans (congrArg some (by kernel_rfl))⟩
 f75 := ⟨Try.f120.name, by decide, Try.func120.trans (congrArg some (by kernel_rfl))⟩
 f76 := ⟨Try.f121.name, by decide, Try.func121.trans (congrArg some (by kernel_rfl))⟩
 f77 := ⟨Try.f122.name, by decide, Try.func122.trans (congrArg some (by kernel_rfl))⟩
 f78 := Try.func123.trans (congrArg some (by kernel_rfl))
 f79 := Try.func124.trans (congrArg some (by kernel_rfl))
 f88 := ⟨Try.f136.name, by decide, Try.func136.trans (congrArg some (by kernel_rfl))⟩
 f89 := Try.func137.trans (congrArg some (by kernel_rfl))
 f90 := Try.func138.trans (congrArg some (by kernel_rfl))
 f91 := ⟨Try.f139.name, by decide, Try.func139.trans (congrArg some (by kernel_rfl))⟩
 f92 := ⟨Try.f140.name, by decide, Try.func140.trans (congrArg some (by kernel_rfl))⟩
 f96 := ⟨Try.f144.name, by decide, Try.func144.trans (congrArg some (by kernel_rfl))⟩
 t0 := Try.underlying0
 a0 := Try.isAgg0
 z0 := Try.sizeOf0
 v0 := Try.zeroValue0
 t3 := Try.underlying3
 a3 := Try.isAgg3
 z3 := Try.sizeOf3
 v3 := Try.zeroValue3
 t4 := Try.underlying4
 a4 := Try.isAgg4
 z4 := Try.sizeOf4
 v4 := Try.zeroValue4
 t5 := Try.underlying5
 a5 := Try.isAgg5
 z5 := Try.sizeOf5
 v5 := Try.zeroValue5
 t9 := Try.underlying9
 a9 := Try.isAgg9
 z9 := Try.sizeOf9
 v9 := Try.zeroValue9
 t22 := Try.underlying24
 a22 := Try.isAgg24
 z22 := Try.sizeOf24
 v22 := Try.zeroValue24
 t23 := Try.underlying2
 a23 := Try.isAgg2
 z23 := Try.sizeOf2
 v23 := Try.zeroValue2
 t44 := Try.underlying123
 a44 := Try.isAgg123
 z44 := Try.sizeOf123
 v44 := Try.zeroValue123
 t51 := Try.underlying79
 a51 := Try.isAgg79
 z51 := Try.sizeOf79
 v51 := Try.zeroValue79
 t60 := Try.underlying143
 a60 := Try.isAgg143
 z60 := Try.sizeOf143
 v60 := Try.zeroValue143
 t61 := Try.underlying144
 a61 := Try.isAgg144
 z61 := Try.sizeOf144
 v61 := Try.zeroValue144
 t67 := Try.underlying150
 a67 := Try.isAgg150
 z67 := Try.sizeOf150
 v67 := Try.zeroValue150
 t69 := Try.underlying45
 a69 := Try.isAgg45
 z69 := Try.sizeOf45
 v69 := Try.zeroValue45
 t75 := Try.underlying158
 a75 := Try.isAgg158
 z75 := Try.sizeOf158
 v75 := Try.zeroValue158
 t79 := Try.underlying162
 a79 := Try.isAgg162
 z79 := Try.sizeOf162
 v79 := Try.zeroValue162
 t83 := Try.underlying166
 a83 := Try.isAgg166
 z83 := Try.sizeOf166
 v83 := Try.zeroValue166
 t84 := Try.underlying167
 a84 := Try.isAgg167
 z84 := Try.sizeOf167
 v84 := Try.zeroValue167 }
open Go.Sort in
theorem Try.slices_Sort_int (blk off cap : Nat) (zs : List Int) (w : World) (hH : Holds (Value.int .i64) w blk off zs.toArray) (hblk : blk < w.heap.size) (hsz : zs.length < 4611686018427387904) :
 Calls Try.prog 87 #[.slice (some ⟨blk, off, none⟩) zs.length cap] w fun e w' => e = .returned (.tuple #[]) ∧ ∃ n os, w' = grow (putRow (Value.int .i64) (Sort.ahead w n) blk off (zs.mergeSort fun x y => decide (x ≤ y)).toArray) os := AnyG.slices_Sort_int Try.laysSort blk off cap zs w hH hblk hsz
theorem Try.slices_Sort_int_none (p : Option Addr) (cap : Nat) (w : World) :
 Calls Try.prog 87 #[.slice p 0 cap] w fun e w' => e = .returned (.tuple #[]) ∧ w' = w := AnyG.slices_Sort_int_none Try.laysSort p cap w
end Go.Proofs
