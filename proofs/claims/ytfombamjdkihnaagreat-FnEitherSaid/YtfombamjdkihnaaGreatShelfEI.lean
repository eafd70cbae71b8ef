/- The contracts of the shelf at this seat, laid by the kit's tools. -/
import Derived.Ground.SlgnProg
import Derived.Shelf.SlGeneric
import Derived.Shelf.SortG.Plain
import Derived.Shelf.SortG.SortNone
import Derived.Shelf.SlicesG.CompactI
import Derived.Shelf.Small.Bits
import Derived.Shelf.Strconv.Itoa0
import Derived.Ground.SlsfProg
import Derived.Shelf.SlSortCmp.Insertion
import Derived.Shelf.SlSortCmp.SiftDown1
import Derived.Shelf.SlSortCmp.HeapSort1
import Derived.Shelf.SlSortCmp.Insertion1
import Derived.Shelf.SlSortCmp.Median1
import Derived.Shelf.SlSortCmp.Pivot1
import Derived.Shelf.SlSortCmp.ReverseRange1
import Derived.Shelf.SlSortCmp.PartialInsertion1
import Derived.Shelf.SlSortCmp.PartitionEqual1
import Derived.Shelf.SlSortCmp.Partition1
import Derived.Shelf.SlSortCmp.Pdq1
import Derived.Shelf.SlSortCmp.Whole1
import Derived.Shelf.SlSortCmp.NoneTotal
import Derived.Test.YtfombamjdkihnaaGreatProg
namespace Go.Proofs
open Go.Shelf
open Tryz
theorem Tryz.qk {α : Type} {o : Option α} {a b : α} (h : o = some a) (e : a = b := by kernel_rfl) : o = some b := h.trans (congrArg some e)
def Tryz.laysSlF6_f143_ren : Go.Shelf.Ren := ⟨fun | 6 => 143 | 15 => 106 | 14 => 191 | 28 => 168 | 29 => 169 | 20 => 211 | 21 => 212 | 22 => 213 | 23 => 214 | 24 => 215 | 25 => 216 | 26 => 217 | 27 => 218 | 46 => 226 | 47 => 196 | 48 => 197 | 49 => 227 | 50 => 228 | 57 => 230 | n => n, fun | 22 => 32 | 24 => 31 | 25 => 174 | 3 => 3 | 39 => 83 | 0 => 0 | 53 => 192 | 55 => 26 | 4 => 4 | 46 => 185 | 45 => 184 | 50 => 89 | 5 => 5 | 9 => 9 | 66 => 210 | 70 => 214 | 76 => 230 | 77 => 231 | n => n, fun | n => n⟩
theorem Tryz.laysSlF6_f143 : Go.Proofs.SlLaysF.n6 Tryz.prog Tryz.laysSlF6_f143_ren := ⟨by kernel_rfl, ⟨f143.name, by decide, qk func143⟩, ⟨f191.name, by decide, qk func191⟩, qk func106, ⟨f211.name, by decide, qk func211⟩, ⟨f212.name, by decide, qk func212⟩, ⟨f213.name, by decide, qk func213⟩, ⟨f214.name, by decide, qk func214⟩, ⟨f215.name, by decide, qk func215⟩, ⟨f216.name, by decide, qk func216⟩, ⟨f217.name, by decide, qk func217⟩, ⟨f218.name, by decide, qk func218⟩, qk func168, qk func169, ⟨f226.name, by decide, qk func226⟩, qk func196, qk func197, ⟨f227.name, by decide, qk func227⟩, ⟨f228.name, by decide, qk func228⟩, ⟨f230.name, by decide, qk func230⟩, underlying0, isAgg0, sizeOf0, zeroValue0, underlying3, isAgg3, sizeOf3, zeroValue3, underlying4, isAgg4, sizeOf4, zeroValue4, underlying5, isAgg5, sizeOf5, zeroValue5, underlying9, isAgg9, sizeOf9, zeroValue9, underlying32, isAgg32, sizeOf32, zeroValue32, isAgg31, sizeOf31, underlying174, isAgg174, sizeOf174, zeroValue174, underlying83, isAgg83, sizeOf83, zeroValue83, underlying184, isAgg184, sizeOf184, zeroValue184, underlying185, isAgg185, sizeOf185, zeroValue185, underlying89, isAgg89, sizeOf89, zeroValue89, underlying192, isAgg192, sizeOf192, zeroValue192, underlying26, isAgg26, sizeOf26, zeroValue26, underlying210, isAgg210, sizeOf210, zeroValue210, underlying214, isAgg214, sizeOf214, zeroValue214, underlying230, isAgg230, sizeOf230, zeroValue230, underlying231, isAgg231, sizeOf231, zeroValue231⟩
open Go.RowKit Go.Lib Go.Sort in
theorem Tryz.slices_SortFunc {α : Type} [Inhabited α] (enc : α → Value) (h1 : OneCell enc) (cf : α → α → Int) (hO : SWO (ltOf cf)) (g : Nat) (cb : Array Value) (blk off cap : Nat) (d : Array α) (w : World) (eg : ∀ args w, (callFunc g args).run Tryz.prog w = .ok (.enter g args) w) (hcmp : CmpLays1 Tryz.prog g cb enc cf blk off d.size w) (hH : Holds enc w blk off d) (hblk : blk < w.heap.size) (hsz : d.size < 4611686018427387904) :
 Calls Tryz.prog 143 #[.slice (some ⟨blk, off, none⟩) d.size cap, .func (.func g) #[] cb] w fun e w' =>
  e = .returned (.tuple #[]) ∧ ∃ d' n os, PermIn 0 d.size d d' ∧ SortedIn (ltOf cf) 0 d.size d' ∧ w' = sortWorld enc w blk off n d' os := Any.slices_SortFunc Tryz.laysSlF6_f143 enc h1 cf hO g cb blk off cap d w eg hcmp hH hblk hsz
def Tryz.laysSlF06_f143_ren : Go.Shelf.Ren := ⟨fun | 6 => 143 | 15 => 106 | 14 => 191 | 28 => 168 | 29 => 169 | 20 => 211 | 21 => 212 | 22 => 213 | 23 => 214 | 24 => 215 | 25 => 216 | 26 => 217 | 27 => 218 | 46 => 226 | 47 => 196 | 48 => 197 | 49 => 227 | 50 => 228 | 57 => 230 | n => n, fun | 22 => 32 | 24 => 31 | 25 => 174 | 3 => 3 | 39 => 83 | 0 => 0 | 53 => 192 | 55 => 26 | 4 => 4 | 46 => 185 | 45 => 184 | 50 => 89 | 5 => 5 | 9 => 9 | 66 => 210 | 70 => 214 | 76 => 230 | 77 => 231 | n => n, fun | n => n⟩
theorem Tryz.laysSlF06_f143 : Go.Proofs.SlLaysF0.n6 Tryz.prog Tryz.laysSlF06_f143_ren := ⟨by kernel_rfl, ⟨f143.name, by decide, qk func143⟩, ⟨f191.name, by decide, qk func191⟩, qk func106, ⟨f211.name, by decide, qk func211⟩, ⟨f212.name, by decide, qk func212⟩, ⟨f213.name, by decide, qk func213⟩, ⟨f214.name, by decide, qk func214⟩, ⟨f215.name, by decide, qk func215⟩, ⟨f216.name, by decide, qk func216⟩, ⟨f217.name, by decide, qk func217⟩, ⟨f218.name, by decide, qk func218⟩, qk func168, qk func169, ⟨f226.name, by decide, qk func226⟩, qk func196, qk func197, ⟨f227.name, by decide, qk func227⟩, ⟨f228.name, by decide, qk func228⟩, ⟨f230.name, by decide, qk func230⟩, underlying0, isAgg0, sizeOf0, zeroValue0, underlying3, isAgg3, sizeOf3, zeroValue3, underlying4, isAgg4, sizeOf4, zeroValue4, underlying5, isAgg5, sizeOf5, zeroValue5, underlying9, isAgg9, sizeOf9, zeroValue9, underlying32, isAgg32, sizeOf32, zeroValue32, underlying174, isAgg174, sizeOf174, zeroValue174, underlying83, isAgg83, sizeOf83, zeroValue83, underlying184, isAgg184, sizeOf184, zeroValue184, underlying185, isAgg185, sizeOf185, zeroValue185, underlying89, isAgg89, sizeOf89, zeroValue89, underlying192, isAgg192, sizeOf192, zeroValue192, underlying26, isAgg26, sizeOf26, zeroValue26, underlying210, isAgg210, sizeOf210, zeroValue210, underlying214, isAgg214, sizeOf214, zeroValue214, underlying230, isAgg230, sizeOf230, zeroValue230, underlying231, isAgg231, sizeOf231, zeroValue231⟩
open Go.RowKit Go.Lib Go.Sort in
theorem Tryz.slices_SortFunc_none {α : Type} [Inhabited α] (p : Option Addr) (cap : Nat) (fv : Value) (w : World) :
 Calls Tryz.prog 143 #[.slice p 0 cap, fv] w fun e w' => e = .returned (.tuple #[]) ∧ w' = w := AnyF.slices_SortFunc_none Tryz.laysSlF06_f143 p cap fv w
def Tryz.laysSort_ren : Go.Shelf.Ren := ⟨fun | 53 => 57 | 64 => 106 | 63 => 105 | 78 => 168 | 79 => 169 | 70 => 159 | 71 => 160 | 72 => 161 | 73 => 162 | 74 => 163 | 75 => 164 | 59 => 165 | 76 => 166 | 77 => 167 | 88 => 195 | 89 => 196 | 90 => 197 | 91 => 198 | 92 => 199 | 68 => 200 | 96 => 219 | n => n, fun | 22 => 31 | 23 => 2 | 3 => 3 | 51 => 83 | 0 => 0 | 67 => 192 | 69 => 26 | 4 => 4 | 61 => 185 | 60 => 184 | 44 => 89 | 5 => 5 | 9 => 9 | 75 => 210 | 79 => 214 | 83 => 230 | 84 => 231 | n => n, fun | n => n⟩
theorem Tryz.laysSort : Go.Proofs.SlLaysN.n53 Tryz.prog Tryz.laysSort_ren := ⟨by kernel_rfl, ⟨f57.name, by decide, qk func57⟩, ⟨f165.name, by decide, qk func165⟩, ⟨f105.name, by decide, qk func105⟩, qk func106, ⟨f200.name, by decide, qk func200⟩, ⟨f159.name, by decide, qk func159⟩, ⟨f160.name, by decide, qk func160⟩, ⟨f161.name, by decide, qk func161⟩, ⟨f162.name, by decide, qk func162⟩, ⟨f163.name, by decide, qk func163⟩, ⟨f164.name, by decide, qk func164⟩, ⟨f166.name, by decide, qk func166⟩, ⟨f167.name, by decide, qk func167⟩, qk func168, qk func169, ⟨f195.name, by decide, qk func195⟩, qk func196, qk func197, ⟨f198.name, by decide, qk func198⟩, ⟨f199.name, by decide, qk func199⟩, ⟨f219.name, by decide, qk func219⟩, underlying0, isAgg0, sizeOf0, zeroValue0, underlying3, isAgg3, sizeOf3, zeroValue3, underlying4, isAgg4, sizeOf4, zeroValue4, underlying5, isAgg5, sizeOf5, zeroValue5, underlying9, isAgg9, sizeOf9, zeroValue9, underlying31, isAgg31, sizeOf31, zeroValue31, underlying2, isAgg2, sizeOf2, zeroValue2, underlying89, isAgg89, sizeOf89, zeroValue89, underlying83, isAgg83, sizeOf83, zeroValue83, underlying184, isAgg184, sizeOf184, zeroValue184, underlying185, isAgg185, sizeOf185, zeroValue185, underlying192, isAgg192, sizeOf192, zeroValue192, underlying26, isAgg26, sizeOf26, zeroValue26, underlying210, isAgg210, sizeOf210, zeroValue210, underlying214, isAgg214, sizeOf214, zeroValue214, underlying230, isAgg230, sizeOf230, zeroValue230, underlying231, isAgg231, sizeOf231, zeroValue231⟩
open Go.Sort in
theorem Tryz.slices_Sort_int (blk off cap : Nat) (zs : List Int) (w : World) (hH : Holds (Value.int .i64) w blk off zs.toArray) (hblk : blk < w.heap.size) (hsz : zs.length < 4611686018427387904) :
 Calls Tryz.prog 57 #[.slice (some ⟨blk, off, none⟩) zs.length cap] w fun e w' => e = .returned (.tuple #[]) ∧ ∃ n os, w' = grow (putRow (Value.int .i64) (Sort.ahead w n) blk off (zs.mergeSort fun x y => decide (x ≤ y)).toArray) os := AnyG.slices_Sort_int Tryz.laysSort blk off cap zs w hH hblk hsz
theorem Tryz.slices_Sort_int_none (p : Option Addr) (cap : Nat) (w : World) :
 Calls Tryz.prog 57 #[.slice p 0 cap] w fun e w' => e = .returned (.tuple #[]) ∧ w' = w := AnyG.slices_Sort_int_none Tryz.laysSort p cap w
def Tryz.laysCompact_ren : Go.Shelf.Ren := ⟨fun | 43 => 58 | n => n, fun | 22 => 31 | 23 => 2 | 3 => 3 | 4 => 4 | 0 => 0 | n => n, fun | n => n⟩
theorem Tryz.laysCompact : Go.Proofs.SlLaysN.n43 Tryz.prog Tryz.laysCompact_ren := ⟨by kernel_rfl, ⟨f58.name, by decide, qk func58⟩, underlying0, isAgg0, sizeOf0, zeroValue0, underlying3, isAgg3, sizeOf3, zeroValue3, underlying4, isAgg4, sizeOf4, zeroValue4, underlying31, isAgg31, sizeOf31, zeroValue31, underlying2, isAgg2, sizeOf2, zeroValue2, by kernel_rfl⟩
open Go.Sort in
theorem Tryz.slices_Compact_int (blk off cap : Nat) (zs : List Int) (w : World) (hH : Holds (Value.int .i64) w blk off zs.toArray) (hsz : zs.length ≤ 9223372036854775807) (hcap : zs.length ≤ cap) :
 Calls Tryz.prog 58 #[.slice (some ⟨blk, off, none⟩) zs.length cap] w fun e w' => e = .returned (.slice (some ⟨blk, off, none⟩) (Lib.compact zs).length cap) ∧ ∃ q, w' = putRow (Value.int .i64) (Sort.ahead w q) blk off (Lib.compact zs ++ List.replicate (zs.length - (Lib.compact zs).length) 0).toArray := AnyG.slices_Compact_int Tryz.laysCompact blk off cap zs w hH hsz hcap
end Go.Proofs
