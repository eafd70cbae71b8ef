/- The contracts of the shelf at this seat, laid by the kit's tools. -/
import Derived.Ground.SlgnProg
import Derived.Shelf.SlGeneric
import Derived.Shelf.SortG.Plain
import Derived.Shelf.SortG.SortNone
import Derived.Shelf.SlicesG.CompactI
import Derived.Shelf.Strings.Builder1
import Derived.Shelf.Strings.Builder2
import Derived.Shelf.Strings.OnBuilder
import Derived.Shelf.Small.Bits
import Derived.Shelf.Utf8.RuneCount
import Derived.Shelf.Strconv.Itoa0
import Derived.Shelf.Strconv.Itoa1
import Derived.Shelf.LaysM
import Derived.Shelf.Strconv.Itoa2
import Derived.Shelf.Strconv.Itoa3
import Derived.Shelf.Strconv.Itoa4
import Derived.Shelf.Strings.Search1
import Derived.Shelf.Strings.Search2
import Derived.Shelf.Strings.Search3
import Derived.Shelf.Strings.Count
import Derived.Shelf.Strings.Shaped
import Derived.Shelf.Strings.Prefix
import Derived.Shelf.Strings.Split
import Derived.Shelf.Strings.Replace
import Derived.Shelf.Strings.SplitShaped
import Derived.Shelf.Unicode.Decode
import Derived.Shelf.Strings.RuneCount
import Derived.Shelf.Strings.Explode
import Derived.Shelf.Unicode.DecodeSlow
import Derived.Shelf.Unicode.DecodeAny
import Derived.Ground.SlsfProg
import Derived.Shelf.SlSortCmp.Insertion
import Derived.Shelf.SlSortCmp.SiftDown1
import Derived.Shelf.SlSortCmp.HeapSort1
import Derived.Shelf.SlSortCmp.Insertion1
import Derived.Shelf.SlSortCmp.Median1
import Derived.Shelf.SlSortCmp.Pivot1
import Derived.Shelf.SlSortCmp.ReverseRange1
import Derived.Shelf.SlSortCmp.PartialInsertion1
import Derived.Shelf.SlSortCmp.PartitionEqual1
import Derived.Shelf.SlSortCmp.Partition1
import Derived.Shelf.SlSortCmp.Pdq1
import Derived.Shelf.SlSortCmp.Whole1
import Derived.Shelf.SlSortCmp.NoneTotal
import Derived.Test.YtldlmopdhmaceaaGreatDoorProg
namespace Go.Proofs
set_option maxRecDepth 100000
open Go.Shelf
open Tryz
theorem Tryz.qk {α : Type} {o : Option α} {a b : α} (h : o = some a) (e : a = b := by kernel_rfl) : o = some b := h.trans (congrArg some e)
def Tryz.lays156_ren : Go.Shelf.Ren := ⟨fun | 156 => 121 | 165 => 186 | 166 => 187 | 169 => 188 | 240 => 231 | 241 => 232 | 276 => 265 | 277 => 266 | n => n, fun | 31 => 33 | 9 => 9 | 3 => 3 | 4 => 4 | 0 => 0 | 20 => 20 | 72 => 202 | 76 => 206 | 70 => 200 | 37 => 22 | 75 => 205 | 127 => 251 | 164 => 287 | 5 => 5 | 80 => 97 | n => n, fun | n => n⟩
theorem Tryz.lays156 : Go.Proofs.Lays.n156 Tryz.prog Tryz.lays156_ren := ⟨by kernel_rfl, qk func121, qk func186, qk func187, qk func188, qk func231, qk func232, qk func265, qk func266, underlying0, isAgg0, sizeOf0, zeroValue0, underlying3, isAgg3, sizeOf3, zeroValue3, underlying4, isAgg4, sizeOf4, zeroValue4, underlying9, isAgg9, sizeOf9, zeroValue9, underlying20, isAgg20, sizeOf20, zeroValue20, underlying33, isAgg33, sizeOf33, zeroValue33, underlying22, isAgg22, sizeOf22, zeroValue22, underlying200, isAgg200, sizeOf200, zeroValue200, underlying202, isAgg202, sizeOf202, zeroValue202, underlying205, isAgg205, sizeOf205, zeroValue205, underlying206, isAgg206, sizeOf206, zeroValue206, underlying251, isAgg251, sizeOf251, zeroValue251, underlying287, isAgg287, sizeOf287, zeroValue287⟩
theorem Tryz.Builder_Extra_156 : Builder.Extra Tryz.prog Tryz.lays156_ren := ⟨⟨by kernel_rfl, by kernel_rfl⟩, underlying5, isAgg5, sizeOf5, zeroValue5, by kernel_rfl, by kernel_rfl, by kernel_rfl, by decide⟩
open Go.RowKit in
theorem Tryz.strings_Join_none (a : Option Addr) (c : Nat) (sep : ByteArray) (w : World) :
 Calls Tryz.prog 121 #[.slice a 0 c, .string sep] w fun e w' => e = .returned (.string ⟨#[]⟩) ∧ w' = w := Any.strings_Join_none Tryz.lays156 Tryz.Builder_Extra_156 a c sep w
open Go.RowKit in
theorem Tryz.strings_Join (bk o c : Nat) (xs : List ByteArray) (sep : ByteArray) (w : World) (hcells : ∀ (j : Nat) x, xs[j]? = some x → w.cell? ⟨bk, o + j, none⟩ = some (.string x)) (hbk : bk < w.heap.size) (hN : xs.length ≤ 140737488355328) (hcap : xs.length ≤ c) (hlen : (Lib.join (xs.map (·.data.toList)) sep.data.toList).length ≤ 140737488355328) :
 Calls Tryz.prog 121 #[.slice (some ⟨bk, o, none⟩) xs.length c, .string sep] w fun e w' => e = .returned (.string ⟨(Lib.join (xs.map (·.data.toList)) sep.data.toList).toArray⟩) ∧ Below w.heap.size w w' := Any.strings_Join Tryz.lays156 Tryz.Builder_Extra_156 bk o c xs sep w hcells hbk hN hcap hlen
def Tryz.laysM173_ren : Go.Shelf.Ren := ⟨fun | 173 => 104 | 246 => 168 | 283 => 220 | 284 => 221 | 285 => 222 | 286 => 223 | 129 => 249 | 317 => 248 | 318 => 250 | 319 => 251 | 320 => 252 | 337 => 285 | 338 => 286 | n => n, fun | 2 => 2 | 3 => 3 | 9 => 9 | 4 => 4 | 171 => 240 | 0 => 0 | 53 => 26 | 37 => 22 | 5 => 5 | 173 => 243 | 212 => 273 | 51 => 236 | 20 => 20 | 213 => 274 | 46 => 64 | 232 => 329 | 233 => 330 | n => n, fun | 17 => 5 | 18 => 6 | 19 => 7 | n => n⟩
theorem Tryz.laysM173 : Go.Proofs.LaysM.n173 Tryz.prog Tryz.laysM173_ren := { mixed := by kernel_rfl, f129 := qk func249, f173 := qk func104, f246 := qk func168, f283 := qk func220, f284 := qk func221, f285 := qk func222, f286 := qk func223, f317 := qk func248, f318 := qk func250, f319 := qk func251, f320 := qk func252, f337 := qk func285, f338 := qk func286, t0 := underlying0, a0 := isAgg0, z0 := sizeOf0, v0 := zeroValue0, t2 := underlying2, a2 := isAgg2, z2 := sizeOf2, v2 := zeroValue2, t3 := underlying3, a3 := isAgg3, z3 := sizeOf3, v3 := zeroValue3, t4 := underlying4, a4 := isAgg4, z4 := sizeOf4, v4 := zeroValue4, t5 := underlying5, a5 := isAgg5, z5 := sizeOf5, v5 := zeroValue5, t9 := underlying9, a9 := isAgg9, z9 := sizeOf9, v9 := zeroValue9, t20 := underlying20, a20 := isAgg20, z20 := sizeOf20, v20 := zeroValue20, t37 := underlying22, a37 := isAgg22, z37 := sizeOf22, v37 := zeroValue22, t46 := underlying64, a46 := isAgg64, z46 := sizeOf64, v46 := zeroValue64, t51 := underlying236, a51 := isAgg236, z51 := sizeOf236, v51 := zeroValue236, t53 := underlying26, a53 := isAgg26, z53 := sizeOf26, v53 := zeroValue26, t171 := underlying240, a171 := isAgg240, z171 := sizeOf240, v171 := zeroValue240, t173 := underlying243, a173 := isAgg243, z173 := sizeOf243, v173 := zeroValue243, t212 := underlying273, a212 := isAgg273, z212 := sizeOf273, v212 := zeroValue273, t213 := underlying274, a213 := isAgg274, z213 := sizeOf274, t232 := underlying329, a232 := isAgg329, z232 := sizeOf329, v232 := zeroValue329, t233 := underlying330, a233 := isAgg330, z233 := sizeOf330, v233 := zeroValue330, g17 := by kernel_rfl, g18 := by kernel_rfl, g19 := by kernel_rfl, i0 := by kernel_rfl, i2 := by kernel_rfl, i3 := by kernel_rfl, i4 := by kernel_rfl, i5 := by kernel_rfl, i9 := by kernel_rfl, i20 := by kernel_rfl, i37 := by kernel_rfl, i46 := by kernel_rfl, i51 := by kernel_rfl, i53 := by kernel_rfl, i171 := by kernel_rfl, i173 := by kernel_rfl, i212 := by kernel_rfl, i232 := by kernel_rfl, i233 := by kernel_rfl, m17 := by kernel_rfl, m18 := by kernel_rfl, m19 := by kernel_rfl }
open Go.RowKit Go.Sort Go.Lib in
theorem Tryz.strconv_FormatInt_10 (n : Int) (h0 : -9223372036854775808 ≤ n) (h1 : n ≤ 9223372036854775807) (w : World) (htab : Lib.TabIs Tryz.prog w "internal/strconv.uint64pow10" .u64 Lib.pow10Tab) :
 Calls Tryz.prog 104 #[.int .i64 n, .int .i64 10] w fun e w' => e = .returned (.string ⟨(Lib.itoa n).toArray⟩) ∧ ∃ k os, w' = grow (w.drewN k) os := Any.strconv_FormatInt_10 Tryz.laysM173 n h0 h1 w htab
def Tryz.lays101_ren : Go.Shelf.Ren := ⟨fun | 101 => 32 | 208 => 53 | 206 => 101 | n => n, fun | 9 => 9 | 4 => 4 | 3 => 3 | n => n, fun | n => n⟩
theorem Tryz.lays101 : Go.Proofs.Lays.n101 Tryz.prog Tryz.lays101_ren := ⟨by kernel_rfl, qk func32, qk func101, qk func53, underlying3, isAgg3, sizeOf3, zeroValue3, underlying4, isAgg4, sizeOf4, zeroValue4, underlying9, isAgg9, sizeOf9, zeroValue9⟩
open Go.RowKit Go.Lib in
theorem Tryz.strings_TrimPrefix (s p : ByteArray) (w : World) :
 Calls Tryz.prog 32 #[.string s, .string p] w fun e w' => e = .returned (.string ⟨(Lib.trimPrefix s.data.toList p.data.toList).toArray⟩) ∧ w' = w := Any.strings_TrimPrefix Tryz.lays101 s p w
def Tryz.lays102_ren : Go.Shelf.Ren := ⟨fun | 102 => 19 | 209 => 31 | 207 => 52 | n => n, fun | 9 => 9 | 4 => 4 | 3 => 3 | n => n, fun | n => n⟩
theorem Tryz.lays102 : Go.Proofs.Lays.n102 Tryz.prog Tryz.lays102_ren := ⟨by kernel_rfl, qk func19, qk func52, qk func31, underlying3, isAgg3, sizeOf3, zeroValue3, underlying4, isAgg4, sizeOf4, zeroValue4, underlying9, isAgg9, sizeOf9, zeroValue9⟩
open Go.RowKit Go.Lib in
theorem Tryz.strings_TrimSuffix (s p : ByteArray) (w : World) (hs : s.size ≤ 9223372036854775807) :
 Calls Tryz.prog 19 #[.string s, .string p] w fun e w' => e = .returned (.string ⟨(Lib.trimSuffix s.data.toList p.data.toList).toArray⟩) ∧ w' = w := Any.strings_TrimSuffix Tryz.lays102 s p w hs
def Tryz.lays146_ren : Go.Shelf.Ren := ⟨fun | 146 => 18 | 221 => 30 | 268 => 49 | 138 => 50 | 143 => 51 | 195 => 97 | 197 => 98 | 218 => 99 | 219 => 100 | 260 => 163 | 217 => 164 | 225 => 165 | 224 => 166 | 267 => 167 | 266 => 218 | 314 => 219 | n => n, fun | 9 => 9 | 31 => 33 | 3 => 3 | 4 => 4 | 0 => 0 | 105 => 133 | 21 => 21 | 5 => 5 | 46 => 64 | 119 => 232 | 139 => 235 | 138 => 234 | 146 => 237 | 51 => 236 | n => n, fun | 1 => 2 | 3 => 3 | 4 => 4 | n => n⟩
theorem Tryz.lays146 : Go.Proofs.Lays.n146 Tryz.prog Tryz.lays146_ren := ⟨by kernel_rfl, qk func50, qk func51, qk func18, qk func97, qk func98, qk func164, qk func99, qk func100, qk func30, qk func166, qk func165, qk func163, qk func218, qk func167, qk func49, qk func219, underlying0, isAgg0, sizeOf0, zeroValue0, underlying3, isAgg3, sizeOf3, zeroValue3, underlying4, isAgg4, sizeOf4, zeroValue4, underlying5, isAgg5, sizeOf5, zeroValue5, underlying9, isAgg9, sizeOf9, zeroValue9, underlying21, isAgg21, sizeOf21, zeroValue21, underlying33, isAgg33, sizeOf33, zeroValue33, underlying64, isAgg64, sizeOf64, zeroValue64, underlying236, isAgg236, sizeOf236, zeroValue236, underlying133, isAgg133, sizeOf133, zeroValue133, underlying232, isAgg232, sizeOf232, underlying234, isAgg234, sizeOf234, zeroValue234, underlying235, isAgg235, sizeOf235, zeroValue235, underlying237, isAgg237, sizeOf237, zeroValue237, by kernel_rfl, by kernel_rfl, by kernel_rfl⟩
open Go.RowKit Go.Lib in
theorem Tryz.strings_Split (s sep : ByteArray) (m : Int) (w : World) (hs : s.size < 4294967281) (hm : w.cell? ⟨2, 0, none⟩ = some (.int .i64 m)) (h1 : 1 ≤ sep.size) :
 Calls Tryz.prog 18 #[.string s, .string sep] w fun e w' =>
  e = .returned (.slice (some ⟨w.heap.size, 0, none⟩) (Lib.countB s sep + 1) (Lib.countB s sep + 1)) ∧ w' = w.alloc (.cells ((Lib.splitB sep 0 (Lib.countB s sep) s).map Value.string).toArray 9) := Any.strings_Split Tryz.lays146 (by kernel_rfl) s sep m w hs hm h1
def Tryz.lays155_ren : Go.Shelf.Ren := ⟨fun | 155 => 65 | 154 => 123 | 138 => 50 | 165 => 186 | 143 => 51 | 166 => 187 | 197 => 98 | 169 => 188 | 195 => 97 | 218 => 99 | 240 => 231 | 241 => 232 | 219 => 100 | 260 => 163 | 276 => 265 | 277 => 266 | 217 => 164 | 225 => 165 | 224 => 166 | 267 => 167 | 266 => 218 | 314 => 219 | n => n, fun | 9 => 9 | 3 => 3 | 4 => 4 | 72 => 202 | 0 => 0 | 76 => 206 | 105 => 133 | 21 => 21 | 5 => 5 | 70 => 200 | 20 => 20 | 37 => 22 | 75 => 205 | 127 => 251 | 164 => 287 | 46 => 64 | 119 => 232 | 139 => 235 | 138 => 234 | 146 => 237 | 51 => 236 | 80 => 97 | n => n, fun | 1 => 2 | 3 => 3 | 4 => 4 | n => n⟩
theorem Tryz.lays155 : Go.Proofs.Lays.n155 Tryz.prog Tryz.lays155_ren := ⟨by kernel_rfl, qk func50, qk func51, qk func123, qk func65, qk func186, qk func187, qk func188, qk func97, qk func98, qk func164, qk func99, qk func100, qk func166, qk func165, qk func231, qk func232, qk func163, qk func218, qk func167, qk func265, qk func266, qk func219, underlying0, isAgg0, sizeOf0, zeroValue0, underlying3, isAgg3, sizeOf3, zeroValue3, underlying4, isAgg4, sizeOf4, zeroValue4, underlying5, isAgg5, sizeOf5, zeroValue5, underlying9, isAgg9, sizeOf9, zeroValue9, underlying20, isAgg20, sizeOf20, zeroValue20, underlying21, isAgg21, sizeOf21, zeroValue21, underlying22, isAgg22, sizeOf22, zeroValue22, underlying64, isAgg64, sizeOf64, zeroValue64, underlying236, isAgg236, sizeOf236, zeroValue236, underlying200, isAgg200, sizeOf200, zeroValue200, underlying202, isAgg202, sizeOf202, zeroValue202, underlying205, isAgg205, sizeOf205, zeroValue205, underlying206, isAgg206, sizeOf206, zeroValue206, underlying133, isAgg133, sizeOf133, zeroValue133, underlying232, isAgg232, sizeOf232, underlying251, isAgg251, sizeOf251, zeroValue251, underlying234, isAgg234, sizeOf234, zeroValue234, underlying235, isAgg235, sizeOf235, zeroValue235, underlying237, isAgg237, sizeOf237, zeroValue237, underlying287, isAgg287, sizeOf287, zeroValue287, by kernel_rfl, by kernel_rfl, by kernel_rfl⟩
theorem Tryz.Builder_Extra_155 : Builder.Extra Tryz.prog Tryz.lays155_ren := ⟨⟨by kernel_rfl, by kernel_rfl⟩, underlying5, isAgg5, sizeOf5, zeroValue5, by kernel_rfl, by kernel_rfl, by kernel_rfl, by decide⟩
open Go.RowKit Go.Lib in
theorem Tryz.strings_ReplaceAll (s old new : ByteArray) (m : Int) (w : World) (hs : s.size < 4294967281) (hm : w.cell? ⟨2, 0, none⟩ = some (.int .i64 m)) (h1 : 1 ≤ old.size) (hlen : s.size + Lib.countB s old * new.size ≤ 140737488355328) :
 Calls Tryz.prog 65 #[.string s, .string old, .string new] w fun e w' =>
  e = .returned (.string ⟨(Lib.replaceAll s.data.toList old.data.toList new.data.toList).toArray⟩) ∧ Below w.heap.size w w' := Any.strings_ReplaceAll Tryz.lays155 Tryz.Builder_Extra_155 s old new m w hs hm h1 hlen
def Tryz.laysSlF6_f270_ren : Go.Shelf.Ren := ⟨fun | 6 => 270 | 15 => 227 | 14 => 292 | 28 => 261 | 29 => 249 | 20 => 308 | 21 => 309 | 22 => 310 | 23 => 311 | 24 => 312 | 25 => 313 | 26 => 314 | 27 => 315 | 46 => 318 | 47 => 288 | 48 => 289 | 49 => 319 | 50 => 320 | 57 => 322 | n => n, fun | 22 => 51 | 24 => 30 | 25 => 293 | 3 => 3 | 39 => 64 | 0 => 0 | 53 => 236 | 55 => 26 | 4 => 4 | 46 => 278 | 45 => 277 | 50 => 215 | 5 => 5 | 9 => 9 | 66 => 311 | 70 => 315 | 76 => 331 | 77 => 332 | n => n, fun | n => n⟩
theorem Tryz.laysSlF6_f270 : Go.Proofs.SlLaysF.n6 Tryz.prog Tryz.laysSlF6_f270_ren := ⟨by kernel_rfl, ⟨f270.name, by decide, qk func270⟩, ⟨f292.name, by decide, qk func292⟩, qk func227, ⟨f308.name, by decide, qk func308⟩, ⟨f309.name, by decide, qk func309⟩, ⟨f310.name, by decide, qk func310⟩, ⟨f311.name, by decide, qk func311⟩, ⟨f312.name, by decide, qk func312⟩, ⟨f313.name, by decide, qk func313⟩, ⟨f314.name, by decide, qk func314⟩, ⟨f315.name, by decide, qk func315⟩, qk func261, qk func249, ⟨f318.name, by decide, qk func318⟩, qk func288, qk func289, ⟨f319.name, by decide, qk func319⟩, ⟨f320.name, by decide, qk func320⟩, ⟨f322.name, by decide, qk func322⟩, underlying0, isAgg0, sizeOf0, zeroValue0, underlying3, isAgg3, sizeOf3, zeroValue3, underlying4, isAgg4, sizeOf4, zeroValue4, underlying5, isAgg5, sizeOf5, zeroValue5, underlying9, isAgg9, sizeOf9, zeroValue9, underlying51, isAgg51, sizeOf51, zeroValue51, isAgg30, sizeOf30, underlying293, isAgg293, sizeOf293, zeroValue293, underlying64, isAgg64, sizeOf64, zeroValue64, underlying277, isAgg277, sizeOf277, zeroValue277, underlying278, isAgg278, sizeOf278, zeroValue278, underlying215, isAgg215, sizeOf215, zeroValue215, underlying236, isAgg236, sizeOf236, zeroValue236, underlying26, isAgg26, sizeOf26, zeroValue26, underlying311, isAgg311, sizeOf311, zeroValue311, underlying315, isAgg315, sizeOf315, zeroValue315, underlying331, isAgg331, sizeOf331, zeroValue331, underlying332, isAgg332, sizeOf332, zeroValue332⟩
open Go.RowKit Go.Lib Go.Sort in
theorem Tryz.slices_SortFunc {α : Type} [Inhabited α] (enc : α → Value) (h1 : OneCell enc) (cf : α → α → Int) (hO : SWO (ltOf cf)) (g : Nat) (cb : Array Value) (blk off cap : Nat) (d : Array α) (w : World) (eg : ∀ args w, (callFunc g args).run Tryz.prog w = .ok (.enter g args) w) (hcmp : CmpLays1 Tryz.prog g cb enc cf blk off d.size w) (hH : Holds enc w blk off d) (hblk : blk < w.heap.size) (hsz : d.size < 4611686018427387904) :
 Calls Tryz.prog 270 #[.slice (some ⟨blk, off, none⟩) d.size cap, .func (.func g) #[] cb] w fun e w' =>
  e = .returned (.tuple #[]) ∧ ∃ d' n os, PermIn 0 d.size d d' ∧ SortedIn (ltOf cf) 0 d.size d' ∧ w' = sortWorld enc w blk off n d' os := Any.slices_SortFunc Tryz.laysSlF6_f270 enc h1 cf hO g cb blk off cap d w eg hcmp hH hblk hsz
def Tryz.laysSlF06_f270_ren : Go.Shelf.Ren := ⟨fun | 6 => 270 | 15 => 227 | 14 => 292 | 28 => 261 | 29 => 249 | 20 => 308 | 21 => 309 | 22 => 310 | 23 => 311 | 24 => 312 | 25 => 313 | 26 => 314 | 27 => 315 | 46 => 318 | 47 => 288 | 48 => 289 | 49 => 319 | 50 => 320 | 57 => 322 | n => n, fun | 22 => 51 | 24 => 30 | 25 => 293 | 3 => 3 | 39 => 64 | 0 => 0 | 53 => 236 | 55 => 26 | 4 => 4 | 46 => 278 | 45 => 277 | 50 => 215 | 5 => 5 | 9 => 9 | 66 => 311 | 70 => 315 | 76 => 331 | 77 => 332 | n => n, fun | n => n⟩
theorem Tryz.laysSlF06_f270 : Go.Proofs.SlLaysF0.n6 Tryz.prog Tryz.laysSlF06_f270_ren := ⟨by kernel_rfl, ⟨f270.name, by decide, qk func270⟩, ⟨f292.name, by decide, qk func292⟩, qk func227, ⟨f308.name, by decide, qk func308⟩, ⟨f309.name, by decide, qk func309⟩, ⟨f310.name, by decide, qk func310⟩, ⟨f311.name, by decide, qk func311⟩, ⟨f312.name, by decide, qk func312⟩, ⟨f313.name, by decide, qk func313⟩, ⟨f314.name, by decide, qk func314⟩, ⟨f315.name, by decide, qk func315⟩, qk func261, qk func249, ⟨f318.name, by decide, qk func318⟩, qk func288, qk func289, ⟨f319.name, by decide, qk func319⟩, ⟨f320.name, by decide, qk func320⟩, ⟨f322.name, by decide, qk func322⟩, underlying0, isAgg0, sizeOf0, zeroValue0, underlying3, isAgg3, sizeOf3, zeroValue3, underlying4, isAgg4, sizeOf4, zeroValue4, underlying5, isAgg5, sizeOf5, zeroValue5, underlying9, isAgg9, sizeOf9, zeroValue9, underlying51, isAgg51, sizeOf51, zeroValue51, underlying293, isAgg293, sizeOf293, zeroValue293, underlying64, isAgg64, sizeOf64, zeroValue64, underlying277, isAgg277, sizeOf277, zeroValue277, underlying278, isAgg278, sizeOf278, zeroValue278, underlying215, isAgg215, sizeOf215, zeroValue215, underlying236, isAgg236, sizeOf236, zeroValue236, underlying26, isAgg26, sizeOf26, zeroValue26, underlying311, isAgg311, sizeOf311, zeroValue311, underlying315, isAgg315, sizeOf315, zeroValue315, underlying331, isAgg331, sizeOf331, zeroValue331, underlying332, isAgg332, sizeOf332, zeroValue332⟩
open Go.RowKit Go.Lib Go.Sort in
theorem Tryz.slices_SortFunc_none {α : Type} [Inhabited α] (p : Option Addr) (cap : Nat) (fv : Value) (w : World) :
 Calls Tryz.prog 270 #[.slice p 0 cap, fv] w fun e w' => e = .returned (.tuple #[]) ∧ w' = w := AnyF.slices_SortFunc_none Tryz.laysSlF06_f270 p cap fv w
def Tryz.laysSort_ren : Go.Shelf.Ren := ⟨fun | 53 => 176 | 64 => 227 | 63 => 226 | 78 => 261 | 79 => 249 | 70 => 253 | 71 => 254 | 72 => 255 | 73 => 256 | 74 => 257 | 75 => 258 | 59 => 244 | 76 => 259 | 77 => 260 | 88 => 287 | 89 => 288 | 90 => 289 | 91 => 290 | 92 => 291 | 68 => 284 | 96 => 307 | n => n, fun | 22 => 30 | 23 => 2 | 3 => 3 | 51 => 64 | 0 => 0 | 67 => 236 | 69 => 26 | 4 => 4 | 61 => 278 | 60 => 277 | 44 => 215 | 5 => 5 | 9 => 9 | 75 => 311 | 79 => 315 | 83 => 331 | 84 => 332 | n => n, fun | n => n⟩
theorem Tryz.laysSort : Go.Proofs.SlLaysN.n53 Tryz.prog Tryz.laysSort_ren := ⟨by kernel_rfl, ⟨f176.name, by decide, qk func176⟩, ⟨f244.name, by decide, qk func244⟩, ⟨f226.name, by decide, qk func226⟩, qk func227, ⟨f284.name, by decide, qk func284⟩, ⟨f253.name, by decide, qk func253⟩, ⟨f254.name, by decide, qk func254⟩, ⟨f255.name, by decide, qk func255⟩, ⟨f256.name, by decide, qk func256⟩, ⟨f257.name, by decide, qk func257⟩, ⟨f258.name, by decide, qk func258⟩, ⟨f259.name, by decide, qk func259⟩, ⟨f260.name, by decide, qk func260⟩, qk func261, qk func249, ⟨f287.name, by decide, qk func287⟩, qk func288, qk func289, ⟨f290.name, by decide, qk func290⟩, ⟨f291.name, by decide, qk func291⟩, ⟨f307.name, by decide, qk func307⟩, underlying0, isAgg0, sizeOf0, zeroValue0, underlying3, isAgg3, sizeOf3, zeroValue3, underlying4, isAgg4, sizeOf4, zeroValue4, underlying5, isAgg5, sizeOf5, zeroValue5, underlying9, isAgg9, sizeOf9, zeroValue9, underlying30, isAgg30, sizeOf30, zeroValue30, underlying2, isAgg2, sizeOf2, zeroValue2, underlying215, isAgg215, sizeOf215, zeroValue215, underlying64, isAgg64, sizeOf64, zeroValue64, underlying277, isAgg277, sizeOf277, zeroValue277, underlying278, isAgg278, sizeOf278, zeroValue278, underlying236, isAgg236, sizeOf236, zeroValue236, underlying26, isAgg26, sizeOf26, zeroValue26, underlying311, isAgg311, sizeOf311, zeroValue311, underlying315, isAgg315, sizeOf315, zeroValue315, underlying331, isAgg331, sizeOf331, zeroValue331, underlying332, isAgg332, sizeOf332, zeroValue332⟩
open Go.Sort in
theorem Tryz.slices_Sort_int (blk off cap : Nat) (zs : List Int) (w : World) (hH : Holds (Value.int .i64) w blk off zs.toArray) (hblk : blk < w.heap.size) (hsz : zs.length < 4611686018427387904) :
 Calls Tryz.prog 176 #[.slice (some ⟨blk, off, none⟩) zs.length cap] w fun e w' => e = .returned (.tuple #[]) ∧ ∃ n os, w' = grow (putRow (Value.int .i64) (Sort.ahead w n) blk off (zs.mergeSort fun x y => decide (x ≤ y)).toArray) os := AnyG.slices_Sort_int Tryz.laysSort blk off cap zs w hH hblk hsz
theorem Tryz.slices_Sort_int_none (p : Option Addr) (cap : Nat) (w : World) :
 Calls Tryz.prog 176 #[.slice p 0 cap] w fun e w' => e = .returned (.tuple #[]) ∧ w' = w := AnyG.slices_Sort_int_none Tryz.laysSort p cap w
def Tryz.laysCompact_ren : Go.Shelf.Ren := ⟨fun | 43 => 177 | n => n, fun | 22 => 30 | 23 => 2 | 3 => 3 | 4 => 4 | 0 => 0 | n => n, fun | n => n⟩
theorem Tryz.laysCompact : Go.Proofs.SlLaysN.n43 Tryz.prog Tryz.laysCompact_ren := ⟨by kernel_rfl, ⟨f177.name, by decide, qk func177⟩, underlying0, isAgg0, sizeOf0, zeroValue0, underlying3, isAgg3, sizeOf3, zeroValue3, underlying4, isAgg4, sizeOf4, zeroValue4, underlying30, isAgg30, sizeOf30, zeroValue30, underlying2, isAgg2, sizeOf2, zeroValue2, by kernel_rfl⟩
open Go.Sort in
theorem Tryz.slices_Compact_int (blk off cap : Nat) (zs : List Int) (w : World) (hH : Holds (Value.int .i64) w blk off zs.toArray) (hsz : zs.length ≤ 9223372036854775807) (hcap : zs.length ≤ cap) :
 Calls Tryz.prog 177 #[.slice (some ⟨blk, off, none⟩) zs.length cap] w fun e w' => e = .returned (.slice (some ⟨blk, off, none⟩) (Lib.compact zs).length cap) ∧ ∃ q, w' = putRow (Value.int .i64) (Sort.ahead w q) blk off (Lib.compact zs ++ List.replicate (zs.length - (Lib.compact zs).length) 0).toArray := AnyG.slices_Compact_int Tryz.laysCompact blk off cap zs w hH hsz hcap
end Go.Proofs
