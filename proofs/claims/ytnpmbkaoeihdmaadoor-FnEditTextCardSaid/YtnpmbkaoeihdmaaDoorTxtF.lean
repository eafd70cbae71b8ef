/- Texts as lists of bytes. -/
import Derived.Test.YtnpmbkaoeihdmaaDoorSimF
import Derived.Test.YtnpmbkaoeihdmaaDoorText
set_option linter.unusedVariables false
set_option linter.unusedSimpArgs false
namespace Go.Proofs.YtnpmbkaoeihdmaaDoor
open Go Go.Wk Go.Proofs

def ofL (l : List UInt8) : ByteArray := ⟨l.toArray⟩
theorem ofL_data (l : List UInt8) : (ofL l).data.toList = l := rfl
theorem ofL_size (l : List UInt8) : (ofL l).size = l.length := rfl
theorem ofL_self (s : ByteArray) : ofL s.data.toList = s := by cases s; rfl
theorem size_len (s : ByteArray) : s.size = s.data.toList.length := by cases s; rfl
theorem ofL_app (a b : List UInt8) : ofL a ++ ofL b = ofL (a ++ b) := by
  apply ByteArray.ext
  show (ofL a ++ ofL b).data = (a ++ b).toArray
  rw [ByteArray.data_append]
  show a.toArray ++ b.toArray = _
  simp
theorem catB_ofL {a b : List UInt8} (h : a.length + b.length ≤ 9223372036854775807) : catB (ofL a) (ofL b) = some (ofL (a ++ b)) := by
  unfold catB
  rw [ofL_size, ofL_size, if_pos h, ofL_app]
theorem eqB_ofL (a b : List UInt8) : eqB (ofL a) (ofL b) = decide (a = b) := rfl
theorem bytesB_ofL (l : List UInt8) : bytesB (ofL l) = l.map fun b => (b.toNat : Int) := rfl
theorem strB_bytes (l : List UInt8) : strB (l.map fun b => (b.toNat : Int)) = ofL l := by
  unfold strB ofL
  rw [List.map_map]
  congr 2
  conv => rhs; rw [← List.map_id l]
  apply List.map_congr_left
  intro x _
  simp
theorem joinB_ofL {xs : List (List UInt8)} {sep : List UInt8} (h1 : xs.length ≤ 100000000000000) (h2 : (Lib.join xs sep).length ≤ 100000000000000) : joinB (xs.map ofL) (ofL sep) = some (ofL (Lib.join xs sep)) := by
  have e : (xs.map ofL).map (fun s => s.data.toList) = xs := by
    rw [List.map_map]
    conv => rhs; rw [← List.map_id xs]
    apply List.map_congr_left
    intro x _; rfl
  unfold joinB
  rw [e, ofL_data, if_pos ⟨by rw [List.length_map]; omega, by omega⟩]; rfl
theorem join_snoc (sep x : List UInt8) : ∀ xs : List (List UInt8), Lib.join (xs ++ [x]) sep = if xs = [] then x else Lib.join xs sep ++ sep ++ x
  | [] => by simp [Lib.join_one]
  | y :: r => by
    rw [List.cons_append, Lib.join_cons, Lib.join_cons, if_neg (by simp)]
    simp [Lib.joinTail, List.append_assoc]
theorem dec_small {u : Nat} (h : u < 10) : Lib.decDigits u = [UInt8.ofNat (48 + u)] := by rw [Lib.decDigits, dif_pos h]
theorem dec_big {u : Nat} (h : ¬ u < 10) : Lib.decDigits u = Lib.decDigits (u / 10) ++ [UInt8.ofNat (48 + u % 10)] := by rw [Lib.decDigits, dif_neg h]
theorem dec_len : ∀ u : Nat, (Lib.decDigits u).length ≤ u + 1 := fun u => by
  induction u using Nat.strongRecOn with
  | _ u ih =>
    by_cases h : u < 10
    · rw [dec_small h]; simp
    · rw [dec_big h, List.length_append]
      have := ih (u / 10) (by omega)
      simp only [List.length_cons, List.length_nil]
      omega
theorem itoa_nat (u : Nat) : Lib.itoa (u : Int) = Lib.decDigits u := by
  unfold Lib.itoa
  rw [if_neg (by omega), Int.toNat_natCast]
end Go.Proofs.YtnpmbkaoeihdmaaDoor
