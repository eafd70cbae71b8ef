/- The functions on data. By program. -/
import Derived.Test.YtcmamhmpoinmnaaTypesFF
import Derived.Test.YtcmamhmpoinmnaaCmpFF
set_option linter.unusedVariables false
set_option linter.unusedSimpArgs false
namespace Go.Proofs.Ytcmamhmpoinmnaa
open Go Go.Wk Go.Proofs
set_option maxRecDepth 100000
set_option maxHeartbeats 1000000
def l_big (p0 : (List Int)) : Option (Bool) :=
 some (decide (4096 < (p0.length : Int)) : Bool)
def s_l1New_b0 (p0 : (List Int)) (v4 : Int) (s1 : Int) : Option (l1Cur ⊕ ((Int) ⊕ (Int))) :=
 Option.bind (idx p0 v4) fun x18 =>
 some (.inr (.inr ((IntKind.i64.wrap (BitVec.toNat (BitVec.ofInt (IntKind.bits IntKind.i64) (IntKind.i64.wrap ((IntKind.i64.wrap ((IntKind.i64.wrap (s1 * 313)) + (IntKind.i64.wrap x18))) + 11)) &&& BitVec.ofInt (IntKind.bits IntKind.i64) 1073741823))) : Int)))
def s_l1New (p0 : (List Int)) : Option (l1Cur) :=
 Option.bind (cntM (s_l1New_b0 p0) p0.length 0 ((IntKind.i64.wrap (560017 + (p0.length : Int))) : Int)) fun q2 =>
 aft (fun r => some r) (fun s3 =>
  some ((⟨p0, 0, s3⟩ : l1Cur) : l1Cur)) q2
def s_l1Byte (p0 : l1Cur) : Option (Int × Int × Int) :=
 Option.bind (bif decide (p0.i < (p0.b.length : Int)) then
  Option.bind (idx p0.b p0.i) fun x44 =>
  some (((IntKind.i64.wrap (BitVec.toNat (BitVec.ofInt (IntKind.bits IntKind.i64) (IntKind.i64.wrap ((IntKind.i64.wrap (BitVec.toNat (BitVec.ofInt (IntKind.bits IntKind.i64) (IntKind.i64.wrap (BitVec.toNat (BitVec.ofInt (IntKind.bits IntKind.i64) (Int.fdiv (IntKind.i64.wrap ((IntKind.i64.wrap (p0.h * 6364136223846793005)) + 1442695040888963407)) (2 ^ (min (Int.toNat 33) (IntKind.bits IntKind.i64)))) ^^^ BitVec.ofInt (IntKind.bits IntKind.i64) (Int.fdiv (IntKind.i64.wrap ((IntKind.i64.wrap (p0.h * 6364136223846793005)) + 1442695040888963407)) (2 ^ (min (Int.toNat 45) (IntKind.bits IntKind.i64))))))) &&& BitVec.ofInt (IntKind.bits IntKind.i64) 255))) + (IntKind.i64.wrap x44))) &&& BitVec.ofInt (IntKind.bits IntKind.i64) 255))) : Int), ((IntKind.i64.wrap (p0.i + 1)) : Int))
 else
  some (((IntKind.i64.wrap (BitVec.toNat (BitVec.ofInt (IntKind.bits IntKind.i64) (IntKind.i64.wrap (BitVec.toNat (BitVec.ofInt (IntKind.bits IntKind.i64) (Int.fdiv (IntKind.i64.wrap ((IntKind.i64.wrap (p0.h * 6364136223846793005)) + 1442695040888963407)) (2 ^ (min (Int.toNat 33) (IntKind.bits IntKind.i64)))) ^^^ BitVec.ofInt (IntKind.bits IntKind.i64) (Int.fdiv (IntKind.i64.wrap ((IntKind.i64.wrap (p0.h * 6364136223846793005)) + 1442695040888963407)) (2 ^ (min (Int.toNat 45) (IntKind.bits IntKind.i64))))))) &&& BitVec.ofInt (IntKind.bits IntKind.i64) 255))) : Int), (p0.i : Int))) fun q1 =>
 some ((q1.1 : Int), (q1.2 : Int), ((IntKind.i64.wrap ((IntKind.i64.wrap (p0.h * 6364136223846793005)) + 1442695040888963407)) : Int))
def s_l1Below (p0 : l1Cur) (p1 : Int) : Option (Int × Int × Int) :=
 bif decide (p1 ≤ 0) then
  some ((0 : Int), (p0.i : Int), (p0.h : Int))
 else
  bif decide (p1 ≤ 256) then
   Option.bind (s_l1Byte p0) fun x14 =>
   Option.bind (nz p1) fun _z16 =>
   some (((Int.tmod x14.1 p1) : Int), (x14.2.1 : Int), (x14.2.2 : Int))
  else
   Option.bind (s_l1Byte p0) fun x18 =>
   Option.bind (s_l1Byte (⟨p0.b, x18.2.1, x18.2.2⟩ : l1Cur)) fun x20 =>
   Option.bind (s_l1Byte (⟨p0.b, x20.2.1, x20.2.2⟩ : l1Cur)) fun x22 =>
   Option.bind (s_l1Byte (⟨p0.b, x22.2.1, x22.2.2⟩ : l1Cur)) fun x24 =>
   Option.bind (nz p1) fun _z36 =>
   some (((Int.tmod (IntKind.i64.wrap ((IntKind.i64.wrap ((IntKind.i64.wrap ((IntKind.i64.wrap (x18.1 * 16777216)) + (IntKind.i64.wrap (x20.1 * 65536)))) + (IntKind.i64.wrap (x22.1 * 256)))) + x24.1)) p1) : Int), (x24.2.1 : Int), (x24.2.2 : Int))
def s_l1Copy (p0 : (List Int)) : Option ((List Int)) :=
 Option.bind (appS 8 ([] : List Int) p0) fun x5 =>
 some (x5 : (List Int))
def s_l1Into_b0 (p0 : (List Int)) (p1 : Int) (s1 : Int) : Option ((List Int) ⊕ ((Int) ⊕ (Int))) :=
 Option.bind (bif decide (s1 < (p0.length : Int)) then
 Option.bind (idx p0 s1) fun x14 =>
 some (decide (x14 < p1))
 else
 some false) fun p18 =>
 bif p18 then
  some (.inr (.inr ((IntKind.i64.wrap (s1 + 1)) : Int)))
 else
  some (.inr (.inl (s1 : Int)))
def s_l1Into (p0 : (List Int)) (p1 : Int) : Option ((List Int)) :=
 Option.bind (whileM (s_l1Into_b0 p0 p1) (2 ^ 64) (0 : Int)) fun q2 =>
 aft (fun r => some r) (fun s3 =>
  Option.bind (bif decide (s3 < (p0.length : Int)) then
  Option.bind (idx p0 s3) fun x28 =>
  some (x28 == p1)
  else
  some false) fun p32 =>
  bif p32 then
   some (p0 : (List Int))
  else
   Option.bind (subS p0 0 s3) fun x36 =>
   Option.bind (s_l1Copy x36) fun x37 =>
   Option.bind (appS 8 x37 ([p1] : List Int)) fun x40 =>
   Option.bind (subS p0 s3 (p0.length : Int)) fun x44 =>
   Option.bind (appS 8 x40 x44) fun x45 =>
   some (x45 : (List Int))) q2
def s_l1Once (p0 : l1Cur) (p1 : Int) : Option (Bool × Int × Int) :=
 Option.bind (s_l1Below p0 p1) fun x7 =>
 some (((x7.1 == 0) : Bool), (x7.2.1 : Int), (x7.2.2 : Int))
def s_l1From (p0 : l1Cur) (p1 : Int) (p2 : Int) : Option (Int × Int × Int) :=
 Option.bind (s_l1Below p0 (IntKind.i64.wrap ((IntKind.i64.wrap (p2 - p1)) + 1))) fun x13 =>
 some (((IntKind.i64.wrap (p1 + x13.1)) : Int), (x13.2.1 : Int), (x13.2.2 : Int))
def s_l1Odd (p0 : l1Cur) : Option (Int × Int × Int) :=
 Option.bind (s_l1Below p0 10) fun x5 =>
 Option.bind (idx ([(-1), 0, 1, 2147483648, (-2147483648), 1099511627776, 4611686018427387904, (-4611686018427387904), 9223372036854775807, (-9223372036854775808)] : List Int) x5.1) fun x6 =>
 some ((x6 : Int), (x5.2.1 : Int), (x5.2.2 : Int))
def s_l1Min (p0 : Int) (p1 : Int) : Option (Int) :=
 bif decide (p0 < p1) then
  some (p0 : Int)
 else
  some (p1 : Int)
def s_l1Num (p0 : l1Cur) (p1 : Int) : Option (Int × Int × Int) :=
 Option.bind (s_l1Once p0 10) fun x6 =>
 bif x6.1 then
  Option.bind (s_l1Odd (⟨p0.b, x6.2.1, x6.2.2⟩ : l1Cur)) fun x11 =>
  Option.bind (s_l1Below (⟨p0.b, x11.2.1, x11.2.2⟩ : l1Cur) 4) fun x14 =>
  Option.bind (idx ([(-1), p1, (IntKind.i64.wrap (p1 + 1)), x11.1] : List Int) x14.1) fun x15 =>
  some ((x15 : Int), (x14.2.1 : Int), (x14.2.2 : Int))
 else
  Option.bind (s_l1Once (⟨p0.b, x6.2.1, x6.2.2⟩ : l1Cur) 2) fun x18 =>
  bif x18.1 then
   Option.bind (s_l1Min p1 4) fun x21 =>
   Option.bind (s_l1Below (⟨p0.b, x18.2.1, x18.2.2⟩ : l1Cur) (IntKind.i64.wrap (x21 + 1))) fun x23 =>
   some ((x23.1 : Int), (x23.2.1 : Int), (x23.2.2 : Int))
  else
   Option.bind (s_l1Below (⟨p0.b, x18.2.1, x18.2.2⟩ : l1Cur) (IntKind.i64.wrap (p1 + 1))) fun x27 =>
   some ((x27.1 : Int), (x27.2.1 : Int), (x27.2.2 : Int))
def s_l1Into__own0_b0 (p0 : (List Int)) (p1 : Int) (s1 : Int) : Option ((List Int) ⊕ ((Int) ⊕ (Int))) :=
 Option.bind (bif decide (s1 < (p0.length : Int)) then
 Option.bind (idx p0 s1) fun x14 =>
 some (decide (x14 < p1))
 else
 some false) fun p18 =>
 bif p18 then
  some (.inr (.inr ((IntKind.i64.wrap (s1 + 1)) : Int)))
 else
  some (.inr (.inl (s1 : Int)))
def s_l1Into__own0 (p0 : (List Int)) (p1 : Int) : Option ((List Int)) :=
 Option.bind (whileM (s_l1Into__own0_b0 p0 p1) (2 ^ 64) (0 : Int)) fun q2 =>
 aft (fun r => some r) (fun s3 =>
  Option.bind (bif decide (s3 < (p0.length : Int)) then
  Option.bind (idx p0 s3) fun x28 =>
  some (x28 == p1)
  else
  some false) fun p32 =>
  bif p32 then
   some (p0 : (List Int))
  else
   Option.bind (subS p0 0 s3) fun x36 =>
   Option.bind (s_l1Copy x36) fun x37 =>
   Option.bind (appS 8 x37 ([p1] : List Int)) fun x40 =>
   Option.bind (subS p0 s3 (p0.length : Int)) fun x44 =>
   Option.bind (appS 8 x40 x44) fun x45 =>
   some (x45 : (List Int))) q2
def s_l1Draw_b2 (p0 : l1Cur) (x9 : Int × Int × Int) (s4 : (List Int) × Int × Int × Int) : Option ((Arena × Int × Int) ⊕ (((List Int) × Int × Int × Int) ⊕ ((List Int) × Int × Int × Int))) :=
 bif decide (0 < s4.2.1) then
  Option.bind (s_l1Below (⟨p0.b, s4.2.2.1, s4.2.2.2⟩ : l1Cur) (IntKind.i64.wrap (1 + x9.1))) fun x28 =>
  Option.bind (s_l1Into__own0 s4.1 x28.1) fun x29 =>
  some (.inr (.inr ((x29 : (List Int)), ((IntKind.i64.wrap (s4.2.1 - 1)) : Int), (x28.2.1 : Int), (x28.2.2 : Int))))
 else
  some (.inr (.inl ((s4.1 : (List Int)), (s4.2.1 : Int), (s4.2.2.1 : Int), (s4.2.2.2 : Int))))
def s_l1Draw_b0 (p0 : l1Cur) (x9 : Int × Int × Int) (v5 : Int) (s1 : Int × Int × (List Int) × (List (List Int))) : Option ((Arena × Int × Int) ⊕ ((Int × Int × (List Int) × (List (List Int))) ⊕ (Int × Int × (List Int) × (List (List Int))))) :=
 Option.bind (s_l1Below (⟨p0.b, s1.1, s1.2.1⟩ : l1Cur) 3) fun x19 =>
 Option.bind (whileM (s_l1Draw_b2 p0 x9) (2 ^ 64) ((([] : List Int) : (List Int)), ((IntKind.i64.wrap (1 + x19.1)) : Int), (x19.2.1 : Int), (x19.2.2 : Int))) fun q5 =>
 aft (fun r => some (.inl r)) (fun s6 =>
  Option.bind (s_l1Below (⟨p0.b, s6.2.2.1, s6.2.2.2⟩ : l1Cur) 2) fun x33 =>
  Option.bind (appS 8 s1.2.2.1 ([x33.1] : List Int)) fun x35 =>
  Option.bind (appS 24 s1.2.2.2 ([s6.1] : List (List Int))) fun x41 =>
  some (.inr (.inr ((x33.2.1 : Int), (x33.2.2 : Int), (x35 : (List Int)), (x41 : (List (List Int))))))) q5
def s_l1Draw (p0 : l1Cur) : Option (Arena × Int × Int) :=
 Option.bind (s_l1Below p0 8) fun x9 =>
 Option.bind (rng (IntKind.i64.wrap (1 + x9.1))) fun _ =>
 Option.bind (cntM (s_l1Draw_b0 p0 x9) (Int.toNat ((IntKind.i64.wrap (1 + x9.1)) - 0)) 0 ((x9.2.1 : Int), (x9.2.2 : Int), (([] : List Int) : (List Int)), (([] : List (List Int)) : (List (List Int))))) fun q2 =>
 aft (fun r => some r) (fun s3 =>
  some (((⟨s3.2.2.1, s3.2.2.2⟩ : Arena) : Arena), (s3.1 : Int), (s3.2.1 : Int))) q2
def s_l1DrawAny_b1 (p0 : l1Cur) (s7 : Int × Int × Int × (List Int) × (List (List Int))) : Option ((Arena × Int × Int) ⊕ ((Int × Int × Int × (List Int) × (List (List Int))) ⊕ (Int × Int × Int × (List Int) × (List (List Int))))) :=
 Option.bind (s_l1Below (⟨p0.b, s7.2.1, s7.2.2.1⟩ : l1Cur) 2) fun x59 =>
 bif decide (s7.1 < (IntKind.i64.wrap (256 + x59.1))) then
  Option.bind (appS 8 s7.2.2.2.1 ([(Int.tmod s7.1 2)] : List Int)) fun x69 =>
  Option.bind (appS 24 s7.2.2.2.2 ([([(IntKind.i64.wrap (Int.tdiv s7.1 2))] : List Int)] : List (List Int))) fun x77 =>
  some (.inr (.inr (((IntKind.i64.wrap (s7.1 + 1)) : Int), (x59.2.1 : Int), (x59.2.2 : Int), (x69 : (List Int)), (x77 : (List (List Int))))))
 else
  some (.inr (.inl ((s7.1 : Int), (x59.2.1 : Int), (x59.2.2 : Int), (s7.2.2.2.1 : (List Int)), (s7.2.2.2.2 : (List (List Int))))))
def s_l1DrawAny (p0 : l1Cur) : Option (Arena × Int × Int) :=
 Option.bind (s_l1Draw p0) fun x7 =>
 Option.bind (s_l1Once (⟨p0.b, x7.2.1, x7.2.2⟩ : l1Cur) 6) fun x9 =>
 Option.bind (bif x9.1 then
  Option.bind (s_l1Below (⟨p0.b, x9.2.1, x9.2.2⟩ : l1Cur) (x7.1.Owner.length : Int)) fun x14 =>
  Option.bind (s_l1Below (⟨p0.b, x14.2.1, x14.2.2⟩ : l1Cur) 6) fun x16 =>
  Option.bind (bif (x16.1 == 0) then
   Option.bind (s_l1From (⟨p0.b, x16.2.1, x16.2.2⟩ : l1Cur) (-1) 2) fun x23 =>
   Option.bind (idx x7.1.Owner x14.1) fun x24 =>
   Option.bind (setI x7.1.Owner x14.1 x23.1) fun y27 =>
   some ((x23.2.1 : Int), (x23.2.2 : Int), (y27 : (List Int)), (x7.1.Next : (List (List Int))))
  else
   Option.bind (bif (x16.1 == 1) then
    Option.bind (idx x7.1.Next x14.1) fun x33 =>
    Option.bind (s_l1Num (⟨p0.b, x16.2.1, x16.2.2⟩ : l1Cur) 256) fun x36 =>
    Option.bind (appS 8 x33 ([x36.1] : List Int)) fun x38 =>
    Option.bind (idx x7.1.Next x14.1) fun x39 =>
    Option.bind (setI x7.1.Next x14.1 (x38 : (List Int))) fun y40 =>
    some ((x36.2.1 : Int), (x36.2.2 : Int), (x7.1.Owner : (List Int)), (y40 : (List (List Int))))
   else
    Option.bind (bif (x16.1 == 2) then
     Option.bind (idx x7.1.Next x14.1) fun x46 =>
     Option.bind (setI x7.1.Next x14.1 (([] : List Int) : (List Int))) fun y42 =>
     some ((x16.2.1 : Int), (x16.2.2 : Int), (x7.1.Owner : (List Int)), (y42 : (List (List Int))))
    else
     Option.bind (bif (x16.1 == 3) then
      Option.bind (appS 8 x7.1.Owner ([0] : List Int)) fun x52 =>
      some ((x16.2.1 : Int), (x16.2.2 : Int), (x52 : (List Int)), (x7.1.Next : (List (List Int))))
     else
      Option.bind (bif (x16.1 == 4) then
       Option.bind (whileM (s_l1DrawAny_b1 p0) (2 ^ 64) ((0 : Int), (x16.2.1 : Int), (x16.2.2 : Int), (([] : List Int) : (List Int)), (([] : List (List Int)) : (List (List Int))))) fun q8 =>
       aft (fun r => none) (fun s9 =>
        some ((s9.2.1 : Int), (s9.2.2.1 : Int), (s9.2.2.2.1 : (List Int)), (s9.2.2.2.2 : (List (List Int))))) q8
      else
       Option.bind (bif (x16.1 == 5) then
        Option.bind (mkS 8 17 (0 : Int)) fun x84 =>
        Option.bind (idx x7.1.Next x14.1) fun x85 =>
        Option.bind (setI x7.1.Next x14.1 (x84 : (List Int))) fun y49 =>
        some (y49 : (List (List Int)))
       else
        some (x7.1.Next : (List (List Int)))) fun q10 =>
       some ((x16.2.1 : Int), (x16.2.2 : Int), (x7.1.Owner : (List Int)), (q10 : (List (List Int))))) fun q6 =>
      some ((q6.1 : Int), (q6.2.1 : Int), (q6.2.2.1 : (List Int)), (q6.2.2.2 : (List (List Int))))) fun q5 =>
     some ((q5.1 : Int), (q5.2.1 : Int), (q5.2.2.1 : (List Int)), (q5.2.2.2 : (List (List Int))))) fun q4 =>
    some ((q4.1 : Int), (q4.2.1 : Int), (q4.2.2.1 : (List Int)), (q4.2.2.2 : (List (List Int))))) fun q3 =>
   some ((q3.1 : Int), (q3.2.1 : Int), (q3.2.2.1 : (List Int)), (q3.2.2.2 : (List (List Int))))) fun q2 =>
  some ((q2.1 : Int), (q2.2.1 : Int), (q2.2.2.1 : (List Int)), (q2.2.2.2 : (List (List Int))))
 else
  some ((x9.2.1 : Int), (x9.2.2 : Int), (x7.1.Owner : (List Int)), (x7.1.Next : (List (List Int))))) fun q1 =>
 some (((⟨q1.2.2.1, q1.2.2.2⟩ : Arena) : Arena), (q1.1 : Int), (q1.2.1 : Int))
def s_l24DrawSet_b0 (p0 : l1Cur) (v6 : Int) (s1 : (List Int) × Int × Int) : Option (((List Int) × Int × Int) ⊕ (((List Int) × Int × Int) ⊕ ((List Int) × Int × Int))) :=
 Option.bind (s_l1Once (⟨p0.b, s1.2.1, s1.2.2⟩ : l1Cur) 2) fun x14 =>
 Option.bind (bif x14.1 then
  Option.bind (appS 8 s1.1 ([v6] : List Int)) fun x18 =>
  some (x18 : (List Int))
 else
  some (s1.1 : (List Int))) fun q4 =>
 some (.inr (.inr ((q4 : (List Int)), (x14.2.1 : Int), (x14.2.2 : Int))))
def s_l24DrawSet (p0 : l1Cur) (p1 : Int) : Option ((List Int) × Int × Int) :=
 Option.bind (rng p1) fun _ =>
 Option.bind (cntM (s_l24DrawSet_b0 p0) (Int.toNat (p1 - 0)) 0 ((([] : List Int) : (List Int)), (p0.i : Int), (p0.h : Int))) fun q2 =>
 aft (fun r => some r) (fun s3 =>
  some ((s3.1 : (List Int)), (s3.2.1 : Int), (s3.2.2 : Int))) q2
def s_AllOf_b0 (p0 : Int) (s1 : (List Int) × Int) : Option ((List Int) ⊕ (((List Int) × Int) ⊕ ((List Int) × Int))) :=
 Option.bind (bif decide (s1.2 < p0) then
 some (decide (p0 ≤ 256))
 else
 some false) fun p12 =>
 bif p12 then
  Option.bind (appS 8 s1.1 ([s1.2] : List Int)) fun x18 =>
  some (.inr (.inr ((x18 : (List Int)), ((IntKind.i64.wrap (s1.2 + 1)) : Int))))
 else
  some (.inr (.inl ((s1.1 : (List Int)), (s1.2 : Int))))
def s_AllOf (p0 : Int) : Option ((List Int)) :=
 Option.bind (whileM (s_AllOf_b0 p0) (2 ^ 64) ((([] : List Int) : (List Int)), (0 : Int))) fun q2 =>
 aft (fun r => some r) (fun s3 =>
  some (s3.1 : (List Int))) q2
def s_l1DrawSet_b0 (p0 : l1Cur) (v6 : Int) (s1 : (List Int) × Int × Int) : Option (((List Int) × Int × Int) ⊕ (((List Int) × Int × Int) ⊕ ((List Int) × Int × Int))) :=
 Option.bind (s_l1Once (⟨p0.b, s1.2.1, s1.2.2⟩ : l1Cur) 2) fun x14 =>
 Option.bind (bif x14.1 then
  Option.bind (appS 8 s1.1 ([v6] : List Int)) fun x18 =>
  some (x18 : (List Int))
 else
  some (s1.1 : (List Int))) fun q4 =>
 some (.inr (.inr ((q4 : (List Int)), (x14.2.1 : Int), (x14.2.2 : Int))))
def s_l1DrawSet (p0 : l1Cur) (p1 : Int) : Option ((List Int) × Int × Int) :=
 Option.bind (rng p1) fun _ =>
 Option.bind (cntM (s_l1DrawSet_b0 p0) (Int.toNat (p1 - 0)) 0 ((([] : List Int) : (List Int)), (p0.i : Int), (p0.h : Int))) fun q2 =>
 aft (fun r => some r) (fun s3 =>
  Option.bind (s_l1Once (⟨p0.b, s3.2.1, s3.2.2⟩ : l1Cur) 12) fun x20 =>
  Option.bind (bif x20.1 then
   Option.bind (s_l1Num (⟨p0.b, x20.2.1, x20.2.2⟩ : l1Cur) p1) fun x24 =>
   Option.bind (appS 8 s3.1 ([x24.1] : List Int)) fun x26 =>
   some ((x26 : (List Int)), (x24.2.1 : Int), (x24.2.2 : Int))
  else
   some ((s3.1 : (List Int)), (x20.2.1 : Int), (x20.2.2 : Int))) fun q5 =>
  some ((q5.1 : (List Int)), (q5.2.1 : Int), (q5.2.2 : Int))) q2
def s_DrawFairIn_b0 (x11 : l1Cur) (x13 : Arena × Int × Int) (s1 : (List Pair) × Int × Int × Int) : Option (((List (List Int)) × (List Pair) × (List Int)) ⊕ (((List Pair) × Int × Int × Int) ⊕ ((List Pair) × Int × Int × Int))) :=
 bif decide (0 < s1.2.1) then
  Option.bind (s_l24DrawSet (⟨x11.b, s1.2.2.1, s1.2.2.2⟩ : l1Cur) (x13.1.Owner.length : Int)) fun x27 =>
  Option.bind (s_l24DrawSet (⟨x11.b, x27.2.1, x27.2.2⟩ : l1Cur) (x13.1.Owner.length : Int)) fun x30 =>
  Option.bind (appS 48 s1.1 ([(⟨x27.1, x30.1⟩ : Pair)] : List Pair)) fun x33 =>
  some (.inr (.inr ((x33 : (List Pair)), ((IntKind.i64.wrap (s1.2.1 - 1)) : Int), (x30.2.1 : Int), (x30.2.2 : Int))))
 else
  some (.inr (.inl ((s1.1 : (List Pair)), (s1.2.1 : Int), (s1.2.2.1 : Int), (s1.2.2.2 : Int))))
def s_DrawFairIn (p0 : (List Int)) : Option ((List (List Int)) × (List Pair) × (List Int)) :=
 Option.bind (s_l1New p0) fun x11 =>
 Option.bind (s_l1DrawAny x11) fun x13 =>
 Option.bind (s_l1Below (⟨x11.b, x13.2.1, x13.2.2⟩ : l1Cur) 3) fun x19 =>
 Option.bind (whileM (s_DrawFairIn_b0 x11 x13) (2 ^ 64) ((([] : List Pair) : (List Pair)), (x19.1 : Int), (x19.2.1 : Int), (x19.2.2 : Int))) fun q2 =>
 aft (fun r => some r) (fun s3 =>
  Option.bind (s_l1Once (⟨x11.b, s3.2.2.1, s3.2.2.2⟩ : l1Cur) 2) fun x35 =>
  bif x35.1 then
   Option.bind (s_AllOf (x13.1.Owner.length : Int)) fun x40 =>
   some ((x13.1.Next : (List (List Int))), (s3.1 : (List Pair)), (x40 : (List Int)))
  else
   Option.bind (s_l1DrawSet (⟨x11.b, x35.2.1, x35.2.2⟩ : l1Cur) (x13.1.Owner.length : Int)) fun x46 =>
   some ((x13.1.Next : (List (List Int))), (s3.1 : (List Pair)), (x46.1 : (List Int)))) q2
def i_isSet_b0 (p0 : (List Int)) (p1 : Int) (v9 : Int) (s1 : Unit) : Option (Bool ⊕ ((Unit) ⊕ (Unit))) :=
 Option.bind (idx p0 v9) fun x12 =>
 Option.bind (bif decide (x12 < 0) then
 some true
 else
 some (decide (p1 ≤ x12))) fun p20 =>
 Option.bind (bif p20 then
 some true
 else
 Option.bind (bif decide (0 < v9) then
 Option.bind (idx p0 (IntKind.i64.wrap (v9 - 1))) fun x29 =>
 some (decide (x12 ≤ x29))
 else
 some false) fun p32 =>
 some p32) fun p33 =>
 bif p33 then
  some (.inl (false : Bool))
 else
  some (.inr (.inr ()))
def i_isSet (p0 : (List Int)) (p1 : Int) : Option (Bool) :=
 Option.bind (cntM (i_isSet_b0 p0 p1) p0.length 0 ()) fun q2 =>
 aft (fun r => some r) (fun s3 =>
  some (true : Bool)) q2
def i_arePairs_b0 (p0 : (List Pair)) (p1 : Int) (v9 : Int) (s1 : Unit) : Option (Bool ⊕ ((Unit) ⊕ (Unit))) :=
 Option.bind (idx p0 v9) fun x11 =>
 Option.bind (i_isSet x11.Ask p1) fun x16 =>
 Option.bind (bif (!x16) then
 some true
 else
 Option.bind (i_isSet x11.Give p1) fun x22 =>
 some (!x22)) fun p24 =>
 bif p24 then
  some (.inl (false : Bool))
 else
  some (.inr (.inr ()))
def i_arePairs (p0 : (List Pair)) (p1 : Int) : Option (Bool) :=
 Option.bind (cntM (i_arePairs_b0 p0 p1) p0.length 0 ()) fun q2 =>
 aft (fun r => some r) (fun s3 =>
  some (decide ((p0.length : Int) ≤ 4) : Bool)) q2
def i_markAll_b0 (p1 : (List Int)) (v8 : Int) (s1 : (List Bool)) : Option ((List Bool) ⊕ (((List Bool)) ⊕ ((List Bool)))) :=
 Option.bind (idx p1 v8) fun x10 =>
 Option.bind (idx s1 x10) fun x14 =>
 Option.bind (setI s1 x10 true) fun y78 =>
 some (.inr (.inr (y78 : (List Bool))))
def i_markAll (p0 : (List Bool)) (p1 : (List Int)) : Option ((List Bool)) :=
 Option.bind (cntM (i_markAll_b0 p1) p1.length 0 (p0 : (List Bool))) fun q2 =>
 aft (fun r => some r) (fun s3 =>
  some (s3 : (List Bool))) q2
def i_loopsIn_2 (p0 : Int) (c0 : (List Int)) : Option ((List Int)) :=
 Option.bind (appS 8 c0 ([p0] : List Int)) fun x6 =>
 some (x6 : (List Int))
def i_loopsIn_1__i_loopsIn_2__i_loopsIn_1_b0 (rc : Int → (List (List Int)) → (List Int) → (List Bool) → (List Bool) → Option ((List Int) × (List Bool))) (p1 : (List (List Int))) (c1 : (List Bool)) (x16 : (List Int)) (v19 : Int) (s1 : (List Int) × (List Bool)) : Option (((List Int) × (List Bool)) ⊕ (((List Int) × (List Bool)) ⊕ ((List Int) × (List Bool)))) :=
 Option.bind (idx x16 v19) fun x21 =>
 Option.bind (idx c1 x21) fun x25 =>
 Option.bind (bif x25 then
 Option.bind (idx s1.2 x21) fun x30 =>
 some (!x30)
 else
 some false) fun p33 =>
 Option.bind (bif p33 then
  Option.bind (rc x21 p1 s1.1 s1.2 c1) fun x38 =>
  some ((x38.1 : (List Int)), (x38.2 : (List Bool)))
 else
  some ((s1.1 : (List Int)), (s1.2 : (List Bool)))) fun q4 =>
 some (.inr (.inr ((q4.1 : (List Int)), (q4.2 : (List Bool)))))
def i_loopsIn_1__i_loopsIn_2__i_loopsIn_1_s (rc : Int → (List (List Int)) → (List Int) → (List Bool) → (List Bool) → Option ((List Int) × (List Bool))) (p0 : Int) (p1 : (List (List Int))) (c2_0 : (List Int)) (c0 : (List Bool)) (c1 : (List Bool)) : Option ((List Int) × (List Bool)) :=
 Option.bind (idx c0 p0) fun x13 =>
 Option.bind (setI c0 p0 true) fun y86 =>
 Option.bind (idx p1 p0) fun x16 =>
 Option.bind (cntM (i_loopsIn_1__i_loopsIn_2__i_loopsIn_1_b0 rc p1 c1 x16) x16.length 0 ((c2_0 : (List Int)), (y86 : (List Bool)))) fun q2 =>
 aft (fun r => some r) (fun s3 =>
  Option.bind (i_loopsIn_2 p0 s3.1) fun x42 =>
  some ((x42 : (List Int)), (s3.2 : (List Bool)))) q2
def i_loopsIn_1__i_loopsIn_2__i_loopsIn_1 : Nat → Int → (List (List Int)) → (List Int) → (List Bool) → (List Bool) → Option ((List Int) × (List Bool))
 | 0 => fun _ _ _ _ _ => none
 | n + 1 => i_loopsIn_1__i_loopsIn_2__i_loopsIn_1_s (i_loopsIn_1__i_loopsIn_2__i_loopsIn_1 n)
def i_loopsIn_3 (p0 : Int) (c0 : (List Int)) : Option ((List Int)) :=
 Option.bind (appS 8 c0 ([p0] : List Int)) fun x6 =>
 some (x6 : (List Int))
def i_loopsIn_1__i_loopsIn_3__i_loopsIn_1_b0 (rc : Int → (List (List Int)) → (List Int) → (List Bool) → (List Bool) → Option ((List Int) × (List Bool))) (p1 : (List (List Int))) (c1 : (List Bool)) (x16 : (List Int)) (v19 : Int) (s1 : (List Int) × (List Bool)) : Option (((List Int) × (List Bool)) ⊕ (((List Int) × (List Bool)) ⊕ ((List Int) × (List Bool)))) :=
 Option.bind (idx x16 v19) fun x21 =>
 Option.bind (idx c1 x21) fun x25 =>
 Option.bind (bif x25 then
 Option.bind (idx s1.2 x21) fun x30 =>
 some (!x30)
 else
 some false) fun p33 =>
 Option.bind (bif p33 then
  Option.bind (rc x21 p1 s1.1 s1.2 c1) fun x38 =>
  some ((x38.1 : (List Int)), (x38.2 : (List Bool)))
 else
  some ((s1.1 : (List Int)), (s1.2 : (List Bool)))) fun q4 =>
 some (.inr (.inr ((q4.1 : (List Int)), (q4.2 : (List Bool)))))
def i_loopsIn_1__i_loopsIn_3__i_loopsIn_1_s (rc : Int → (List (List Int)) → (List Int) → (List Bool) → (List Bool) → Option ((List Int) × (List Bool))) (p0 : Int) (p1 : (List (List Int))) (c2_0 : (List Int)) (c0 : (List Bool)) (c1 : (List Bool)) : Option ((List Int) × (List Bool)) :=
 Option.bind (idx c0 p0) fun x13 =>
 Option.bind (setI c0 p0 true) fun y86 =>
 Option.bind (idx p1 p0) fun x16 =>
 Option.bind (cntM (i_loopsIn_1__i_loopsIn_3__i_loopsIn_1_b0 rc p1 c1 x16) x16.length 0 ((c2_0 : (List Int)), (y86 : (List Bool)))) fun q2 =>
 aft (fun r => some r) (fun s3 =>
  Option.bind (i_loopsIn_3 p0 s3.1) fun x42 =>
  some ((x42 : (List Int)), (s3.2 : (List Bool)))) q2
def i_loopsIn_1__i_loopsIn_3__i_loopsIn_1 : Nat → Int → (List (List Int)) → (List Int) → (List Bool) → (List Bool) → Option ((List Int) × (List Bool))
 | 0 => fun _ _ _ _ _ => none
 | n + 1 => i_loopsIn_1__i_loopsIn_3__i_loopsIn_1_s (i_loopsIn_1__i_loopsIn_3__i_loopsIn_1 n)
def slices_Sort_I_int64 (p0 : (List Int)) : Option (List Int) :=
 if 0 < p0.length ∧ p0.length < 4611686018427387904 then some (p0.mergeSort fun x y => decide (x ≤ y)) else if p0.length = 0 then some p0 else none
def slices_Index_I_int64_b0 (p0 : (List Int)) (p1 : Int) (v8 : Int) (s1 : Unit) : Option (Int ⊕ ((Unit) ⊕ (Unit))) :=
 Option.bind (idx p0 v8) fun x14 =>
 bif (p1 == x14) then
  some (.inl (v8 : Int))
 else
  some (.inr (.inr ()))
def slices_Index_I_int64 (p0 : (List Int)) (p1 : Int) : Option (Int) :=
 Option.bind (cntM (slices_Index_I_int64_b0 p0 p1) p0.length 0 ()) fun q2 =>
 aft (fun r => some r) (fun s3 =>
  some ((-1) : Int)) q2
def slices_Contains_I_int64 (p0 : (List Int)) (p1 : Int) : Option (Bool) :=
 Option.bind (slices_Index_I_int64 p0 p1) fun x7 =>
 some (decide (0 ≤ x7) : Bool)
def slices_SortFunc_I_I (p0 : (List (List Int))) : Option (List (List Int)) :=
 if p0.length < 4611686018427387904 ∧ (p0.all fun l => !l.isEmpty) = true then some (p0.mergeSort leI) else none
def i_loopsIn_b2 (p1 : (List Bool)) (v23 : Int) (x26 : (List Int)) (v30 : Int) (s4 : (List (List Int))) : Option ((List (List Int)) ⊕ (((List (List Int))) ⊕ ((List (List Int))))) :=
 Option.bind (idx x26 v30) fun x32 =>
 Option.bind (idx p1 v23) fun x36 =>
 Option.bind (bif x36 then
 Option.bind (idx p1 x32) fun x41 =>
 some x41
 else
 some false) fun p43 =>
 Option.bind (bif p43 then
  Option.bind (idx s4 x32) fun x48 =>
  Option.bind (appS 8 x48 ([v23] : List Int)) fun x52 =>
  Option.bind (idx s4 x32) fun x53 =>
  Option.bind (setI s4 x32 (x52 : (List Int))) fun y82 =>
  some (y82 : (List (List Int)))
 else
  some (s4 : (List (List Int)))) fun q7 =>
 some (.inr (.inr (q7 : (List (List Int)))))
def i_loopsIn_b0 (p0 : (List (List Int))) (p1 : (List Bool)) (v23 : Int) (s1 : (List (List Int))) : Option ((List (List Int)) ⊕ (((List (List Int))) ⊕ ((List (List Int))))) :=
 Option.bind (idx p0 v23) fun x26 =>
 Option.bind (cntM (i_loopsIn_b2 p1 v23 x26) x26.length 0 (s1 : (List (List Int)))) fun q5 =>
 aft (fun r => some (.inl r)) (fun s6 =>
  some (.inr (.inr (s6 : (List (List Int)))))) q5
def i_loopsIn_b4 (p0 : (List (List Int))) (p1 : (List Bool)) (v63 : Int) (s8 : (List Int) × (List Bool)) : Option ((List (List Int)) ⊕ (((List Int) × (List Bool)) ⊕ ((List Int) × (List Bool)))) :=
 Option.bind (idx p1 v63) fun x68 =>
 Option.bind (bif x68 then
 Option.bind (idx s8.2 v63) fun x73 =>
 some (!x73)
 else
 some false) fun p76 =>
 Option.bind (bif p76 then
  Option.bind (i_loopsIn_1__i_loopsIn_2__i_loopsIn_1 (2 ^ 64) v63 p0 s8.1 s8.2 p1) fun x81 =>
  some ((x81.1 : (List Int)), (x81.2 : (List Bool)))
 else
  some ((s8.1 : (List Int)), (s8.2 : (List Bool)))) fun q11 =>
 some (.inr (.inr ((q11.1 : (List Int)), (q11.2 : (List Bool)))))
def i_loopsIn_b6 (p0 : (List (List Int))) (p1 : (List Bool)) (s3 : (List (List Int))) (s10 : (List Int) × (List Bool)) (s12 : (List (List Int)) × Int × (List Bool)) : Option ((List (List Int)) ⊕ (((List (List Int)) × Int × (List Bool)) ⊕ ((List (List Int)) × Int × (List Bool)))) :=
 bif decide (0 ≤ s12.2.1) then
  Option.bind (idx s10.1 s12.2.1) fun x96 =>
  Option.bind (idx s12.2.2 x96) fun x100 =>
  bif x100 then
   some (.inr (.inr ((s12.1 : (List (List Int))), ((IntKind.i64.wrap (s12.2.1 - 1)) : Int), (s12.2.2 : (List Bool)))))
  else
   Option.bind (i_loopsIn_1__i_loopsIn_3__i_loopsIn_1 (2 ^ 64) x96 s3 ([] : List Int) s12.2.2 p1) fun x107 =>
   Option.bind (slices_Sort_I_int64 x107.1) fun x109 =>
   Option.bind (bif decide (1 < (x107.1.length : Int)) then
   some true
   else
   Option.bind (idx p0 x96) fun x116 =>
   Option.bind (slices_Contains_I_int64 x116 x96) fun x119 =>
   some x119) fun p120 =>
   Option.bind (bif p120 then
    Option.bind (appS 24 s12.1 ([x109] : List (List Int))) fun x124 =>
    some (x124 : (List (List Int)))
   else
    some (s12.1 : (List (List Int)))) fun q15 =>
   some (.inr (.inr ((q15 : (List (List Int))), ((IntKind.i64.wrap (s12.2.1 - 1)) : Int), (x107.2 : (List Bool)))))
 else
  some (.inr (.inl ((s12.1 : (List (List Int))), (s12.2.1 : Int), (s12.2.2 : (List Bool)))))
def i_loopsIn (p0 : (List (List Int))) (p1 : (List Bool)) : Option ((List (List Int))) :=
 Option.bind (mkS 24 (p0.length : Int) (([] : List Int) : (List Int))) fun x20 =>
 Option.bind (cntM (i_loopsIn_b0 p0 p1) p0.length 0 (x20 : (List (List Int)))) fun q2 =>
 aft (fun r => some r) (fun s3 =>
  Option.bind (mkS 1 (p0.length : Int) (false : Bool)) fun x58 =>
  Option.bind (cntM (i_loopsIn_b4 p0 p1) p0.length 0 ((([] : List Int) : (List Int)), (x58 : (List Bool)))) fun q9 =>
  aft (fun r => some r) (fun s10 =>
   Option.bind (mkS 1 (p0.length : Int) (false : Bool)) fun x85 =>
   Option.bind (whileM (i_loopsIn_b6 p0 p1 s3 s10) (2 ^ 64) ((([] : List (List Int)) : (List (List Int))), ((IntKind.i64.wrap ((s10.1.length : Int) - 1)) : Int), (x85 : (List Bool)))) fun q13 =>
   aft (fun r => some r) (fun s14 =>
    Option.bind (slices_SortFunc_I_I s14.1) fun x126 =>
    some (x126 : (List (List Int)))) q13) q9) q2
def cmp_isNaN_int64 (p0 : Int) : Option (Bool) :=
 some ((p0 != p0) : Bool)
def cmp_Less_int64 (p0 : Int) (p1 : Int) : Option (Bool) :=
 Option.bind (cmp_isNaN_int64 p0) fun x6 =>
 Option.bind (bif x6 then
 Option.bind (cmp_isNaN_int64 p1) fun x9 =>
 some (!x9)
 else
 some false) fun p11 =>
 Option.bind (bif p11 then
 some true
 else
 some (decide (p0 < p1))) fun p16 =>
 some (p16 : Bool)
def slices_isNaN_int64 (p0 : Int) : Option (Bool) :=
 some ((p0 != p0) : Bool)
def slices_BinarySearch_I_int64_b0 (p0 : (List Int)) (p1 : Int) (s1 : Int × Int) : Option ((Int × Bool) ⊕ ((Int × Int) ⊕ (Int × Int))) :=
 bif decide (s1.1 < s1.2) then
  Option.bind (idx p0 (IntKind.i64.wrap (Int.fdiv (IntKind.u64.wrap (IntKind.i64.wrap (s1.1 + s1.2))) (2 ^ (min (Int.toNat 1) (IntKind.bits IntKind.u64)))))) fun x24 =>
  Option.bind (cmp_Less_int64 x24 p1) fun x27 =>
  Option.bind (bif x27 then
   some (((IntKind.i64.wrap ((IntKind.i64.wrap (Int.fdiv (IntKind.u64.wrap (IntKind.i64.wrap (s1.1 + s1.2))) (2 ^ (min (Int.toNat 1) (IntKind.bits IntKind.u64))))) + 1)) : Int), (s1.2 : Int))
  else
   some ((s1.1 : Int), ((IntKind.i64.wrap (Int.fdiv (IntKind.u64.wrap (IntKind.i64.wrap (s1.1 + s1.2))) (2 ^ (min (Int.toNat 1) (IntKind.bits IntKind.u64))))) : Int))) fun q4 =>
  some (.inr (.inr ((q4.1 : Int), (q4.2 : Int))))
 else
  some (.inr (.inl ((s1.1 : Int), (s1.2 : Int))))
def slices_BinarySearch_I_int64 (p0 : (List Int)) (p1 : Int) : Option (Int × Bool) :=
 Option.bind (whileM (slices_BinarySearch_I_int64_b0 p0 p1) (2 ^ 64) ((0 : Int), ((p0.length : Int) : Int))) fun q2 =>
 aft (fun r => some r) (fun s3 =>
  Option.bind (bif decide (s3.1 < (p0.length : Int)) then
  Option.bind (idx p0 s3.1) fun x38 =>
  Option.bind (bif (x38 == p1) then
  some true
  else
  Option.bind (idx p0 s3.1) fun x45 =>
  Option.bind (slices_isNaN_int64 x45) fun x47 =>
  Option.bind (bif x47 then
  Option.bind (slices_isNaN_int64 p1) fun x50 =>
  some x50
  else
  some false) fun p51 =>
  some p51) fun p52 =>
  some p52
  else
  some false) fun p53 =>
  some ((s3.1 : Int), (p53 : Bool))) q2
def i_lessOf_b0 (p0 : (List Int)) (p1 : (List Int)) (v13 : Int) (s1 : (List Int)) : Option ((List Int) ⊕ (((List Int)) ⊕ ((List Int)))) :=
 Option.bind (idx p0 v13) fun x15 =>
 Option.bind (slices_BinarySearch_I_int64 p1 x15) fun x20 =>
 Option.bind (bif (!x20.2) then
  Option.bind (appS 8 s1 ([x15] : List Int)) fun x28 =>
  some (x28 : (List Int))
 else
  some (s1 : (List Int))) fun q4 =>
 some (.inr (.inr (q4 : (List Int))))
def i_lessOf (p0 : (List Int)) (p1 : (List Int)) : Option ((List Int)) :=
 Option.bind (cntM (i_lessOf_b0 p0 p1) p0.length 0 (([] : List Int) : (List Int))) fun q2 =>
 aft (fun r => some r) (fun s3 =>
  some (s3 : (List Int))) q2
def i_meets (p0 : (List Int)) (p1 : (List Int)) : Option (Bool) :=
 Option.bind (i_lessOf p0 p1) fun x7 =>
 some (decide ((x7.length : Int) < (p0.length : Int)) : Bool)
def i_brokenBy_b0 (p0 : (List Pair)) (p1 : (List Int)) (v11 : Int) (s1 : (List Int)) : Option ((List Int) ⊕ (((List Int)) ⊕ ((List Int)))) :=
 Option.bind (idx p0 v11) fun x14 =>
 Option.bind (i_meets p1 x14.Ask) fun x19 =>
 Option.bind (bif x19 then
 Option.bind (i_meets p1 x14.Give) fun x24 =>
 some (!x24)
 else
 some false) fun p26 =>
 Option.bind (bif p26 then
  Option.bind (appS 8 s1 ([v11] : List Int)) fun x30 =>
  some (x30 : (List Int))
 else
  some (s1 : (List Int))) fun q4 =>
 some (.inr (.inr (q4 : (List Int))))
def i_brokenBy (p0 : (List Pair)) (p1 : (List Int)) : Option ((List Int)) :=
 Option.bind (cntM (i_brokenBy_b0 p0 p1) p0.length 0 (([] : List Int) : (List Int))) fun q2 =>
 aft (fun r => some r) (fun s3 =>
  some (s3 : (List Int))) q2
def i_fairIn_b2 (p1 : (List Pair)) (x30 : (List Int)) (v32 : Int) (s4 : (List Int)) : Option (Bool ⊕ (((List Int)) ⊕ ((List Int)))) :=
 Option.bind (idx x30 v32) fun x34 =>
 Option.bind (idx p1 x34) fun x39 =>
 Option.bind (i_lessOf s4 x39.Ask) fun x42 =>
 some (.inr (.inr (x42 : (List Int))))
def i_fairIn_b0 (rc : (List (List Int)) → (List Pair) → (List Int) → Option (Bool)) (p0 : (List (List Int))) (p1 : (List Pair)) (x21 : (List (List Int))) (v23 : Int) (s1 : Unit) : Option (Bool ⊕ ((Unit) ⊕ (Unit))) :=
 Option.bind (idx x21 v23) fun x25 =>
 Option.bind (i_brokenBy p1 x25) fun x30 =>
 Option.bind (cntM (i_fairIn_b2 p1 x30) x30.length 0 (x25 : (List Int))) fun q5 =>
 aft (fun r => some (.inl r)) (fun s6 =>
  Option.bind (bif ((s6.length : Int) == (x25.length : Int)) then
  some true
  else
  Option.bind (rc p0 p1 s6) fun x53 =>
  some x53) fun p54 =>
  bif p54 then
   some (.inl (true : Bool))
  else
   some (.inr (.inr ()))) q5
def i_fairIn_s (rc : (List (List Int)) → (List Pair) → (List Int) → Option (Bool)) (p0 : (List (List Int))) (p1 : (List Pair)) (p2 : (List Int)) : Option (Bool) :=
 Option.bind (mkS 1 (p0.length : Int) (false : Bool)) fun x15 =>
 Option.bind (i_markAll x15 p2) fun x18 =>
 Option.bind (i_loopsIn p0 x18) fun x21 =>
 Option.bind (cntM (i_fairIn_b0 rc p0 p1 x21) x21.length 0 ()) fun q2 =>
 aft (fun r => some r) (fun s3 =>
  some (false : Bool)) q2
def i_fairIn : Nat → (List (List Int)) → (List Pair) → (List Int) → Option (Bool)
 | 0 => fun _ _ _ => none
 | n + 1 => i_fairIn_s (i_fairIn n)
def i_FairIn_b0 (p0 : (List (List Int))) (v28 : Int) (s1 : Unit) : Option (Bool ⊕ ((Unit) ⊕ (Unit))) :=
 Option.bind (idx p0 v28) fun x30 =>
 Option.bind (i_isSet x30 (p0.length : Int)) fun x34 =>
 bif (!x34) then
  some (.inl (false : Bool))
 else
  some (.inr (.inr ()))
def i_FairIn (p0 : (List (List Int))) (p1 : (List Pair)) (p2 : (List Int)) : Option (Bool) :=
 Option.bind (bif decide (256 < (p0.length : Int)) then
 some true
 else
 Option.bind (i_arePairs p1 (p0.length : Int)) fun x17 =>
 some (!x17)) fun p19 =>
 Option.bind (bif p19 then
 some true
 else
 Option.bind (i_isSet p2 (p0.length : Int)) fun x23 =>
 some (!x23)) fun p25 =>
 bif p25 then
  some (false : Bool)
 else
  Option.bind (cntM (i_FairIn_b0 p0) p0.length 0 ()) fun q2 =>
  aft (fun r => some r) (fun s3 =>
   Option.bind (i_fairIn (2 ^ 64) p0 p1 p2) fun x40 =>
   some (x40 : Bool)) q2
def s_l1In (p0 : Int) (p1 : Int) (p2 : Int) : Option (Bool) :=
 Option.bind (bif decide (p1 ≤ p0) then
 some (decide (p0 ≤ p2))
 else
 some false) fun p14 =>
 some (p14 : Bool)
def s_l1Rises_b0 (p0 : (List Int)) (p1 : Int) (v5 : Int) (s1 : Unit) : Option (Bool ⊕ ((Unit) ⊕ (Unit))) :=
 Option.bind (idx p0 v5) fun x14 =>
 Option.bind (s_l1In x14 0 (IntKind.i64.wrap (p1 - 1))) fun x18 =>
 Option.bind (bif (!x18) then
 some true
 else
 Option.bind (bif decide (0 < v5) then
 Option.bind (idx p0 v5) fun x26 =>
 Option.bind (idx p0 (IntKind.i64.wrap (v5 - 1))) fun x31 =>
 some (decide (x26 ≤ x31))
 else
 some false) fun p34 =>
 some p34) fun p35 =>
 bif p35 then
  some (.inl (false : Bool))
 else
  some (.inr (.inr ()))
def s_l1Rises (p0 : (List Int)) (p1 : Int) : Option (Bool) :=
 Option.bind (cntM (s_l1Rises_b0 p0 p1) p0.length 0 ()) fun q2 =>
 aft (fun r => some r) (fun s3 =>
  some (true : Bool)) q2
def s_l1Set (p0 : (List Int)) (p1 : Int) : Option (Bool) :=
 Option.bind (bif decide ((p0.length : Int) ≤ p1) then
 Option.bind (s_l1Rises p0 p1) fun x12 =>
 some x12
 else
 some false) fun p13 =>
 some (p13 : Bool)
def s_SetOk (p0 : (List Int)) (p1 : Int) : Option (Bool) :=
 Option.bind (s_l1In p1 0 256) fun x6 =>
 Option.bind (bif x6 then
 Option.bind (s_l1Set p0 p1) fun x10 =>
 some x10
 else
 some false) fun p11 =>
 some (p11 : Bool)
def s_PairsOk_b0 (p0 : (List Pair)) (p1 : Int) (v5 : Int) (s1 : Unit) : Option (Bool ⊕ ((Unit) ⊕ (Unit))) :=
 Option.bind (idx p0 v5) fun x22 =>
 Option.bind (s_SetOk x22.Ask p1) fun x26 =>
 Option.bind (bif (!x26) then
 some true
 else
 Option.bind (idx p0 v5) fun x31 =>
 Option.bind (s_SetOk x31.Give p1) fun x35 =>
 some (!x35)) fun p37 =>
 bif p37 then
  some (.inl (false : Bool))
 else
  some (.inr (.inr ()))
def s_PairsOk (p0 : (List Pair)) (p1 : Int) : Option (Bool) :=
 Option.bind (s_l1In p1 0 256) fun x7 =>
 Option.bind (bif (!x7) then
 some true
 else
 some (decide (4 < (p0.length : Int)))) fun p13 =>
 bif p13 then
  some (false : Bool)
 else
  Option.bind (cntM (s_PairsOk_b0 p0 p1) p0.length 0 ()) fun q2 =>
  aft (fun r => some r) (fun s3 =>
   some (true : Bool)) q2
def s_l1Marks_b0 (p0 : (List Int)) (v6 : Int) (s1 : (List Bool)) : Option ((List Bool) ⊕ (((List Bool)) ⊕ ((List Bool)))) :=
 Option.bind (idx p0 v6) fun x18 =>
 Option.bind (idx s1 x18) fun x20 =>
 Option.bind (setI s1 x18 true) fun y131 =>
 some (.inr (.inr (y131 : (List Bool))))
def s_l1Marks (p0 : (List Int)) (p1 : Int) : Option ((List Bool)) :=
 Option.bind (mkS 1 p1 (false : Bool)) fun x8 =>
 Option.bind (cntM (s_l1Marks_b0 p0) p0.length 0 (x8 : (List Bool))) fun q2 =>
 aft (fun r => some r) (fun s3 =>
  some (s3 : (List Bool))) q2
def s_l1Beyond_b2 (p0 : (List (List Int))) (p1 : (List Bool)) (x24 : Int) (s4 : (List Int) × Int × (List Bool)) : Option ((List Bool) ⊕ (((List Int) × Int × (List Bool)) ⊕ ((List Int) × Int × (List Bool)))) :=
 Option.bind (idx p0 x24) fun x34 =>
 bif decide (s4.2.1 < (x34.length : Int)) then
  Option.bind (idx p0 x24) fun x42 =>
  Option.bind (idx x42 s4.2.1) fun x45 =>
  Option.bind (idx p1 x45) fun x49 =>
  Option.bind (bif x49 then
  Option.bind (idx s4.2.2 x45) fun x54 =>
  some (!x54)
  else
  some false) fun p57 =>
  Option.bind (bif p57 then
   Option.bind (idx s4.2.2 x45) fun x60 =>
   Option.bind (setI s4.2.2 x45 true) fun y137 =>
   Option.bind (appS 8 s4.1 ([x45] : List Int)) fun x64 =>
   some ((x64 : (List Int)), (y137 : (List Bool)))
  else
   some ((s4.1 : (List Int)), (s4.2.2 : (List Bool)))) fun q7 =>
  some (.inr (.inr ((q7.1 : (List Int)), ((IntKind.i64.wrap (s4.2.1 + 1)) : Int), (q7.2 : (List Bool)))))
 else
  some (.inr (.inl ((s4.1 : (List Int)), (s4.2.1 : Int), (s4.2.2 : (List Bool)))))
def s_l1Beyond_b0 (p0 : (List (List Int))) (p1 : (List Bool)) (s1 : (List Int) × (List Bool)) : Option ((List Bool) ⊕ (((List Int) × (List Bool)) ⊕ ((List Int) × (List Bool)))) :=
 bif decide (0 < (s1.1.length : Int)) then
  Option.bind (idx s1.1 (IntKind.i64.wrap ((s1.1.length : Int) - 1))) fun x24 =>
  Option.bind (subS s1.1 0 (IntKind.i64.wrap ((s1.1.length : Int) - 1))) fun x30 =>
  Option.bind (whileM (s_l1Beyond_b2 p0 p1 x24) (2 ^ 64) ((x30 : (List Int)), (0 : Int), (s1.2 : (List Bool)))) fun q5 =>
  aft (fun r => some (.inl r)) (fun s6 =>
   some (.inr (.inr ((s6.1 : (List Int)), (s6.2.2 : (List Bool)))))) q5
 else
  some (.inr (.inl ((s1.1 : (List Int)), (s1.2 : (List Bool)))))
def s_l1Beyond (p0 : (List (List Int))) (p1 : (List Bool)) (p2 : (List Int)) : Option ((List Bool)) :=
 Option.bind (mkS 1 (p0.length : Int) (false : Bool)) fun x14 =>
 Option.bind (s_l1Copy p2) fun x16 =>
 Option.bind (whileM (s_l1Beyond_b0 p0 p1) (2 ^ 64) ((x16 : (List Int)), (x14 : (List Bool)))) fun q2 =>
 aft (fun r => some r) (fun s3 =>
  some (s3.2 : (List Bool))) q2
def s_l2Both (p0 : (List Int)) (p1 : (List Int)) : Option (Bool) :=
 Option.bind (s_SetOk p0 256) fun x6 =>
 Option.bind (bif x6 then
 Option.bind (s_SetOk p1 256) fun x9 =>
 some x9
 else
 some false) fun p10 =>
 some (p10 : Bool)
def s_l1Has_b0 (p0 : (List Int)) (p1 : Int) (v5 : Int) (s1 : Unit) : Option (Bool ⊕ ((Unit) ⊕ (Unit))) :=
 Option.bind (idx p0 v5) fun x14 =>
 bif (x14 == p1) then
  some (.inl (true : Bool))
 else
  some (.inr (.inr ()))
def s_l1Has (p0 : (List Int)) (p1 : Int) : Option (Bool) :=
 Option.bind (cntM (s_l1Has_b0 p0 p1) p0.length 0 ()) fun q2 =>
 aft (fun r => some r) (fun s3 =>
  some (false : Bool)) q2
def s_MeetOf_b0 (p0 : (List Int)) (p1 : (List Int)) (v6 : Int) (s1 : (List Int)) : Option ((List Int) ⊕ (((List Int)) ⊕ ((List Int)))) :=
 Option.bind (idx p0 v6) fun x22 =>
 Option.bind (s_l1Has p1 x22) fun x24 =>
 Option.bind (bif x24 then
  Option.bind (idx p0 v6) fun x28 =>
  Option.bind (appS 8 s1 ([x28] : List Int)) fun x31 =>
  some (x31 : (List Int))
 else
  some (s1 : (List Int))) fun q4 =>
 some (.inr (.inr (q4 : (List Int))))
def s_MeetOf (p0 : (List Int)) (p1 : (List Int)) : Option ((List Int)) :=
 Option.bind (s_l2Both p0 p1) fun x10 =>
 bif (!x10) then
  some (([] : List Int) : (List Int))
 else
  Option.bind (cntM (s_MeetOf_b0 p0 p1) p0.length 0 (([] : List Int) : (List Int))) fun q2 =>
  aft (fun r => some r) (fun s3 =>
   some (s3 : (List Int))) q2
def s_BothOf_b0 (p1 : (List Int)) (v6 : Int) (s1 : (List Int)) : Option ((List Int) ⊕ (((List Int)) ⊕ ((List Int)))) :=
 Option.bind (idx p1 v6) fun x23 =>
 Option.bind (s_l1Into s1 x23) fun x25 =>
 some (.inr (.inr (x25 : (List Int))))
def s_BothOf (p0 : (List Int)) (p1 : (List Int)) : Option ((List Int)) :=
 Option.bind (s_l2Both p0 p1) fun x9 =>
 bif (!x9) then
  some (([] : List Int) : (List Int))
 else
  Option.bind (s_l1Copy p0) fun x13 =>
  Option.bind (cntM (s_BothOf_b0 p1) p1.length 0 (x13 : (List Int))) fun q2 =>
  aft (fun r => some r) (fun s3 =>
   some (s3 : (List Int))) q2
def s_l33Vain_b0 (p0 : (List Pair)) (p1 : (List Int)) (v6 : Int) (s1 : (List Int)) : Option ((List Int) ⊕ (((List Int)) ⊕ ((List Int)))) :=
 Option.bind (idx p0 v6) fun x18 =>
 Option.bind (s_MeetOf p1 x18.Ask) fun x21 =>
 Option.bind (bif decide (0 < (x21.length : Int)) then
 Option.bind (idx p0 v6) fun x29 =>
 Option.bind (s_MeetOf p1 x29.Give) fun x32 =>
 some ((x32.length : Int) == 0)
 else
 some false) fun p35 =>
 Option.bind (bif p35 then
  Option.bind (s_BothOf s1 x21) fun x38 =>
  some (x38 : (List Int))
 else
  some (s1 : (List Int))) fun q4 =>
 some (.inr (.inr (q4 : (List Int))))
def s_l33Vain (p0 : (List Pair)) (p1 : (List Int)) : Option ((List Int)) :=
 Option.bind (cntM (s_l33Vain_b0 p0 p1) p0.length 0 (([] : List Int) : (List Int))) fun q2 =>
 aft (fun r => some r) (fun s3 =>
  some (s3 : (List Int))) q2
def s_l1Loops_b0 (p0 : (List (List Int))) (x18 : (List Bool)) (v7 : Int) (s1 : (List (List Bool))) : Option ((List (List Int)) ⊕ (((List (List Bool))) ⊕ ((List (List Bool))))) :=
 Option.bind (idx x18 v7) fun x28 =>
 Option.bind (bif x28 then
  Option.bind (s_l1Beyond p0 x18 ([v7] : List Int)) fun x35 =>
  Option.bind (appS 24 s1 ([x35] : List (List Bool))) fun x37 =>
  some (x37 : (List (List Bool)))
 else
  Option.bind (appS 24 s1 ([([] : List Bool)] : List (List Bool))) fun x41 =>
  some (x41 : (List (List Bool)))) fun q4 =>
 some (.inr (.inr (q4 : (List (List Bool)))))
def s_l1Loops_b4 (p1 : (List Int)) (s3 : (List (List Bool))) (x54 : Int) (v13 : Int) (s8 : (List Int) × (List Bool)) : Option ((List (List Int)) ⊕ (((List Int) × (List Bool)) ⊕ ((List Int) × (List Bool)))) :=
 Option.bind (idx p1 v13) fun x79 =>
 Option.bind (idx s3 x54) fun x83 =>
 Option.bind (idx x83 x79) fun x86 =>
 Option.bind (bif x86 then
 Option.bind (idx s3 x79) fun x91 =>
 Option.bind (idx x91 x54) fun x94 =>
 some x94
 else
 some false) fun p96 =>
 Option.bind (bif p96 then
  Option.bind (appS 8 s8.1 ([x79] : List Int)) fun x100 =>
  Option.bind (idx s8.2 x79) fun x103 =>
  Option.bind (setI s8.2 x79 true) fun y146 =>
  some ((x100 : (List Int)), (y146 : (List Bool)))
 else
  some ((s8.1 : (List Int)), (s8.2 : (List Bool)))) fun q11 =>
 some (.inr (.inr ((q11.1 : (List Int)), (q11.2 : (List Bool)))))
def s_l1Loops_b2 (p1 : (List Int)) (s3 : (List (List Bool))) (v10 : Int) (s5 : (List (List Int)) × (List Bool)) : Option ((List (List Int)) ⊕ (((List (List Int)) × (List Bool)) ⊕ ((List (List Int)) × (List Bool)))) :=
 Option.bind (idx p1 v10) fun x54 =>
 Option.bind (idx s5.2 x54) fun x58 =>
 Option.bind (bif x58 then
 some true
 else
 Option.bind (idx s3 x54) fun x63 =>
 Option.bind (idx x63 x54) fun x66 =>
 some (!x66)) fun p69 =>
 bif p69 then
  some (.inr (.inr ((s5.1 : (List (List Int))), (s5.2 : (List Bool)))))
 else
  Option.bind (cntM (s_l1Loops_b4 p1 s3 x54) p1.length 0 ((([] : List Int) : (List Int)), (s5.2 : (List Bool)))) fun q9 =>
  aft (fun r => some (.inl r)) (fun s10 =>
   Option.bind (appS 24 s5.1 ([s10.1] : List (List Int))) fun x107 =>
   some (.inr (.inr ((x107 : (List (List Int))), (s10.2 : (List Bool)))))) q9
def s_l1Loops (p0 : (List (List Int))) (p1 : (List Int)) : Option ((List (List Int))) :=
 Option.bind (s_l1Marks p1 (p0.length : Int)) fun x18 =>
 Option.bind (cntM (s_l1Loops_b0 p0 x18) p0.length 0 (([] : List (List Bool)) : (List (List Bool)))) fun q2 =>
 aft (fun r => some r) (fun s3 =>
  Option.bind (mkS 1 (p0.length : Int) (false : Bool)) fun x45 =>
  Option.bind (cntM (s_l1Loops_b2 p1 s3) p1.length 0 ((([] : List (List Int)) : (List (List Int))), (x45 : (List Bool)))) fun q6 =>
  aft (fun r => some r) (fun s7 =>
   some (s7.1 : (List (List Int)))) q6) q2
def s_LessOf_b0 (p0 : (List Int)) (p1 : (List Int)) (v6 : Int) (s1 : (List Int)) : Option ((List Int) ⊕ (((List Int)) ⊕ ((List Int)))) :=
 Option.bind (idx p0 v6) fun x22 =>
 Option.bind (s_l1Has p1 x22) fun x24 =>
 Option.bind (bif (!x24) then
  Option.bind (idx p0 v6) fun x29 =>
  Option.bind (appS 8 s1 ([x29] : List Int)) fun x32 =>
  some (x32 : (List Int))
 else
  some (s1 : (List Int))) fun q4 =>
 some (.inr (.inr (q4 : (List Int))))
def s_LessOf (p0 : (List Int)) (p1 : (List Int)) : Option ((List Int)) :=
 Option.bind (s_l2Both p0 p1) fun x10 =>
 bif (!x10) then
  some (([] : List Int) : (List Int))
 else
  Option.bind (cntM (s_LessOf_b0 p0 p1) p0.length 0 (([] : List Int) : (List Int))) fun q2 =>
  aft (fun r => some r) (fun s3 =>
   some (s3 : (List Int))) q2
def s_l33Fair_b0 (rc : (List (List Int)) → (List Pair) → (List Int) → Option (Bool)) (p0 : (List (List Int))) (p1 : (List Pair)) (x12 : (List (List Int))) (v8 : Int) (s1 : Unit) : Option (Bool ⊕ ((Unit) ⊕ (Unit))) :=
 Option.bind (idx x12 v8) fun x22 =>
 Option.bind (s_l33Vain p1 x22) fun x24 =>
 Option.bind (bif ((x24.length : Int) == 0) then
 some true
 else
 Option.bind (idx x12 v8) fun x33 =>
 Option.bind (s_LessOf x33 x24) fun x36 =>
 Option.bind (rc p0 p1 x36) fun x37 =>
 some x37) fun p38 =>
 bif p38 then
  some (.inl (true : Bool))
 else
  some (.inr (.inr ()))
def s_l33Fair_s (rc : (List (List Int)) → (List Pair) → (List Int) → Option (Bool)) (p0 : (List (List Int))) (p1 : (List Pair)) (p2 : (List Int)) : Option (Bool) :=
 Option.bind (s_l1Loops p0 p2) fun x12 =>
 Option.bind (cntM (s_l33Fair_b0 rc p0 p1 x12) x12.length 0 ()) fun q2 =>
 aft (fun r => some r) (fun s3 =>
  some (false : Bool)) q2
def s_l33Fair : Nat → (List (List Int)) → (List Pair) → (List Int) → Option (Bool)
 | 0 => fun _ _ _ => none
 | n + 1 => s_l33Fair_s (s_l33Fair n)
def s_FairIn_b0 (p0 : (List (List Int))) (v8 : Int) (s1 : Unit) : Option (Bool ⊕ ((Unit) ⊕ (Unit))) :=
 Option.bind (idx p0 v8) fun x33 =>
 Option.bind (s_l1Set x33 (p0.length : Int)) fun x36 =>
 bif (!x36) then
  some (.inl (false : Bool))
 else
  some (.inr (.inr ()))
def s_FairIn (p0 : (List (List Int))) (p1 : (List Pair)) (p2 : (List Int)) : Option (Bool) :=
 Option.bind (bif decide (256 < (p0.length : Int)) then
 some true
 else
 Option.bind (s_PairsOk p1 (p0.length : Int)) fun x16 =>
 some (!x16)) fun p18 =>
 Option.bind (bif p18 then
 some true
 else
 Option.bind (s_l1Set p2 (p0.length : Int)) fun x22 =>
 some (!x22)) fun p24 =>
 bif p24 then
  some (false : Bool)
 else
  Option.bind (cntM (s_FairIn_b0 p0) p0.length 0 ()) fun q2 =>
  aft (fun r => some r) (fun s3 =>
   Option.bind (s_l33Fair (2 ^ 64) p0 p1 p2) fun x41 =>
   some (x41 : Bool)) q2
def l_FnFair (p0 : (List Int)) : Option (Bool) :=
 Option.bind (l_big p0) fun x11 =>
 bif x11 then
  some (true : Bool)
 else
  Option.bind (s_DrawFairIn p0) fun x14 =>
  Option.bind (i_FairIn x14.1 x14.2.1 x14.2.2) fun x21 =>
  Option.bind (s_FairIn x14.1 x14.2.1 x14.2.2) fun x26 =>
  bif (x21 != x26) then
   some (false : Bool)
  else
   Option.bind (s_AllOf (x14.1.length : Int)) fun x31 =>
   Option.bind (bif x21 then
   Option.bind (i_FairIn x14.1 x14.2.1 x31) fun x37 =>
   some (!x37)
   else
   some false) fun p39 =>
   bif p39 then
    some (false : Bool)
   else
    Option.bind (i_FairIn x14.1 ([] : List Pair) x14.2.2) fun x43 =>
    Option.bind (bif (!x21) then
    some true
    else
    some x43) fun p48 =>
    Option.bind (bif p48 then
    Option.bind (s_FairIn x14.1 ([] : List Pair) x14.2.2) fun x53 =>
    Option.bind (bif (!x53) then
    some true
    else
    Option.bind (bif x43 then
    Option.bind (i_FairIn x14.1 ([(⟨([] : List Int), ([] : List Int)⟩ : Pair)] : List Pair) x14.2.2) fun x63 =>
    some x63
    else
    some false) fun p64 =>
    some p64) fun p65 =>
    some p65
    else
    some false) fun p66 =>
    some (p66 : Bool)
end Go.Proofs.Ytcmamhmpoinmnaa
