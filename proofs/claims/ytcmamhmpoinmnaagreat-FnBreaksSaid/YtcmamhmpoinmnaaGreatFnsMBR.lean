/- The functions on data. By program. -/
import Derived.Test.YtcmamhmpoinmnaaGreatTypesBR
import Derived.Test.YtcmamhmpoinmnaaGreatCmpBR
set_option linter.unusedVariables false
set_option linter.unusedSimpArgs false
namespace Go.Proofs.YtcmamhmpoinmnaaGreat
open Go Go.Wk Go.Proofs
set_option maxRecDepth 100000
set_option maxHeartbeats 1000000
def l_big (p0 : (List Int)) : Option (Bool) :=
 some (decide (4096 < (p0.length : Int)) : Bool)
def l_roll_b0 (p0 : (List Int)) (v6 : Int) (s1 : Int) : Option (dice ⊕ ((Int) ⊕ (Int))) :=
 Option.bind (idx p0 v6) fun x30 =>
 some (.inr (.inr ((IntKind.u64.wrap ((IntKind.u64.wrap ((IntKind.u64.wrap (s1 * 1099511628211)) + (IntKind.u64.wrap x30))) + 3)) : Int)))
def l_roll (p0 : (List Int)) (p1 : Int) : Option (dice) :=
 Option.bind (cntM (l_roll_b0 p0) p0.length 0 ((IntKind.u64.wrap ((IntKind.u64.wrap (p1 * 7919)) + (IntKind.u64.wrap (p0.length : Int)))) : Int)) fun q2 =>
 aft (fun r => some r) (fun s3 =>
  some ((⟨p0, 0, s3⟩ : dice) : dice)) q2
def l_dice_below (p0 : dice) (p1 : Int) : Option (Int × Int × Int) :=
 Option.bind (bif decide (p0.i < (p0.b.length : Int)) then
  Option.bind (idx p0.b p0.i) fun x41 =>
  some (((IntKind.i64.wrap ((IntKind.i64.wrap (IntKind.u64.wrap (BitVec.toNat (BitVec.ofInt (IntKind.bits IntKind.u64) (Int.fdiv (IntKind.u64.wrap ((IntKind.u64.wrap (p0.h * 6364136223846793005)) + 1442695040888963407)) (2 ^ (min (Int.toNat 33) (IntKind.bits IntKind.u64)))) &&& BitVec.ofInt (IntKind.bits IntKind.u64) 16777215)))) + (IntKind.i64.wrap x41))) : Int), ((IntKind.i64.wrap (p0.i + 1)) : Int))
 else
  some (((IntKind.i64.wrap (IntKind.u64.wrap (BitVec.toNat (BitVec.ofInt (IntKind.bits IntKind.u64) (Int.fdiv (IntKind.u64.wrap ((IntKind.u64.wrap (p0.h * 6364136223846793005)) + 1442695040888963407)) (2 ^ (min (Int.toNat 33) (IntKind.bits IntKind.u64)))) &&& BitVec.ofInt (IntKind.bits IntKind.u64) 16777215)))) : Int), (p0.i : Int))) fun q1 =>
 Option.bind (nz p1) fun _z55 =>
 some (((Int.tmod q1.1 p1) : Int), (q1.2 : Int), ((IntKind.u64.wrap ((IntKind.u64.wrap (p0.h * 6364136223846793005)) + 1442695040888963407)) : Int))
def l_w9Machine_b2 (p0 : dice) (x17 : Int × Int × Int) (q2 : Int) (v14 : Int) (s6 : (List Int) × (List Int) × Int × Int) : Option ((Machine × Int × Int) ⊕ (((List Int) × (List Int) × Int × Int) ⊕ ((List Int) × (List Int) × Int × Int))) :=
 Option.bind (l_dice_below (⟨p0.b, s6.2.2.1, s6.2.2.2⟩ : dice) (IntKind.i64.wrap (1 + x17.1))) fun x41 =>
 Option.bind (appS 8 s6.1 ([x41.1] : List Int)) fun x43 =>
 Option.bind (l_dice_below (⟨p0.b, x41.2.1, x41.2.2⟩ : dice) q2) fun x47 =>
 Option.bind (appS 8 s6.2.1 ([x47.1] : List Int)) fun x49 =>
 some (.inr (.inr ((x43 : (List Int)), (x49 : (List Int)), (x47.2.1 : Int), (x47.2.2 : Int))))
def l_w9Machine_b0 (p0 : dice) (x17 : Int × Int × Int) (q1 : Int) (q2 : Int) (v11 : Int) (s3 : Int × Int × (List (List Int)) × (List (List Int))) : Option ((Machine × Int × Int) ⊕ ((Int × Int × (List (List Int)) × (List (List Int))) ⊕ (Int × Int × (List (List Int)) × (List (List Int))))) :=
 Option.bind (rng q1) fun _ =>
 Option.bind (cntM (l_w9Machine_b2 p0 x17 q2) (Int.toNat (q1 - 0)) 0 ((([] : List Int) : (List Int)), (([] : List Int) : (List Int)), (s3.1 : Int), (s3.2.1 : Int))) fun q7 =>
 aft (fun r => some (.inl r)) (fun s8 =>
  Option.bind (appS 24 s3.2.2.1 ([s8.1] : List (List Int))) fun x54 =>
  Option.bind (appS 24 s3.2.2.2 ([s8.2.1] : List (List Int))) fun x60 =>
  some (.inr (.inr ((s8.2.2.1 : Int), (s8.2.2.2 : Int), (x54 : (List (List Int))), (x60 : (List (List Int))))))) q7
def l_w9Machine (p0 : dice) (p1 : Sig) (p2 : Int) : Option (Machine × Int × Int) :=
 Option.bind (l_dice_below p0 p2) fun x17 =>
 Option.bind (bif (p1.In == 2) then
  some (4 : Int)
 else
  some (2 : Int)) fun q1 =>
 Option.bind (bif (p1.Out == 2) then
  some (4 : Int)
 else
  some (2 : Int)) fun q2 =>
 Option.bind (rng (IntKind.i64.wrap (1 + x17.1))) fun _ =>
 Option.bind (cntM (l_w9Machine_b0 p0 x17 q1 q2) (Int.toNat ((IntKind.i64.wrap (1 + x17.1)) - 0)) 0 ((x17.2.1 : Int), (x17.2.2 : Int), (([] : List (List Int)) : (List (List Int))), (([] : List (List Int)) : (List (List Int))))) fun q4 =>
 aft (fun r => some r) (fun s5 =>
  some (((⟨s5.2.2.1, s5.2.2.2⟩ : Machine) : Machine), (s5.1 : Int), (s5.2.1 : Int))) q4
def l_w9Clauses_b2 (p0 : dice) (x19 : Int × Int × Int) (v8 : Int) (s4 : Int × Int × (List Int) × (List Int)) : Option (((List Clause) × Int × Int) ⊕ ((Int × Int × (List Int) × (List Int)) ⊕ (Int × Int × (List Int) × (List Int)))) :=
 Option.bind (l_dice_below (⟨p0.b, s4.1, s4.2.1⟩ : dice) 2) fun x27 =>
 Option.bind (bif (x27.1 == 0) then
  Option.bind (appS 8 s4.2.2.1 ([v8] : List Int)) fun x33 =>
  some (x33 : (List Int))
 else
  some (s4.2.2.1 : (List Int))) fun q7 =>
 Option.bind (l_dice_below (⟨p0.b, x27.2.1, x27.2.2⟩ : dice) 2) fun x36 =>
 Option.bind (bif (x36.1 == 0) then
 Option.bind (bif ((IntKind.i64.wrap (1 + x19.1)) == 2) then
 some true
 else
 some ((IntKind.i64.wrap (1 + x19.1)) == 3)) fun p46 =>
 Option.bind (bif p46 then
 some true
 else
 some ((IntKind.i64.wrap (1 + x19.1)) == 7)) fun p51 =>
 some p51
 else
 some false) fun p52 =>
 Option.bind (bif p52 then
  Option.bind (appS 8 s4.2.2.2 ([v8] : List Int)) fun x57 =>
  some (x57 : (List Int))
 else
  some (s4.2.2.2 : (List Int))) fun q8 =>
 some (.inr (.inr ((x36.2.1 : Int), (x36.2.2 : Int), (q7 : (List Int)), (q8 : (List Int)))))
def l_w9Clauses_b0 (p0 : dice) (s1 : (List Clause) × Int × Int × Int) : Option (((List Clause) × Int × Int) ⊕ (((List Clause) × Int × Int × Int) ⊕ ((List Clause) × Int × Int × Int))) :=
 bif decide (0 < s1.2.1) then
  Option.bind (l_dice_below (⟨p0.b, s1.2.2.1, s1.2.2.2⟩ : dice) 7) fun x19 =>
  Option.bind (cntM (l_w9Clauses_b2 p0 x19) (Int.toNat (4 - 0)) 0 ((x19.2.1 : Int), (x19.2.2 : Int), (([] : List Int) : (List Int)), (([] : List Int) : (List Int)))) fun q5 =>
  aft (fun r => some (.inl r)) (fun s6 =>
   Option.bind (appS 56 s1.1 ([(⟨(IntKind.i64.wrap (1 + x19.1)), s6.2.2.1, s6.2.2.2⟩ : Clause)] : List Clause)) fun x62 =>
   some (.inr (.inr ((x62 : (List Clause)), ((IntKind.i64.wrap (s1.2.1 - 1)) : Int), (s6.1 : Int), (s6.2.1 : Int))))) q5
 else
  some (.inr (.inl ((s1.1 : (List Clause)), (s1.2.1 : Int), (s1.2.2.1 : Int), (s1.2.2.2 : Int))))
def l_w9Clauses (p0 : dice) (p1 : Int) : Option ((List Clause) × Int × Int) :=
 Option.bind (l_dice_below p0 (IntKind.i64.wrap (p1 + 1))) fun x13 =>
 Option.bind (whileM (l_w9Clauses_b0 p0) (2 ^ 64) ((([] : List Clause) : (List Clause)), (x13.1 : Int), (x13.2.1 : Int), (x13.2.2 : Int))) fun q2 =>
 aft (fun r => some r) (fun s3 =>
  some ((s3.1 : (List Clause)), (s3.2.2.1 : Int), (s3.2.2.2 : Int))) q2
def i_isSig (p0 : Sig) : Option (Bool) :=
 Option.bind (bif decide (1 ≤ p0.In) then
 some (decide (p0.In ≤ 2))
 else
 some false) fun p10 =>
 Option.bind (bif p10 then
 some (decide (1 ≤ p0.Out))
 else
 some false) fun p15 =>
 Option.bind (bif p15 then
 some (decide (p0.Out ≤ 2))
 else
 some false) fun p20 =>
 some (p20 : Bool)
def i_inputsOf (p0 : Sig) : Option (Int) :=
 Option.bind (nn p0.In) fun _z5 =>
 some ((IntKind.i64.wrap (1 * 2 ^ (min (Int.toNat p0.In) (IntKind.bits IntKind.i64)))) : Int)
def i_areLetters_1 (p0 : Int) (c0 : Int) : Option (Bool) :=
 Option.bind (bif decide (p0 < 0) then
 some true
 else
 some (decide (c0 ≤ p0))) fun p10 =>
 some (p10 : Bool)
def slices_IndexFunc_I_int64__i_areLetters_1_b0 (p0 : (List Int)) (c1_0 : Int) (v8 : Int) (s1 : Unit) : Option (Int ⊕ ((Unit) ⊕ (Unit))) :=
 Option.bind (idx p0 v8) fun x14 =>
 Option.bind (i_areLetters_1 x14 c1_0) fun x16 =>
 bif x16 then
  some (.inl (v8 : Int))
 else
  some (.inr (.inr ()))
def slices_IndexFunc_I_int64__i_areLetters_1 (p0 : (List Int)) (c1_0 : Int) : Option (Int) :=
 Option.bind (cntM (slices_IndexFunc_I_int64__i_areLetters_1_b0 p0 c1_0) p0.length 0 ()) fun q2 =>
 aft (fun r => some r) (fun s3 =>
  some ((-1) : Int)) q2
def slices_ContainsFunc_I_int64__i_areLetters_1 (p0 : (List Int)) (c1_0 : Int) : Option (Bool) :=
 Option.bind (slices_IndexFunc_I_int64__i_areLetters_1 p0 c1_0) fun x7 =>
 some (decide (0 ≤ x7) : Bool)
def i_areLetters (p0 : (List Int)) (p1 : Int) : Option (Bool) :=
 Option.bind (slices_ContainsFunc_I_int64__i_areLetters_1 p0 p1) fun x7 =>
 some ((!x7) : Bool)
def i_isMachine_b0 (p0 : Sig) (p1 : Machine) (v29 : Int) (s1 : Unit) : Option (Bool ⊕ ((Unit) ⊕ (Unit))) :=
 Option.bind (idx p1.Next v29) fun x32 =>
 Option.bind (i_inputsOf p0) fun x37 =>
 Option.bind (bif ((x32.length : Int) != x37) then
 some true
 else
 Option.bind (idx p1.Out v29) fun x43 =>
 some ((x43.length : Int) != (x32.length : Int))) fun p49 =>
 Option.bind (bif p49 then
 some true
 else
 Option.bind (i_areLetters x32 (p1.Next.length : Int)) fun x53 =>
 some (!x53)) fun p55 =>
 Option.bind (bif p55 then
 some true
 else
 Option.bind (idx p1.Out v29) fun x60 =>
 Option.bind (nn p0.Out) fun _z64 =>
 Option.bind (i_areLetters x60 (IntKind.i64.wrap (1 * 2 ^ (min (Int.toNat p0.Out) (IntKind.bits IntKind.i64))))) fun x65 =>
 some (!x65)) fun p67 =>
 bif p67 then
  some (.inl (false : Bool))
 else
  some (.inr (.inr ()))
def i_isMachine (p0 : Sig) (p1 : Machine) : Option (Bool) :=
 Option.bind (bif decide ((p1.Next.length : Int) < 1) then
 some true
 else
 some (decide (48 < (p1.Next.length : Int)))) fun p16 =>
 Option.bind (bif p16 then
 some true
 else
 some ((p1.Out.length : Int) != (p1.Next.length : Int))) fun p25 =>
 bif p25 then
  some (false : Bool)
 else
  Option.bind (cntM (i_isMachine_b0 p0 p1) p1.Next.length 0 ()) fun q2 =>
  aft (fun r => some r) (fun s3 =>
   some (true : Bool)) q2
def i_lettersOf (p0 : Sig) : Option (Int) :=
 Option.bind (nn (IntKind.i64.wrap (p0.In + p0.Out))) fun _z8 =>
 some ((IntKind.i64.wrap (1 * 2 ^ (min (Int.toNat (IntKind.i64.wrap (p0.In + p0.Out))) (IntKind.bits IntKind.i64)))) : Int)
def i_isSet_b0 (p0 : (List Int)) (p1 : Int) (v9 : Int) (s1 : Unit) : Option (Bool ⊕ ((Unit) ⊕ (Unit))) :=
 Option.bind (idx p0 v9) fun x12 =>
 Option.bind (bif decide (x12 < 0) then
 some true
 else
 some (decide (p1 ≤ x12))) fun p20 =>
 Option.bind (bif p20 then
 some true
 else
 Option.bind (bif decide (0 < v9) then
 Option.bind (idx p0 (IntKind.i64.wrap (v9 - 1))) fun x29 =>
 some (decide (x12 ≤ x29))
 else
 some false) fun p32 =>
 some p32) fun p33 =>
 bif p33 then
  some (.inl (false : Bool))
 else
  some (.inr (.inr ()))
def i_isSet (p0 : (List Int)) (p1 : Int) : Option (Bool) :=
 Option.bind (cntM (i_isSet_b0 p0 p1) p0.length 0 ()) fun q2 =>
 aft (fun r => some r) (fun s3 =>
  some (true : Bool)) q2
def i_hasSecond (p0 : Int) : Option (Bool) :=
 Option.bind (bif (p0 == 2) then
 some true
 else
 some (p0 == 3)) fun p8 =>
 Option.bind (bif p8 then
 some true
 else
 some (p0 == 7)) fun p12 =>
 some (p12 : Bool)
def i_isClause (p0 : Sig) (p1 : Clause) : Option (Bool) :=
 Option.bind (bif decide (p1.Kind < 1) then
 some true
 else
 some (decide (7 < p1.Kind))) fun p12 =>
 Option.bind (bif p12 then
 some true
 else
 Option.bind (i_lettersOf p0) fun x17 =>
 Option.bind (i_isSet p1.A x17) fun x18 =>
 some (!x18)) fun p20 =>
 Option.bind (bif p20 then
 some true
 else
 Option.bind (i_lettersOf p0) fun x25 =>
 Option.bind (i_isSet p1.B x25) fun x26 =>
 some (!x26)) fun p28 =>
 bif p28 then
  some (false : Bool)
 else
  Option.bind (i_hasSecond p1.Kind) fun x31 =>
  Option.bind (bif x31 then
  some true
  else
  some ((p1.B.length : Int) == 0)) fun p37 =>
  some (p37 : Bool)
def i_areClauses_1 (p0 : Clause) (c0 : Sig) : Option (Bool) :=
 Option.bind (i_isClause c0 p0) fun x6 =>
 some ((!x6) : Bool)
def slices_IndexFunc_i_Clause_i_Clause__i_areClauses_1_b0 (p0 : (List Clause)) (c1_0 : Sig) (v8 : Int) (s1 : Unit) : Option (Int ⊕ ((Unit) ⊕ (Unit))) :=
 Option.bind (idx p0 v8) fun x14 =>
 Option.bind (i_areClauses_1 x14 c1_0) fun x16 =>
 bif x16 then
  some (.inl (v8 : Int))
 else
  some (.inr (.inr ()))
def slices_IndexFunc_i_Clause_i_Clause__i_areClauses_1 (p0 : (List Clause)) (c1_0 : Sig) : Option (Int) :=
 Option.bind (cntM (slices_IndexFunc_i_Clause_i_Clause__i_areClauses_1_b0 p0 c1_0) p0.length 0 ()) fun q2 =>
 aft (fun r => some r) (fun s3 =>
  some ((-1) : Int)) q2
def slices_ContainsFunc_i_Clause_i_Clause__i_areClauses_1 (p0 : (List Clause)) (c1_0 : Sig) : Option (Bool) :=
 Option.bind (slices_IndexFunc_i_Clause_i_Clause__i_areClauses_1 p0 c1_0) fun x7 =>
 some (decide (0 ≤ x7) : Bool)
def i_areClauses (p0 : Sig) (p1 : (List Clause)) : Option (Bool) :=
 Option.bind (bif decide ((p1.length : Int) ≤ 3) then
 Option.bind (slices_ContainsFunc_i_Clause_i_Clause__i_areClauses_1 p1 p0) fun x11 =>
 some (!x11)
 else
 some false) fun p13 =>
 some (p13 : Bool)
def slices_Index_I_int64_b0 (p0 : (List Int)) (p1 : Int) (v8 : Int) (s1 : Unit) : Option (Int ⊕ ((Unit) ⊕ (Unit))) :=
 Option.bind (idx p0 v8) fun x14 =>
 bif (p1 == x14) then
  some (.inl (v8 : Int))
 else
  some (.inr (.inr ()))
def slices_Index_I_int64 (p0 : (List Int)) (p1 : Int) : Option (Int) :=
 Option.bind (cntM (slices_Index_I_int64_b0 p0 p1) p0.length 0 ()) fun q2 =>
 aft (fun r => some r) (fun s3 =>
  some ((-1) : Int)) q2
def slices_Contains_I_int64 (p0 : (List Int)) (p1 : Int) : Option (Bool) :=
 Option.bind (slices_Index_I_int64 p0 p1) fun x7 =>
 some (decide (0 ≤ x7) : Bool)
def i_monitorStep (p0 : Int) (p1 : Int) (p2 : Bool) (p3 : Bool) : Option (Int) :=
 Option.bind (bif p2 then
  some (1 : Int)
 else
  some (0 : Int)) fun q1 =>
 Option.bind (bif p3 then
  some ((true : Bool), (1 : Int))
 else
  some ((false : Bool), (0 : Int))) fun q2 =>
 bif (p0 == 1) then
  some ((if p1 < (IntKind.i64.wrap (1 - q1)) then (IntKind.i64.wrap (1 - q1)) else p1) : Int)
 else
  bif (p0 == 2) then
   Option.bind (bif (p1 == 2) then
   some true
   else
   Option.bind (bif (p1 == 1) then
   some (!q2.1)
   else
   some false) fun p30 =>
   some p30) fun p31 =>
   bif p31 then
    some (2 : Int)
   else
    some (q1 : Int)
  else
   bif (p0 == 3) then
    bif q2.1 then
     some (0 : Int)
    else
     some ((if p1 < q1 then q1 else p1) : Int)
   else
    bif (p0 == 4) then
     some (q1 : Int)
    else
     bif (p0 == 5) then
      some ((IntKind.i64.wrap (1 - q1)) : Int)
     else
      bif (p0 == 6) then
       some ((if p1 < q1 then q1 else p1) : Int)
      else
       some ((IntKind.i64.wrap ((IntKind.i64.wrap (2 * q1)) + q2.2)) : Int)
def i_monitorOf_b3 (p1 : Clause) (v44 : Int) (v50 : Int) (s10 : (List Int)) : Option (Det ⊕ (((List Int)) ⊕ ((List Int)))) :=
 Option.bind (slices_Contains_I_int64 p1.A v50) fun x60 =>
 Option.bind (slices_Contains_I_int64 p1.B v50) fun x64 =>
 Option.bind (i_monitorStep p1.Kind v44 x60 x64) fun x65 =>
 Option.bind (appS 8 s10 ([x65] : List Int)) fun x67 =>
 some (.inr (.inr (x67 : (List Int))))
def i_monitorOf_b1 (p0 : Sig) (p1 : Clause) (v44 : Int) (s7 : (List (List Int))) : Option (Det ⊕ (((List (List Int))) ⊕ ((List (List Int))))) :=
 Option.bind (i_lettersOf p0) fun x49 =>
 Option.bind (rng x49) fun _ =>
 Option.bind (cntM (i_monitorOf_b3 p1 v44) (Int.toNat (x49 - 0)) 0 (([] : List Int) : (List Int))) fun q11 =>
 aft (fun r => some (.inl r)) (fun s12 =>
  Option.bind (appS 24 s7 ([s12] : List (List Int))) fun x73 =>
  some (.inr (.inr (x73 : (List (List Int)))))) q11
def i_monitorOf (p0 : Sig) (p1 : Clause) : Option (Det) :=
 Option.bind (bif (p1.Kind == 1) then
  some (true : Bool)
 else
  some ((p1.Kind == 5) : Bool)) fun q1 =>
 Option.bind (bif q1 then
  some ((2 : Int), (([1] : List Int) : (List Int)), (([] : List Int) : (List Int)))
 else
  Option.bind (bif (p1.Kind == 2) then
   some ((3 : Int), (([2] : List Int) : (List Int)), (([] : List Int) : (List Int)))
  else
   Option.bind (bif (p1.Kind == 3) then
    some ((2 : Int), (([1] : List Int) : (List Int)), (([0] : List Int) : (List Int)))
   else
    Option.bind (bif (p1.Kind == 4) then
     some ((2 : Int), (([0, 1] : List Int) : (List Int)), (([1] : List Int) : (List Int)))
    else
     Option.bind (bif (p1.Kind == 6) then
      some ((2 : Int), (([0] : List Int) : (List Int)), (([] : List Int) : (List Int)))
     else
      some ((4 : Int), (([2, 3] : List Int) : (List Int)), (([1, 3] : List Int) : (List Int)))) fun q6 =>
     some ((q6.1 : Int), (q6.2.1 : (List Int)), (q6.2.2 : (List Int)))) fun q5 =>
    some ((q5.1 : Int), (q5.2.1 : (List Int)), (q5.2.2 : (List Int)))) fun q4 =>
   some ((q4.1 : Int), (q4.2.1 : (List Int)), (q4.2.2 : (List Int)))) fun q3 =>
  some ((q3.1 : Int), (q3.2.1 : (List Int)), (q3.2.2 : (List Int)))) fun q2 =>
 Option.bind (rng q2.1) fun _ =>
 Option.bind (cntM (i_monitorOf_b1 p0 p1) (Int.toNat (q2.1 - 0)) 0 (([] : List (List Int)) : (List (List Int)))) fun q8 =>
 aft (fun r => some r) (fun s9 =>
  some ((⟨s9, ([(⟨q2.2.1, q2.2.2⟩ : Pair)] : List Pair)⟩ : Det) : Det)) q8
def slices_Index_2_int64_2_int64_b0 (p0 : (List (Int × Int))) (p1 : (Int × Int)) (v8 : Int) (s1 : Unit) : Option (Int ⊕ ((Unit) ⊕ (Unit))) :=
 Option.bind (idx p0 v8) fun x14 =>
 bif ((p1.1 == x14.1) && (p1.2 == x14.2)) then
  some (.inl (v8 : Int))
 else
  some (.inr (.inr ()))
def slices_Index_2_int64_2_int64 (p0 : (List (Int × Int))) (p1 : (Int × Int)) : Option (Int) :=
 Option.bind (cntM (slices_Index_2_int64_2_int64_b0 p0 p1) p0.length 0 ()) fun q2 =>
 aft (fun r => some r) (fun s3 =>
  some ((-1) : Int)) q2
def i_joinedDet_b2 (p1 : Det) (s1 : (List (Int × Int)) × Int × (List (List Int))) (x47 : (List Int)) (v50 : Int) (s4 : (List (Int × Int)) × (List Int)) : Option ((Det × Bool) ⊕ (((List (Int × Int)) × (List Int)) ⊕ ((List (Int × Int)) × (List Int)))) :=
 Option.bind (idx x47 v50) fun x53 =>
 Option.bind (idx s4.1 s1.2.1) fun x60 =>
 Option.bind (idx p1.Next x60.2) fun x63 =>
 Option.bind (idx x63 v50) fun x66 =>
 Option.bind (slices_Index_2_int64_2_int64 s4.1 (x53, x66)) fun x71 =>
 Option.bind (bif decide (x71 < 0) then
  Option.bind (appS 16 s4.1 ([(x53, x66)] : List (Int × Int))) fun x79 =>
  some ((x79 : (List (Int × Int))), ((s4.1.length : Int) : Int))
 else
  some ((s4.1 : (List (Int × Int))), (x71 : Int))) fun q7 =>
 Option.bind (appS 8 s4.2 ([q7.2] : List Int)) fun x83 =>
 some (.inr (.inr ((q7.1 : (List (Int × Int))), (x83 : (List Int)))))
def i_joinedDet_b0 (p0 : Det) (p1 : Det) (s1 : (List (Int × Int)) × Int × (List (List Int))) : Option ((Det × Bool) ⊕ (((List (Int × Int)) × Int × (List (List Int))) ⊕ ((List (Int × Int)) × Int × (List (List Int))))) :=
 bif decide (s1.2.1 < (s1.1.length : Int)) then
  Option.bind (idx s1.1 s1.2.1) fun x44 =>
  Option.bind (idx p0.Next x44.1) fun x47 =>
  Option.bind (cntM (i_joinedDet_b2 p1 s1 x47) x47.length 0 ((s1.1 : (List (Int × Int))), (([] : List Int) : (List Int)))) fun q5 =>
  aft (fun r => some (.inl r)) (fun s6 =>
   bif decide (48 < (s6.1.length : Int)) then
    some (.inl (((⟨([] : List (List Int)), ([] : List Pair)⟩ : Det) : Det), (false : Bool)))
   else
    Option.bind (appS 24 s1.2.2 ([s6.2] : List (List Int))) fun x93 =>
    some (.inr (.inr ((s6.1 : (List (Int × Int))), ((IntKind.i64.wrap (s1.2.1 + 1)) : Int), (x93 : (List (List Int))))))) q5
 else
  some (.inr (.inl ((s1.1 : (List (Int × Int))), (s1.2.1 : Int), (s1.2.2 : (List (List Int))))))
def i_joinedDet_b8 (s3 : (List (Int × Int)) × Int × (List (List Int))) (v99 : Int) (x109 : Pair) (v114 : Int) (s14 : (List Int) × (List Int)) : Option ((Det × Bool) ⊕ (((List Int) × (List Int)) ⊕ ((List Int) × (List Int)))) :=
 Option.bind (idx s3.1 v114) fun x117 =>
 Option.bind (idx ([x117.1, x117.2] : List Int) v99) fun x122 =>
 Option.bind (slices_Contains_I_int64 x109.Ask x122) fun x124 =>
 Option.bind (bif x124 then
  Option.bind (appS 8 s14.1 ([v114] : List Int)) fun x129 =>
  some (x129 : (List Int))
 else
  some (s14.1 : (List Int))) fun q17 =>
 Option.bind (idx ([x117.1, x117.2] : List Int) v99) fun x134 =>
 Option.bind (slices_Contains_I_int64 x109.Give x134) fun x136 =>
 Option.bind (bif x136 then
  Option.bind (appS 8 s14.2 ([v114] : List Int)) fun x141 =>
  some (x141 : (List Int))
 else
  some (s14.2 : (List Int))) fun q18 =>
 some (.inr (.inr ((q17 : (List Int)), (q18 : (List Int)))))
def i_joinedDet_b6 (s3 : (List (Int × Int)) × Int × (List (List Int))) (v99 : Int) (x102 : Det) (v107 : Int) (s11 : (List Pair)) : Option ((Det × Bool) ⊕ (((List Pair)) ⊕ ((List Pair)))) :=
 Option.bind (idx x102.Pairs v107) fun x109 =>
 Option.bind (cntM (i_joinedDet_b8 s3 v99 x109) s3.1.length 0 ((([] : List Int) : (List Int)), (([] : List Int) : (List Int)))) fun q15 =>
 aft (fun r => some (.inl r)) (fun s16 =>
  Option.bind (appS 48 s11 ([(⟨s16.1, s16.2⟩ : Pair)] : List Pair)) fun x148 =>
  some (.inr (.inr (x148 : (List Pair))))) q15
def i_joinedDet_b4 (p0 : Det) (p1 : Det) (s3 : (List (Int × Int)) × Int × (List (List Int))) (v99 : Int) (s8 : (List Pair)) : Option ((Det × Bool) ⊕ (((List Pair)) ⊕ ((List Pair)))) :=
 Option.bind (idx ([p0, p1] : List Det) v99) fun x102 =>
 Option.bind (cntM (i_joinedDet_b6 s3 v99 x102) x102.Pairs.length 0 (s8 : (List Pair))) fun q12 =>
 aft (fun r => some (.inl r)) (fun s13 =>
  some (.inr (.inr (s13 : (List Pair))))) q12
def i_joinedDet (p0 : Det) (p1 : Det) : Option (Det × Bool) :=
 bif decide (4 < (IntKind.i64.wrap ((p0.Pairs.length : Int) + (p1.Pairs.length : Int)))) then
  some (((⟨([] : List (List Int)), ([] : List Pair)⟩ : Det) : Det), (false : Bool))
 else
  Option.bind (whileM (i_joinedDet_b0 p0 p1) (2 ^ 64) ((([(0, 0)] : List (Int × Int)) : (List (Int × Int))), (0 : Int), (([] : List (List Int)) : (List (List Int))))) fun q2 =>
  aft (fun r => some r) (fun s3 =>
   Option.bind (cntM (i_joinedDet_b4 p0 p1 s3) ([p0, p1] : List Det).length 0 (([] : List Pair) : (List Pair))) fun q9 =>
   aft (fun r => some r) (fun s10 =>
    some (((⟨s3.2.2, s10⟩ : Det) : Det), (true : Bool))) q9) q2
def i_ProductOf_b0 (p0 : Sig) (p1 : (List Clause)) (v28 : Int) (s1 : (List (List Int)) × (List Pair)) : Option ((Det × Bool) ⊕ (((List (List Int)) × (List Pair)) ⊕ ((List (List Int)) × (List Pair)))) :=
 Option.bind (idx p1 v28) fun x30 =>
 Option.bind (i_monitorOf p0 x30) fun x36 =>
 Option.bind (i_joinedDet (⟨s1.1, s1.2⟩ : Det) x36) fun x37 =>
 bif (!x37.2) then
  some (.inl (((⟨([] : List (List Int)), ([] : List Pair)⟩ : Det) : Det), (false : Bool)))
 else
  some (.inr (.inr ((x37.1.Next : (List (List Int))), (x37.1.Pairs : (List Pair)))))
def i_ProductOf (p0 : Sig) (p1 : (List Clause)) : Option (Det × Bool) :=
 Option.bind (i_isSig p0) fun x12 =>
 Option.bind (bif (!x12) then
 some true
 else
 Option.bind (i_areClauses p0 p1) fun x17 =>
 some (!x17)) fun p19 =>
 bif p19 then
  some (((⟨([] : List (List Int)), ([] : List Pair)⟩ : Det) : Det), (false : Bool))
 else
  Option.bind (i_lettersOf p0) fun x22 =>
  Option.bind (mkS 8 x22 (0 : Int)) fun x23 =>
  Option.bind (cntM (i_ProductOf_b0 p0 p1) p1.length 0 ((([x23] : List (List Int)) : (List (List Int))), (([] : List Pair) : (List Pair)))) fun q2 =>
  aft (fun r => some r) (fun s3 =>
   some (((⟨s3.1, s3.2⟩ : Det) : Det), (true : Bool))) q2
def i_watchOf_b2 (p0 : Sig) (p1 : Machine) (p2 : Det) (x42 : (Int × Int)) (x47 : (Int × Int)) (x55 : (List Int)) (v58 : Int) (s4 : (List (Int × Int)) × (List Int) × (List Int) × (List ((Int × Int) × Int))) : Option (((Option watch) × Bool) ⊕ (((List (Int × Int)) × (List Int) × (List Int) × (List ((Int × Int) × Int))) ⊕ ((List (Int × Int)) × (List Int) × (List Int) × (List ((Int × Int) × Int))))) :=
 Option.bind (idx x55 v58) fun x61 =>
 Option.bind (idx p1.Out x42.1) fun x66 =>
 Option.bind (idx x66 v58) fun x69 =>
 Option.bind (i_inputsOf p0) fun x72 =>
 Option.bind (idx p2.Next x47.2) fun x80 =>
 Option.bind (idx x80 (IntKind.i64.wrap ((IntKind.i64.wrap (x69 * x72)) + v58))) fun x83 =>
 Option.bind (mget kwI2 s4.2.2.2 ((x61, x83) : (Int × Int)) (0 : Int)) fun x89 =>
 Option.bind (bif (!x89.2) then
  Option.bind (mset kwI2 s4.2.2.2 ((x61, x83) : (Int × Int)) (s4.1.length : Int)) fun y84 =>
  Option.bind (appS 16 s4.1 ([(x61, x83)] : List (Int × Int))) fun x102 =>
  some ((x102 : (List (Int × Int))), ((s4.1.length : Int) : Int), (y84 : (List ((Int × Int) × Int))))
 else
  some ((s4.1 : (List (Int × Int))), (x89.1 : Int), (s4.2.2.2 : (List ((Int × Int) × Int))))) fun q7 =>
 Option.bind (appS 8 s4.2.1 ([q7.2.1] : List Int)) fun x106 =>
 Option.bind (appS 8 s4.2.2.1 ([(IntKind.i64.wrap ((IntKind.i64.wrap (x69 * x72)) + v58))] : List Int)) fun x110 =>
 some (.inr (.inr ((q7.1 : (List (Int × Int))), (x106 : (List Int)), (x110 : (List Int)), (q7.2.2 : (List ((Int × Int) × Int))))))
def i_watchOf_b0 (p0 : Sig) (p1 : Machine) (p2 : Det) (s1 : (List (Int × Int)) × Int × (List (List Int)) × (List (List Int)) × (List ((Int × Int) × Int))) : Option (((Option watch) × Bool) ⊕ (((List (Int × Int)) × Int × (List (List Int)) × (List (List Int)) × (List ((Int × Int) × Int))) ⊕ ((List (Int × Int)) × Int × (List (List Int)) × (List (List Int)) × (List ((Int × Int) × Int))))) :=
 bif decide (s1.2.1 < (s1.1.length : Int)) then
  Option.bind (idx s1.1 s1.2.1) fun x42 =>
  Option.bind (idx s1.1 s1.2.1) fun x47 =>
  Option.bind (idx p1.Next x42.1) fun x55 =>
  Option.bind (cntM (i_watchOf_b2 p0 p1 p2 x42 x47 x55) x55.length 0 ((s1.1 : (List (Int × Int))), (([] : List Int) : (List Int)), (([] : List Int) : (List Int)), (s1.2.2.2.2 : (List ((Int × Int) × Int))))) fun q5 =>
  aft (fun r => some (.inl r)) (fun s6 =>
   bif decide (256 < (s6.1.length : Int)) then
    some (.inl ((none : Option watch), (false : Bool)))
   else
    Option.bind (appS 24 s1.2.2.1 ([s6.2.1] : List (List Int))) fun x123 =>
    Option.bind (appS 24 s1.2.2.2.1 ([s6.2.2.1] : List (List Int))) fun x130 =>
    some (.inr (.inr ((s6.1 : (List (Int × Int))), ((IntKind.i64.wrap (s1.2.1 + 1)) : Int), (x123 : (List (List Int))), (x130 : (List (List Int))), (s6.2.2.2 : (List ((Int × Int) × Int))))))) q5
 else
  some (.inr (.inl ((s1.1 : (List (Int × Int))), (s1.2.1 : Int), (s1.2.2.1 : (List (List Int))), (s1.2.2.2.1 : (List (List Int))), (s1.2.2.2.2 : (List ((Int × Int) × Int))))))
def i_watchOf_b6 (s3 : (List (Int × Int)) × Int × (List (List Int)) × (List (List Int)) × (List ((Int × Int) × Int))) (x140 : Pair) (v145 : Int) (s11 : (List Int) × (List Int)) : Option (((Option watch) × Bool) ⊕ (((List Int) × (List Int)) ⊕ ((List Int) × (List Int)))) :=
 Option.bind (idx s3.1 v145) fun x148 =>
 Option.bind (slices_Contains_I_int64 x140.Ask x148.2) fun x154 =>
 Option.bind (bif x154 then
  Option.bind (appS 8 s11.1 ([v145] : List Int)) fun x159 =>
  some (x159 : (List Int))
 else
  some (s11.1 : (List Int))) fun q14 =>
 Option.bind (slices_Contains_I_int64 x140.Give x148.2) fun x165 =>
 Option.bind (bif x165 then
  Option.bind (appS 8 s11.2 ([v145] : List Int)) fun x170 =>
  some (x170 : (List Int))
 else
  some (s11.2 : (List Int))) fun q15 =>
 some (.inr (.inr ((q14 : (List Int)), (q15 : (List Int)))))
def i_watchOf_b4 (p2 : Det) (s3 : (List (Int × Int)) × Int × (List (List Int)) × (List (List Int)) × (List ((Int × Int) × Int))) (v138 : Int) (s8 : (List Pair)) : Option (((Option watch) × Bool) ⊕ (((List Pair)) ⊕ ((List Pair)))) :=
 Option.bind (idx p2.Pairs v138) fun x140 =>
 Option.bind (cntM (i_watchOf_b6 s3 x140) s3.1.length 0 ((([] : List Int) : (List Int)), (([] : List Int) : (List Int)))) fun q12 =>
 aft (fun r => some (.inl r)) (fun s13 =>
  Option.bind (appS 48 s8 ([(⟨s13.1, s13.2⟩ : Pair)] : List Pair)) fun x180 =>
  some (.inr (.inr (x180 : (List Pair))))) q12
def i_watchOf (p0 : Sig) (p1 : Machine) (p2 : Det) : Option ((Option watch) × Bool) :=
 Option.bind (mset kwI2 ([] : List ((Int × Int) × Int)) ((0, 0) : (Int × Int)) 0) fun y80 =>
 Option.bind (whileM (i_watchOf_b0 p0 p1 p2) (2 ^ 64) ((([(0, 0)] : List (Int × Int)) : (List (Int × Int))), (0 : Int), (([] : List (List Int)) : (List (List Int))), (([] : List (List Int)) : (List (List Int))), (y80 : (List ((Int × Int) × Int))))) fun q2 =>
 aft (fun r => some r) (fun s3 =>
  Option.bind (cntM (i_watchOf_b4 p2 s3) p2.Pairs.length 0 (([] : List Pair) : (List Pair))) fun q9 =>
  aft (fun r => some r) (fun s10 =>
   some ((some (((⟨s3.2.2.1, s3.2.2.2.1, s10⟩ : watch) : watch)) : Option watch), (true : Bool))) q9) q2
def i_watchAll (p0 : Sig) (p1 : Machine) (p2 : (List Clause)) : Option ((Option watch) × Bool) :=
 Option.bind (i_isSig p0) fun x11 =>
 Option.bind (bif (!x11) then
 some true
 else
 Option.bind (i_isMachine p0 p1) fun x16 =>
 some (!x16)) fun p18 =>
 bif p18 then
  some ((none : Option watch), (false : Bool))
 else
  Option.bind (i_ProductOf p0 p2) fun x22 =>
  bif (!x22.2) then
   some ((none : Option watch), (false : Bool))
  else
   Option.bind (i_watchOf p0 p1 x22.1) fun x30 =>
   some ((x30.1 : Option watch), (x30.2 : Bool))
def i_watch_outside_b0 (p1 : (List Int)) (v15 : Int) (s1 : (List Bool)) : Option ((List Bool) ⊕ (((List Bool)) ⊕ ((List Bool)))) :=
 Option.bind (slices_Contains_I_int64 p1 v15) fun x22 =>
 Option.bind (idx s1 v15) fun x24 =>
 Option.bind (setI s1 v15 (!x22)) fun y102 =>
 some (.inr (.inr (y102 : (List Bool))))
def i_watch_outside (p0 : watch) (p1 : (List Int)) : Option ((List Bool)) :=
 Option.bind (mkS 1 (p0.next.length : Int) (false : Bool)) fun x12 =>
 Option.bind (cntM (i_watch_outside_b0 p1) x12.length 0 (x12 : (List Bool))) fun q2 =>
 aft (fun r => some r) (fun s3 =>
  some (s3 : (List Bool))) q2
def i_loopsIn_2 (p0 : Int) (c0 : (List Int)) : Option ((List Int)) :=
 Option.bind (appS 8 c0 ([p0] : List Int)) fun x6 =>
 some (x6 : (List Int))
def i_loopsIn_1__i_loopsIn_2__i_loopsIn_1_b0 (rc : Int → (List (List Int)) → (List Int) → (List Bool) → (List Bool) → Option ((List Int) × (List Bool))) (p1 : (List (List Int))) (c1 : (List Bool)) (x16 : (List Int)) (v19 : Int) (s1 : (List Int) × (List Bool)) : Option (((List Int) × (List Bool)) ⊕ (((List Int) × (List Bool)) ⊕ ((List Int) × (List Bool)))) :=
 Option.bind (idx x16 v19) fun x21 =>
 Option.bind (idx c1 x21) fun x25 =>
 Option.bind (bif x25 then
 Option.bind (idx s1.2 x21) fun x30 =>
 some (!x30)
 else
 some false) fun p33 =>
 Option.bind (bif p33 then
  Option.bind (rc x21 p1 s1.1 s1.2 c1) fun x38 =>
  some ((x38.1 : (List Int)), (x38.2 : (List Bool)))
 else
  some ((s1.1 : (List Int)), (s1.2 : (List Bool)))) fun q4 =>
 some (.inr (.inr ((q4.1 : (List Int)), (q4.2 : (List Bool)))))
def i_loopsIn_1__i_loopsIn_2__i_loopsIn_1_s (rc : Int → (List (List Int)) → (List Int) → (List Bool) → (List Bool) → Option ((List Int) × (List Bool))) (p0 : Int) (p1 : (List (List Int))) (c2_0 : (List Int)) (c0 : (List Bool)) (c1 : (List Bool)) : Option ((List Int) × (List Bool)) :=
 Option.bind (idx c0 p0) fun x13 =>
 Option.bind (setI c0 p0 true) fun y110 =>
 Option.bind (idx p1 p0) fun x16 =>
 Option.bind (cntM (i_loopsIn_1__i_loopsIn_2__i_loopsIn_1_b0 rc p1 c1 x16) x16.length 0 ((c2_0 : (List Int)), (y110 : (List Bool)))) fun q2 =>
 aft (fun r => some r) (fun s3 =>
  Option.bind (i_loopsIn_2 p0 s3.1) fun x42 =>
  some ((x42 : (List Int)), (s3.2 : (List Bool)))) q2
def i_loopsIn_1__i_loopsIn_2__i_loopsIn_1 : Nat → Int → (List (List Int)) → (List Int) → (List Bool) → (List Bool) → Option ((List Int) × (List Bool))
 | 0 => fun _ _ _ _ _ => none
 | n + 1 => i_loopsIn_1__i_loopsIn_2__i_loopsIn_1_s (i_loopsIn_1__i_loopsIn_2__i_loopsIn_1 n)
def i_loopsIn_3 (p0 : Int) (c0 : (List Int)) : Option ((List Int)) :=
 Option.bind (appS 8 c0 ([p0] : List Int)) fun x6 =>
 some (x6 : (List Int))
def i_loopsIn_1__i_loopsIn_3__i_loopsIn_1_b0 (rc : Int → (List (List Int)) → (List Int) → (List Bool) → (List Bool) → Option ((List Int) × (List Bool))) (p1 : (List (List Int))) (c1 : (List Bool)) (x16 : (List Int)) (v19 : Int) (s1 : (List Int) × (List Bool)) : Option (((List Int) × (List Bool)) ⊕ (((List Int) × (List Bool)) ⊕ ((List Int) × (List Bool)))) :=
 Option.bind (idx x16 v19) fun x21 =>
 Option.bind (idx c1 x21) fun x25 =>
 Option.bind (bif x25 then
 Option.bind (idx s1.2 x21) fun x30 =>
 some (!x30)
 else
 some false) fun p33 =>
 Option.bind (bif p33 then
  Option.bind (rc x21 p1 s1.1 s1.2 c1) fun x38 =>
  some ((x38.1 : (List Int)), (x38.2 : (List Bool)))
 else
  some ((s1.1 : (List Int)), (s1.2 : (List Bool)))) fun q4 =>
 some (.inr (.inr ((q4.1 : (List Int)), (q4.2 : (List Bool)))))
def i_loopsIn_1__i_loopsIn_3__i_loopsIn_1_s (rc : Int → (List (List Int)) → (List Int) → (List Bool) → (List Bool) → Option ((List Int) × (List Bool))) (p0 : Int) (p1 : (List (List Int))) (c2_0 : (List Int)) (c0 : (List Bool)) (c1 : (List Bool)) : Option ((List Int) × (List Bool)) :=
 Option.bind (idx c0 p0) fun x13 =>
 Option.bind (setI c0 p0 true) fun y110 =>
 Option.bind (idx p1 p0) fun x16 =>
 Option.bind (cntM (i_loopsIn_1__i_loopsIn_3__i_loopsIn_1_b0 rc p1 c1 x16) x16.length 0 ((c2_0 : (List Int)), (y110 : (List Bool)))) fun q2 =>
 aft (fun r => some r) (fun s3 =>
  Option.bind (i_loopsIn_3 p0 s3.1) fun x42 =>
  some ((x42 : (List Int)), (s3.2 : (List Bool)))) q2
def i_loopsIn_1__i_loopsIn_3__i_loopsIn_1 : Nat → Int → (List (List Int)) → (List Int) → (List Bool) → (List Bool) → Option ((List Int) × (List Bool))
 | 0 => fun _ _ _ _ _ => none
 | n + 1 => i_loopsIn_1__i_loopsIn_3__i_loopsIn_1_s (i_loopsIn_1__i_loopsIn_3__i_loopsIn_1 n)
def slices_Sort_I_int64 (p0 : (List Int)) : Option (List Int) :=
 if 0 < p0.length ∧ p0.length < 4611686018427387904 then some (p0.mergeSort fun x y => decide (x ≤ y)) else if p0.length = 0 then some p0 else none
def slices_SortFunc_I_I (p0 : (List (List Int))) : Option (List (List Int)) :=
 if p0.length < 4611686018427387904 ∧ (p0.all fun l => !l.isEmpty) = true then some (p0.mergeSort leI) else none
def i_loopsIn_b2 (p1 : (List Bool)) (v23 : Int) (x26 : (List Int)) (v30 : Int) (s4 : (List (List Int))) : Option ((List (List Int)) ⊕ (((List (List Int))) ⊕ ((List (List Int))))) :=
 Option.bind (idx x26 v30) fun x32 =>
 Option.bind (idx p1 v23) fun x36 =>
 Option.bind (bif x36 then
 Option.bind (idx p1 x32) fun x41 =>
 some x41
 else
 some false) fun p43 =>
 Option.bind (bif p43 then
  Option.bind (idx s4 x32) fun x48 =>
  Option.bind (appS 8 x48 ([v23] : List Int)) fun x52 =>
  Option.bind (idx s4 x32) fun x53 =>
  Option.bind (setI s4 x32 (x52 : (List Int))) fun y106 =>
  some (y106 : (List (List Int)))
 else
  some (s4 : (List (List Int)))) fun q7 =>
 some (.inr (.inr (q7 : (List (List Int)))))
def i_loopsIn_b0 (p0 : (List (List Int))) (p1 : (List Bool)) (v23 : Int) (s1 : (List (List Int))) : Option ((List (List Int)) ⊕ (((List (List Int))) ⊕ ((List (List Int))))) :=
 Option.bind (idx p0 v23) fun x26 =>
 Option.bind (cntM (i_loopsIn_b2 p1 v23 x26) x26.length 0 (s1 : (List (List Int)))) fun q5 =>
 aft (fun r => some (.inl r)) (fun s6 =>
  some (.inr (.inr (s6 : (List (List Int)))))) q5
def i_loopsIn_b4 (p0 : (List (List Int))) (p1 : (List Bool)) (v63 : Int) (s8 : (List Int) × (List Bool)) : Option ((List (List Int)) ⊕ (((List Int) × (List Bool)) ⊕ ((List Int) × (List Bool)))) :=
 Option.bind (idx p1 v63) fun x68 =>
 Option.bind (bif x68 then
 Option.bind (idx s8.2 v63) fun x73 =>
 some (!x73)
 else
 some false) fun p76 =>
 Option.bind (bif p76 then
  Option.bind (i_loopsIn_1__i_loopsIn_2__i_loopsIn_1 (2 ^ 64) v63 p0 s8.1 s8.2 p1) fun x81 =>
  some ((x81.1 : (List Int)), (x81.2 : (List Bool)))
 else
  some ((s8.1 : (List Int)), (s8.2 : (List Bool)))) fun q11 =>
 some (.inr (.inr ((q11.1 : (List Int)), (q11.2 : (List Bool)))))
def i_loopsIn_b6 (p0 : (List (List Int))) (p1 : (List Bool)) (s3 : (List (List Int))) (s10 : (List Int) × (List Bool)) (s12 : (List (List Int)) × Int × (List Bool)) : Option ((List (List Int)) ⊕ (((List (List Int)) × Int × (List Bool)) ⊕ ((List (List Int)) × Int × (List Bool)))) :=
 bif decide (0 ≤ s12.2.1) then
  Option.bind (idx s10.1 s12.2.1) fun x96 =>
  Option.bind (idx s12.2.2 x96) fun x100 =>
  bif x100 then
   some (.inr (.inr ((s12.1 : (List (List Int))), ((IntKind.i64.wrap (s12.2.1 - 1)) : Int), (s12.2.2 : (List Bool)))))
  else
   Option.bind (i_loopsIn_1__i_loopsIn_3__i_loopsIn_1 (2 ^ 64) x96 s3 ([] : List Int) s12.2.2 p1) fun x107 =>
   Option.bind (slices_Sort_I_int64 x107.1) fun x109 =>
   Option.bind (bif decide (1 < (x107.1.length : Int)) then
   some true
   else
   Option.bind (idx p0 x96) fun x116 =>
   Option.bind (slices_Contains_I_int64 x116 x96) fun x119 =>
   some x119) fun p120 =>
   Option.bind (bif p120 then
    Option.bind (appS 24 s12.1 ([x109] : List (List Int))) fun x124 =>
    some (x124 : (List (List Int)))
   else
    some (s12.1 : (List (List Int)))) fun q15 =>
   some (.inr (.inr ((q15 : (List (List Int))), ((IntKind.i64.wrap (s12.2.1 - 1)) : Int), (x107.2 : (List Bool)))))
 else
  some (.inr (.inl ((s12.1 : (List (List Int))), (s12.2.1 : Int), (s12.2.2 : (List Bool)))))
def i_loopsIn (p0 : (List (List Int))) (p1 : (List Bool)) : Option ((List (List Int))) :=
 Option.bind (mkS 24 (p0.length : Int) (([] : List Int) : (List Int))) fun x20 =>
 Option.bind (cntM (i_loopsIn_b0 p0 p1) p0.length 0 (x20 : (List (List Int)))) fun q2 =>
 aft (fun r => some r) (fun s3 =>
  Option.bind (mkS 1 (p0.length : Int) (false : Bool)) fun x58 =>
  Option.bind (cntM (i_loopsIn_b4 p0 p1) p0.length 0 ((([] : List Int) : (List Int)), (x58 : (List Bool)))) fun q9 =>
  aft (fun r => some r) (fun s10 =>
   Option.bind (mkS 1 (p0.length : Int) (false : Bool)) fun x85 =>
   Option.bind (whileM (i_loopsIn_b6 p0 p1 s3 s10) (2 ^ 64) ((([] : List (List Int)) : (List (List Int))), ((IntKind.i64.wrap ((s10.1.length : Int) - 1)) : Int), (x85 : (List Bool)))) fun q13 =>
   aft (fun r => some r) (fun s14 =>
    Option.bind (slices_SortFunc_I_I s14.1) fun x126 =>
    some (x126 : (List (List Int)))) q13) q9) q2
def i_watch_targets_b2 (p1 : Pair) (x23 : (List Int)) (v27 : Int) (s4 : (List Int)) : Option ((List Int) ⊕ (((List Int)) ⊕ ((List Int)))) :=
 Option.bind (idx x23 v27) fun x29 =>
 Option.bind (slices_Contains_I_int64 p1.Ask x29) fun x34 =>
 Option.bind (bif x34 then
  Option.bind (appS 8 s4 ([x29] : List Int)) fun x38 =>
  some (x38 : (List Int))
 else
  some (s4 : (List Int))) fun q7 =>
 some (.inr (.inr (q7 : (List Int))))
def i_watch_targets_b0 (p1 : Pair) (x19 : (List (List Int))) (v21 : Int) (s1 : (List Int)) : Option ((List Int) ⊕ (((List Int)) ⊕ ((List Int)))) :=
 Option.bind (idx x19 v21) fun x23 =>
 Option.bind (cntM (i_watch_targets_b2 p1 x23) x23.length 0 (s1 : (List Int))) fun q5 =>
 aft (fun r => some (.inl r)) (fun s6 =>
  some (.inr (.inr (s6 : (List Int))))) q5
def i_watch_targets (p0 : watch) (p1 : Pair) : Option ((List Int)) :=
 Option.bind (i_watch_outside p0 p1.Give) fun x18 =>
 Option.bind (i_loopsIn p0.next x18) fun x19 =>
 Option.bind (cntM (i_watch_targets_b0 p1 x19) x19.length 0 (([] : List Int) : (List Int))) fun q2 =>
 aft (fun r => some r) (fun s3 =>
  Option.bind (slices_Sort_I_int64 s3) fun x42 =>
  some (x42 : (List Int))) q2
def i_watch_broken_b0 (p0 : watch) (v12 : Int) (s1 : (List Int)) : Option ((List Int) ⊕ (((List Int)) ⊕ ((List Int)))) :=
 Option.bind (idx p0.pairs v12) fun x15 =>
 Option.bind (i_watch_targets p0 x15) fun x19 =>
 Option.bind (bif decide (0 < (x19.length : Int)) then
  Option.bind (appS 8 s1 ([v12] : List Int)) fun x25 =>
  some (x25 : (List Int))
 else
  some (s1 : (List Int))) fun q4 =>
 some (.inr (.inr (q4 : (List Int))))
def i_watch_broken (p0 : watch) : Option ((List Int)) :=
 Option.bind (cntM (i_watch_broken_b0 p0) p0.pairs.length 0 (([] : List Int) : (List Int))) fun q2 =>
 aft (fun r => some r) (fun s3 =>
  some (s3 : (List Int))) q2
def i_watch_way_b2 (p0 : watch) (p2 : Int) (p3 : (List Bool)) (x48 : Int) (x57 : (List Int)) (v60 : Int) (s4 : (List Int) × (List Bool) × (List (List Int))) : Option ((List Int) ⊕ (((List Int) × (List Bool) × (List (List Int))) ⊕ ((List Int) × (List Bool) × (List (List Int))))) :=
 Option.bind (idx x57 v60) fun x63 =>
 Option.bind (idx p3 x63) fun x67 =>
 Option.bind (bif (!x67) then
 some true
 else
 Option.bind (idx s4.2.1 x63) fun x73 =>
 some x73) fun p75 =>
 bif p75 then
  some (.inr (.inr ((s4.1 : (List Int)), (s4.2.1 : (List Bool)), (s4.2.2 : (List (List Int))))))
 else
  Option.bind (idx s4.2.1 x63) fun x78 =>
  Option.bind (setI s4.2.1 x63 true) fun y135 =>
  Option.bind (idx s4.2.2 x48) fun x84 =>
  Option.bind (idx p0.letters x48) fun x92 =>
  Option.bind (idx x92 v60) fun x95 =>
  Option.bind (appS 8 ([] : List Int) x84) fun x86 =>
  Option.bind (appS 8 x86 ([x95] : List Int)) fun x98 =>
  Option.bind (idx s4.2.2 x63) fun x99 =>
  Option.bind (setI s4.2.2 x63 (x98 : (List Int))) fun y138 =>
  bif (x63 == p2) then
   Option.bind (idx y138 x63) fun x105 =>
   some (.inl (x105 : (List Int)))
  else
   Option.bind (appS 8 s4.1 ([x63] : List Int)) fun x110 =>
   some (.inr (.inr ((x110 : (List Int)), (y135 : (List Bool)), (y138 : (List (List Int))))))
def i_watch_way_b0 (p0 : watch) (p2 : Int) (p3 : (List Bool)) (s1 : (List Int) × (List Bool) × (List (List Int))) : Option ((List Int) ⊕ (((List Int) × (List Bool) × (List (List Int))) ⊕ ((List Int) × (List Bool) × (List (List Int))))) :=
 bif decide (0 < (s1.1.length : Int)) then
  Option.bind (idx s1.1 0) fun x48 =>
  Option.bind (subS s1.1 1 (s1.1.length : Int)) fun x51 =>
  Option.bind (idx p0.next x48) fun x57 =>
  Option.bind (cntM (i_watch_way_b2 p0 p2 p3 x48 x57) x57.length 0 ((x51 : (List Int)), (s1.2.1 : (List Bool)), (s1.2.2 : (List (List Int))))) fun q5 =>
  aft (fun r => some (.inl r)) (fun s6 =>
   some (.inr (.inr ((s6.1 : (List Int)), (s6.2.1 : (List Bool)), (s6.2.2 : (List (List Int))))))) q5
 else
  some (.inr (.inl ((s1.1 : (List Int)), (s1.2.1 : (List Bool)), (s1.2.2 : (List (List Int))))))
def i_watch_way (p0 : watch) (p1 : Int) (p2 : Int) (p3 : (List Bool)) (p4 : Bool) : Option ((List Int)) :=
 Option.bind (bif (p1 == p2) then
 some (!p4)
 else
 some false) fun p23 =>
 bif p23 then
  some (([] : List Int) : (List Int))
 else
  Option.bind (mkS 1 (p0.next.length : Int) (false : Bool)) fun x29 =>
  Option.bind (idx x29 p1) fun x35 =>
  Option.bind (setI x29 p1 (p1 != p2)) fun y132 =>
  Option.bind (mkS 24 (p0.next.length : Int) (([] : List Int) : (List Int))) fun x41 =>
  Option.bind (whileM (i_watch_way_b0 p0 p2 p3) (2 ^ 64) ((([p1] : List Int) : (List Int)), (y132 : (List Bool)), (x41 : (List (List Int))))) fun q2 =>
  aft (fun r => some r) (fun s3 =>
   some (([] : List Int) : (List Int))) q2
def i_watch_counterexample (p0 : watch) (p1 : Pair) : Option (Word) :=
 Option.bind (i_watch_targets p0 p1) fun x8 =>
 Option.bind (idx x8 0) fun x9 =>
 Option.bind (i_watch_outside p0 []) fun x14 =>
 Option.bind (i_watch_way p0 0 x9 x14 false) fun x15 =>
 Option.bind (i_watch_outside p0 p1.Give) fun x22 =>
 Option.bind (i_watch_way p0 x9 x9 x22 true) fun x23 =>
 some ((⟨x15, x23⟩ : Word) : Word)
def i_BreakOf (p0 : Sig) (p1 : Machine) (p2 : (List Clause)) : Option (Word × Bool) :=
 Option.bind (i_watchAll p0 p1 p2) fun x15 =>
 bif (!x15.2) then
  some (((⟨([] : List Int), ([] : List Int)⟩ : Word) : Word), (false : Bool))
 else
  Option.bind (guardS x15.1.isSome) fun _g95 =>
  Option.bind (i_watch_broken (x15.1.getD (⟨([] : List (List Int)), ([] : List (List Int)), ([] : List Pair)⟩ : watch))) fun x22 =>
  bif ((x22.length : Int) == 0) then
   some (((⟨([] : List Int), ([] : List Int)⟩ : Word) : Word), (false : Bool))
  else
   Option.bind (idx x22 0) fun x33 =>
   Option.bind (idx ((x15.1.getD (⟨([] : List (List Int)), ([] : List (List Int)), ([] : List Pair)⟩ : watch)).pairs) x33) fun x35 =>
   Option.bind (i_watch_counterexample (x15.1.getD (⟨([] : List (List Int)), ([] : List (List Int)), ([] : List Pair)⟩ : watch)) x35) fun x37 =>
   some ((x37 : Word), (true : Bool))
def s_l1In (p0 : Int) (p1 : Int) (p2 : Int) : Option (Bool) :=
 Option.bind (bif decide (p1 ≤ p0) then
 some (decide (p0 ≤ p2))
 else
 some false) fun p14 =>
 some (p14 : Bool)
def s_SigOk (p0 : Sig) : Option (Bool) :=
 Option.bind (s_l1In p0.In 1 2) fun x5 =>
 Option.bind (bif x5 then
 Option.bind (s_l1In p0.Out 1 2) fun x9 =>
 some x9
 else
 some false) fun p10 =>
 some (p10 : Bool)
def s_l23Power_b0  (s1 : Int × Int) : Option (Int ⊕ ((Int × Int) ⊕ (Int × Int))) :=
 bif decide (0 < s1.1) then
  some (.inr (.inr (((IntKind.i64.wrap (s1.1 - 1)) : Int), ((IntKind.i64.wrap (s1.2 * 2)) : Int))))
 else
  some (.inr (.inl ((s1.1 : Int), (s1.2 : Int))))
def s_l23Power (p0 : Int) : Option (Int) :=
 Option.bind (whileM s_l23Power_b0 (2 ^ 64) ((p0 : Int), (1 : Int))) fun q2 =>
 aft (fun r => some r) (fun s3 =>
  some (s3.2 : Int)) q2
def s_LettersOf (p0 : Sig) : Option (Int) :=
 Option.bind (s_SigOk p0) fun x4 =>
 bif (!x4) then
  some (0 : Int)
 else
  Option.bind (s_l23Power (IntKind.i64.wrap (p0.In + p0.Out))) fun x11 =>
  some (x11 : Int)
def s_l1Rises_b0 (p0 : (List Int)) (p1 : Int) (v5 : Int) (s1 : Unit) : Option (Bool ⊕ ((Unit) ⊕ (Unit))) :=
 Option.bind (idx p0 v5) fun x14 =>
 Option.bind (s_l1In x14 0 (IntKind.i64.wrap (p1 - 1))) fun x18 =>
 Option.bind (bif (!x18) then
 some true
 else
 Option.bind (bif decide (0 < v5) then
 Option.bind (idx p0 v5) fun x26 =>
 Option.bind (idx p0 (IntKind.i64.wrap (v5 - 1))) fun x31 =>
 some (decide (x26 ≤ x31))
 else
 some false) fun p34 =>
 some p34) fun p35 =>
 bif p35 then
  some (.inl (false : Bool))
 else
  some (.inr (.inr ()))
def s_l1Rises (p0 : (List Int)) (p1 : Int) : Option (Bool) :=
 Option.bind (cntM (s_l1Rises_b0 p0 p1) p0.length 0 ()) fun q2 =>
 aft (fun r => some r) (fun s3 =>
  some (true : Bool)) q2
def s_l1Set (p0 : (List Int)) (p1 : Int) : Option (Bool) :=
 Option.bind (bif decide ((p0.length : Int) ≤ p1) then
 Option.bind (s_l1Rises p0 p1) fun x12 =>
 some x12
 else
 some false) fun p13 =>
 some (p13 : Bool)
def s_l24Both (p0 : Int) : Option (Bool) :=
 Option.bind (bif (p0 == 2) then
 some true
 else
 some (p0 == 3)) fun p8 =>
 Option.bind (bif p8 then
 some true
 else
 some (p0 == 7)) fun p12 =>
 some (p12 : Bool)
def s_ClauseOk (p0 : Sig) (p1 : Clause) : Option (Bool) :=
 Option.bind (s_SigOk p0) fun x7 =>
 Option.bind (bif (!x7) then
 some true
 else
 Option.bind (s_l1In p1.Kind 1 7) fun x12 =>
 some (!x12)) fun p14 =>
 bif p14 then
  some (false : Bool)
 else
  Option.bind (s_LettersOf p0) fun x16 =>
  Option.bind (s_l1Set p1.A x16) fun x20 =>
  Option.bind (bif x20 then
  Option.bind (s_l1Set p1.B x16) fun x25 =>
  some x25
  else
  some false) fun p26 =>
  Option.bind (bif p26 then
  Option.bind (s_l24Both p1.Kind) fun x30 =>
  Option.bind (bif x30 then
  some true
  else
  some ((p1.B.length : Int) == 0)) fun p36 =>
  some p36
  else
  some false) fun p37 =>
  some (p37 : Bool)
def s_ClausesOk_b0 (p0 : Sig) (p1 : (List Clause)) (v5 : Int) (s1 : Unit) : Option (Bool ⊕ ((Unit) ⊕ (Unit))) :=
 Option.bind (idx p1 v5) fun x23 =>
 Option.bind (s_ClauseOk p0 x23) fun x25 =>
 bif (!x25) then
  some (.inl (false : Bool))
 else
  some (.inr (.inr ()))
def s_ClausesOk (p0 : Sig) (p1 : (List Clause)) : Option (Bool) :=
 Option.bind (s_SigOk p0) fun x7 =>
 Option.bind (bif (!x7) then
 some true
 else
 some (decide (3 < (p1.length : Int)))) fun p13 =>
 bif p13 then
  some (false : Bool)
 else
  Option.bind (cntM (s_ClausesOk_b0 p0 p1) p1.length 0 ()) fun q2 =>
  aft (fun r => some r) (fun s3 =>
   some (true : Bool)) q2
def s_l25Pair (p0 : Int) : Option (Pair) :=
 Option.bind (bif (p0 == 1) then
  some (true : Bool)
 else
  some ((p0 == 5) : Bool)) fun q1 =>
 bif q1 then
  some ((⟨([1] : List Int), ([] : List Int)⟩ : Pair) : Pair)
 else
  bif (p0 == 2) then
   some ((⟨([2] : List Int), ([] : List Int)⟩ : Pair) : Pair)
  else
   bif (p0 == 3) then
    some ((⟨([1] : List Int), ([0] : List Int)⟩ : Pair) : Pair)
   else
    bif (p0 == 4) then
     some ((⟨([0, 1] : List Int), ([1] : List Int)⟩ : Pair) : Pair)
    else
     bif (p0 == 6) then
      some ((⟨([0] : List Int), ([] : List Int)⟩ : Pair) : Pair)
     else
      some ((⟨([2, 3] : List Int), ([1, 3] : List Int)⟩ : Pair) : Pair)
def s_l25States (p0 : Int) : Option (Int) :=
 bif (p0 == 2) then
  some (3 : Int)
 else
  bif (p0 == 7) then
   some (4 : Int)
  else
   some (2 : Int)
def s_l1Has_b0 (p0 : (List Int)) (p1 : Int) (v5 : Int) (s1 : Unit) : Option (Bool ⊕ ((Unit) ⊕ (Unit))) :=
 Option.bind (idx p0 v5) fun x14 =>
 bif (x14 == p1) then
  some (.inl (true : Bool))
 else
  some (.inr (.inr ()))
def s_l1Has (p0 : (List Int)) (p1 : Int) : Option (Bool) :=
 Option.bind (cntM (s_l1Has_b0 p0 p1) p0.length 0 ()) fun q2 =>
 aft (fun r => some r) (fun s3 =>
  some (false : Bool)) q2
def s_l1Flag (p0 : Bool) : Option (Int) :=
 bif p0 then
  some (1 : Int)
 else
  some (0 : Int)
def s_l1Max (p0 : Int) (p1 : Int) : Option (Int) :=
 bif decide (p1 < p0) then
  some (p0 : Int)
 else
  some (p1 : Int)
def s_l25Next (p0 : Clause) (p1 : Int) (p2 : Int) : Option (Int) :=
 Option.bind (s_l1Has p0.A p2) fun x12 =>
 Option.bind (s_l1Flag x12) fun x13 =>
 Option.bind (s_l1Has p0.B p2) fun x17 =>
 Option.bind (s_l1Flag x17) fun x18 =>
 bif (p0.Kind == 1) then
  Option.bind (s_l1Max p1 (IntKind.i64.wrap (1 - x13))) fun x26 =>
  some (x26 : Int)
 else
  bif (p0.Kind == 2) then
   Option.bind (bif (p1 == 2) then
   some true
   else
   Option.bind (bif (p1 == 1) then
   some (x18 == 0)
   else
   some false) fun p37 =>
   some p37) fun p38 =>
   bif p38 then
    some (2 : Int)
   else
    some (x13 : Int)
  else
   bif (p0.Kind == 3) then
    bif (x18 == 1) then
     some (0 : Int)
    else
     Option.bind (s_l1Max p1 x13) fun x46 =>
     some (x46 : Int)
   else
    bif (p0.Kind == 4) then
     some (x13 : Int)
    else
     bif (p0.Kind == 5) then
      some ((IntKind.i64.wrap (1 - x13)) : Int)
     else
      bif (p0.Kind == 6) then
       Option.bind (s_l1Max p1 x13) fun x58 =>
       some (x58 : Int)
      else
       some ((IntKind.i64.wrap ((IntKind.i64.wrap (2 * x13)) + x18)) : Int)
def s_MonitorOf_b2 (p0 : Sig) (p1 : Clause) (s1 : Int × (List (List Int))) (s4 : (List Int) × Int) : Option (Det ⊕ (((List Int) × Int) ⊕ ((List Int) × Int))) :=
 Option.bind (s_LettersOf p0) fun x29 =>
 bif decide (s4.2 < x29) then
  Option.bind (s_l25Next p1 s1.1 s4.2) fun x37 =>
  Option.bind (appS 8 s4.1 ([x37] : List Int)) fun x39 =>
  some (.inr (.inr ((x39 : (List Int)), ((IntKind.i64.wrap (s4.2 + 1)) : Int))))
 else
  some (.inr (.inl ((s4.1 : (List Int)), (s4.2 : Int))))
def s_MonitorOf_b0 (p0 : Sig) (p1 : Clause) (s1 : Int × (List (List Int))) : Option (Det ⊕ ((Int × (List (List Int))) ⊕ (Int × (List (List Int))))) :=
 Option.bind (s_l25States p1.Kind) fun x22 =>
 bif decide (s1.1 < x22) then
  Option.bind (whileM (s_MonitorOf_b2 p0 p1 s1) (2 ^ 64) ((([] : List Int) : (List Int)), (0 : Int))) fun q5 =>
  aft (fun r => some (.inl r)) (fun s6 =>
   Option.bind (appS 24 s1.2 ([s6.1] : List (List Int))) fun x44 =>
   some (.inr (.inr (((IntKind.i64.wrap (s1.1 + 1)) : Int), (x44 : (List (List Int))))))) q5
 else
  some (.inr (.inl ((s1.1 : Int), (s1.2 : (List (List Int))))))
def s_MonitorOf (p0 : Sig) (p1 : Clause) : Option (Det) :=
 Option.bind (s_ClauseOk p0 p1) fun x11 =>
 bif (!x11) then
  some ((⟨([] : List (List Int)), ([] : List Pair)⟩ : Det) : Det)
 else
  Option.bind (s_l25Pair p1.Kind) fun x16 =>
  Option.bind (whileM (s_MonitorOf_b0 p0 p1) (2 ^ 64) ((0 : Int), (([] : List (List Int)) : (List (List Int))))) fun q2 =>
  aft (fun r => some r) (fun s3 =>
   some ((⟨s3.2, ([x16] : List Pair)⟩ : Det) : Det)) q2
def s_l23Below_b0 (p0 : (List Int)) (p1 : Int) (v5 : Int) (s1 : Unit) : Option (Bool ⊕ ((Unit) ⊕ (Unit))) :=
 Option.bind (idx p0 v5) fun x14 =>
 Option.bind (s_l1In x14 0 (IntKind.i64.wrap (p1 - 1))) fun x18 =>
 bif (!x18) then
  some (.inl (false : Bool))
 else
  some (.inr (.inr ()))
def s_l23Below (p0 : (List Int)) (p1 : Int) : Option (Bool) :=
 Option.bind (cntM (s_l23Below_b0 p0 p1) p0.length 0 ()) fun q2 =>
 aft (fun r => some r) (fun s3 =>
  some (true : Bool)) q2
def s_SetOk (p0 : (List Int)) (p1 : Int) : Option (Bool) :=
 Option.bind (s_l1In p1 0 256) fun x6 =>
 Option.bind (bif x6 then
 Option.bind (s_l1Set p0 p1) fun x10 =>
 some x10
 else
 some false) fun p11 =>
 some (p11 : Bool)
def s_PairsOk_b0 (p0 : (List Pair)) (p1 : Int) (v5 : Int) (s1 : Unit) : Option (Bool ⊕ ((Unit) ⊕ (Unit))) :=
 Option.bind (idx p0 v5) fun x22 =>
 Option.bind (s_SetOk x22.Ask p1) fun x26 =>
 Option.bind (bif (!x26) then
 some true
 else
 Option.bind (idx p0 v5) fun x31 =>
 Option.bind (s_SetOk x31.Give p1) fun x35 =>
 some (!x35)) fun p37 =>
 bif p37 then
  some (.inl (false : Bool))
 else
  some (.inr (.inr ()))
def s_PairsOk (p0 : (List Pair)) (p1 : Int) : Option (Bool) :=
 Option.bind (s_l1In p1 0 256) fun x7 =>
 Option.bind (bif (!x7) then
 some true
 else
 some (decide (4 < (p0.length : Int)))) fun p13 =>
 bif p13 then
  some (false : Bool)
 else
  Option.bind (cntM (s_PairsOk_b0 p0 p1) p0.length 0 ()) fun q2 =>
  aft (fun r => some r) (fun s3 =>
   some (true : Bool)) q2
def s_DetOk_b0 (p0 : Sig) (p1 : Det) (v6 : Int) (s1 : Unit) : Option (Bool ⊕ ((Unit) ⊕ (Unit))) :=
 Option.bind (idx p1.Next v6) fun x28 =>
 Option.bind (s_LettersOf p0) fun x32 =>
 Option.bind (bif ((x28.length : Int) != x32) then
 some true
 else
 Option.bind (idx p1.Next v6) fun x38 =>
 Option.bind (s_l23Below x38 (p1.Next.length : Int)) fun x41 =>
 some (!x41)) fun p43 =>
 bif p43 then
  some (.inl (false : Bool))
 else
  some (.inr (.inr ()))
def s_DetOk (p0 : Sig) (p1 : Det) : Option (Bool) :=
 Option.bind (s_SigOk p0) fun x11 =>
 Option.bind (bif (!x11) then
 some true
 else
 Option.bind (s_l1In (p1.Next.length : Int) 1 48) fun x15 =>
 some (!x15)) fun p17 =>
 bif p17 then
  some (false : Bool)
 else
  Option.bind (cntM (s_DetOk_b0 p0 p1) p1.Next.length 0 ()) fun q2 =>
  aft (fun r => some r) (fun s3 =>
   Option.bind (s_PairsOk p1.Pairs (p1.Next.length : Int)) fun x47 =>
   some (x47 : Bool)) q2
def s_l26Place_b0 (p0 : (List (List Int))) (p1 : Int) (p2 : Int) (v7 : Int) (s1 : Unit) : Option (Int ⊕ ((Unit) ⊕ (Unit))) :=
 Option.bind (idx p0 v7) fun x16 =>
 Option.bind (idx x16 0) fun x18 =>
 Option.bind (bif (x18 == p1) then
 Option.bind (idx p0 v7) fun x25 =>
 Option.bind (idx x25 1) fun x27 =>
 some (x27 == p2)
 else
 some false) fun p31 =>
 bif p31 then
  some (.inl (v7 : Int))
 else
  some (.inr (.inr ()))
def s_l26Place (p0 : (List (List Int))) (p1 : Int) (p2 : Int) : Option (Int) :=
 Option.bind (cntM (s_l26Place_b0 p0 p1 p2) p0.length 0 ()) fun q2 =>
 aft (fun r => some r) (fun s3 =>
  some ((-1) : Int)) q2
def s_l26Pairs_b2 (p0 : (List Pair)) (p1 : (List (List Int))) (p2 : Int) (v8 : Int) (v10 : Int) (s4 : (List Int) × (List Int)) : Option ((List Pair) ⊕ (((List Int) × (List Int)) ⊕ ((List Int) × (List Int)))) :=
 Option.bind (idx p0 v8) fun x27 =>
 Option.bind (idx p1 v10) fun x32 =>
 Option.bind (idx x32 p2) fun x35 =>
 Option.bind (s_l1Has x27.Ask x35) fun x37 =>
 Option.bind (bif x37 then
  Option.bind (appS 8 s4.1 ([v10] : List Int)) fun x42 =>
  some (x42 : (List Int))
 else
  some (s4.1 : (List Int))) fun q7 =>
 Option.bind (idx p0 v8) fun x46 =>
 Option.bind (idx p1 v10) fun x51 =>
 Option.bind (idx x51 p2) fun x54 =>
 Option.bind (s_l1Has x46.Give x54) fun x56 =>
 Option.bind (bif x56 then
  Option.bind (appS 8 s4.2 ([v10] : List Int)) fun x61 =>
  some (x61 : (List Int))
 else
  some (s4.2 : (List Int))) fun q8 =>
 some (.inr (.inr ((q7 : (List Int)), (q8 : (List Int)))))
def s_l26Pairs_b0 (p0 : (List Pair)) (p1 : (List (List Int))) (p2 : Int) (v8 : Int) (s1 : (List Pair)) : Option ((List Pair) ⊕ (((List Pair)) ⊕ ((List Pair)))) :=
 Option.bind (cntM (s_l26Pairs_b2 p0 p1 p2 v8) p1.length 0 ((([] : List Int) : (List Int)), (([] : List Int) : (List Int)))) fun q5 =>
 aft (fun r => some (.inl r)) (fun s6 =>
  Option.bind (appS 48 s1 ([(⟨s6.1, s6.2⟩ : Pair)] : List Pair)) fun x66 =>
  some (.inr (.inr (x66 : (List Pair))))) q5
def s_l26Pairs (p0 : (List Pair)) (p1 : (List (List Int))) (p2 : Int) : Option ((List Pair)) :=
 Option.bind (cntM (s_l26Pairs_b0 p0 p1 p2) p0.length 0 (([] : List Pair) : (List Pair))) fun q2 =>
 aft (fun r => some r) (fun s3 =>
  some (s3 : (List Pair))) q2
def s_l26Joined_b2 (p0 : Det) (p1 : Det) (s1 : (List (List Int)) × Int × (List (List Int))) (v12 : Int) (s4 : (List (List Int)) × (List Int)) : Option ((Det × Bool) ⊕ (((List (List Int)) × (List Int)) ⊕ ((List (List Int)) × (List Int)))) :=
 Option.bind (idx s4.1 s1.2.1) fun x35 =>
 Option.bind (idx x35 0) fun x37 =>
 Option.bind (idx p0.Next x37) fun x39 =>
 Option.bind (idx x39 v12) fun x42 =>
 Option.bind (idx s4.1 s1.2.1) fun x48 =>
 Option.bind (idx x48 1) fun x50 =>
 Option.bind (idx p1.Next x50) fun x52 =>
 Option.bind (idx x52 v12) fun x55 =>
 Option.bind (s_l26Place s4.1 x42 x55) fun x60 =>
 Option.bind (bif decide (x60 < 0) then
  Option.bind (appS 24 s4.1 ([([x42, x55] : List Int)] : List (List Int))) fun x70 =>
  some ((x70 : (List (List Int))), ((s4.1.length : Int) : Int))
 else
  some ((s4.1 : (List (List Int))), (x60 : Int))) fun q7 =>
 Option.bind (appS 8 s4.2 ([q7.2] : List Int)) fun x74 =>
 some (.inr (.inr ((q7.1 : (List (List Int))), (x74 : (List Int)))))
def s_l26Joined_b0 (p0 : Det) (p1 : Det) (p2 : Int) (s1 : (List (List Int)) × Int × (List (List Int))) : Option ((Det × Bool) ⊕ (((List (List Int)) × Int × (List (List Int))) ⊕ ((List (List Int)) × Int × (List (List Int))))) :=
 bif decide (s1.2.1 < (s1.1.length : Int)) then
  Option.bind (rng p2) fun _ =>
  Option.bind (cntM (s_l26Joined_b2 p0 p1 s1) (Int.toNat (p2 - 0)) 0 ((s1.1 : (List (List Int))), (([] : List Int) : (List Int)))) fun q5 =>
  aft (fun r => some (.inl r)) (fun s6 =>
   bif decide (48 < (s6.1.length : Int)) then
    some (.inl (((⟨([] : List (List Int)), ([] : List Pair)⟩ : Det) : Det), (false : Bool)))
   else
    Option.bind (appS 24 s1.2.2 ([s6.2] : List (List Int))) fun x83 =>
    some (.inr (.inr ((s6.1 : (List (List Int))), ((IntKind.i64.wrap (s1.2.1 + 1)) : Int), (x83 : (List (List Int))))))) q5
 else
  some (.inr (.inl ((s1.1 : (List (List Int))), (s1.2.1 : Int), (s1.2.2 : (List (List Int))))))
def s_l26Joined (p0 : Det) (p1 : Det) (p2 : Int) : Option (Det × Bool) :=
 Option.bind (whileM (s_l26Joined_b0 p0 p1 p2) (2 ^ 64) ((([([0, 0] : List Int)] : List (List Int)) : (List (List Int))), (0 : Int), (([] : List (List Int)) : (List (List Int))))) fun q2 =>
 aft (fun r => some r) (fun s3 =>
  Option.bind (s_l26Pairs p0.Pairs s3.1 0) fun x88 =>
  Option.bind (s_l26Pairs p1.Pairs s3.1 1) fun x92 =>
  Option.bind (appS 48 x88 x92) fun x93 =>
  some (((⟨s3.2.2, x93⟩ : Det) : Det), (true : Bool))) q2
def s_JoinedDet (p0 : Sig) (p1 : Det) (p2 : Det) : Option (Det × Bool) :=
 Option.bind (s_DetOk p0 p1) fun x10 =>
 Option.bind (bif (!x10) then
 some true
 else
 Option.bind (s_DetOk p0 p2) fun x15 =>
 some (!x15)) fun p17 =>
 Option.bind (bif p17 then
 some true
 else
 some (decide (4 < (IntKind.i64.wrap ((p1.Pairs.length : Int) + (p2.Pairs.length : Int)))))) fun p27 =>
 bif p27 then
  some (((⟨([] : List (List Int)), ([] : List Pair)⟩ : Det) : Det), (false : Bool))
 else
  Option.bind (s_LettersOf p0) fun x32 =>
  Option.bind (s_l26Joined p1 p2 x32) fun x33 =>
  some ((x33.1 : Det), (x33.2 : Bool))
def s_ProductOf_b0 (p0 : Sig) (p1 : (List Clause)) (v7 : Int) (s1 : (List (List Int)) × (List Pair)) : Option ((Det × Bool) ⊕ (((List (List Int)) × (List Pair)) ⊕ ((List (List Int)) × (List Pair)))) :=
 Option.bind (idx p1 v7) fun x32 =>
 Option.bind (s_MonitorOf p0 x32) fun x34 =>
 Option.bind (s_JoinedDet p0 (⟨s1.1, s1.2⟩ : Det) x34) fun x35 =>
 bif (!x35.2) then
  some (.inl (((⟨([] : List (List Int)), ([] : List Pair)⟩ : Det) : Det), (false : Bool)))
 else
  some (.inr (.inr ((x35.1.Next : (List (List Int))), (x35.1.Pairs : (List Pair)))))
def s_ProductOf (p0 : Sig) (p1 : (List Clause)) : Option (Det × Bool) :=
 Option.bind (s_ClausesOk p0 p1) fun x12 =>
 bif (!x12) then
  some (((⟨([] : List (List Int)), ([] : List Pair)⟩ : Det) : Det), (false : Bool))
 else
  Option.bind (s_LettersOf p0) fun x16 =>
  Option.bind (mkS 8 x16 (0 : Int)) fun x17 =>
  Option.bind (cntM (s_ProductOf_b0 p0 p1) p1.length 0 ((([x17] : List (List Int)) : (List (List Int))), (([] : List Pair) : (List Pair)))) fun q2 =>
  aft (fun r => some r) (fun s3 =>
   some (((⟨s3.1, s3.2⟩ : Det) : Det), (true : Bool))) q2
def s_l29Ins (p0 : Sig) : Option (Int) :=
 Option.bind (s_l23Power p0.In) fun x5 =>
 some (x5 : Int)
def s_MachineOk_b0 (p0 : Sig) (p1 : Machine) (v6 : Int) (s1 : Unit) : Option (Bool ⊕ ((Unit) ⊕ (Unit))) :=
 Option.bind (idx p1.Next v6) fun x37 =>
 Option.bind (s_l29Ins p0) fun x41 =>
 Option.bind (bif ((x37.length : Int) != x41) then
 some true
 else
 Option.bind (idx p1.Out v6) fun x47 =>
 Option.bind (idx p1.Next v6) fun x53 =>
 some ((x47.length : Int) != (x53.length : Int))) fun p57 =>
 Option.bind (bif p57 then
 some true
 else
 Option.bind (idx p1.Next v6) fun x62 =>
 Option.bind (s_l23Below x62 (p1.Next.length : Int)) fun x65 =>
 some (!x65)) fun p67 =>
 Option.bind (bif p67 then
 some true
 else
 Option.bind (idx p1.Out v6) fun x72 =>
 Option.bind (s_l23Power p0.Out) fun x76 =>
 Option.bind (s_l23Below x72 x76) fun x77 =>
 some (!x77)) fun p79 =>
 bif p79 then
  some (.inl (false : Bool))
 else
  some (.inr (.inr ()))
def s_MachineOk (p0 : Sig) (p1 : Machine) : Option (Bool) :=
 Option.bind (s_SigOk p0) fun x11 =>
 Option.bind (bif (!x11) then
 some true
 else
 Option.bind (s_l1In (p1.Next.length : Int) 1 48) fun x15 =>
 some (!x15)) fun p17 =>
 Option.bind (bif p17 then
 some true
 else
 some ((p1.Out.length : Int) != (p1.Next.length : Int))) fun p26 =>
 bif p26 then
  some (false : Bool)
 else
  Option.bind (cntM (s_MachineOk_b0 p0 p1) p1.Next.length 0 ()) fun q2 =>
  aft (fun r => some r) (fun s3 =>
   some (true : Bool)) q2
def s_l30Find_b0 (p0 : l30Graph) (p1 : Int) (p2 : Int) (v7 : Int) (s1 : Unit) : Option ((Int × (List Int) × (List Int)) ⊕ ((Unit) ⊕ (Unit))) :=
 Option.bind (idx p0.of v7) fun x22 =>
 Option.bind (bif (x22 == p1) then
 Option.bind (idx p0.by0 v7) fun x32 =>
 some (x32 == p2)
 else
 some false) fun p36 =>
 bif p36 then
  some (.inl ((v7 : Int), (p0.of : (List Int)), (p0.by0 : (List Int))))
 else
  some (.inr (.inr ()))
def s_l30Find (p0 : l30Graph) (p1 : Int) (p2 : Int) : Option (Int × (List Int) × (List Int)) :=
 Option.bind (cntM (s_l30Find_b0 p0 p1 p2) p0.of.length 0 ()) fun q2 =>
 aft (fun r => some r) (fun s3 =>
  Option.bind (appS 8 p0.of ([p1] : List Int)) fun x45 =>
  Option.bind (appS 8 p0.by0 ([p2] : List Int)) fun x55 =>
  some (((IntKind.i64.wrap ((x45.length : Int) - 1)) : Int), (x45 : (List Int)), (x55 : (List Int)))) q2
def s_l30Watch_b2 (p0 : Sig) (p1 : Machine) (p2 : Det) (s1 : Int × (List Int) × (List Int) × (List (List Int)) × (List (List Int))) (s4 : (List Int) × (List Int) × Int × (List Int) × (List Int)) : Option ((l30Graph × Bool) ⊕ (((List Int) × (List Int) × Int × (List Int) × (List Int)) ⊕ ((List Int) × (List Int) × Int × (List Int) × (List Int)))) :=
 Option.bind (s_l29Ins p0) fun x31 =>
 bif decide (s4.2.2.1 < x31) then
  Option.bind (idx s4.2.2.2.1 s1.1) fun x42 =>
  Option.bind (idx p1.Out x42) fun x44 =>
  Option.bind (idx x44 s4.2.2.1) fun x47 =>
  Option.bind (s_l29Ins p0) fun x50 =>
  Option.bind (idx s4.2.2.2.1 s1.1) fun x63 =>
  Option.bind (idx p1.Next x63) fun x65 =>
  Option.bind (idx x65 s4.2.2.1) fun x68 =>
  Option.bind (idx s4.2.2.2.2 s1.1) fun x77 =>
  Option.bind (idx p2.Next x77) fun x79 =>
  Option.bind (idx x79 (IntKind.i64.wrap ((IntKind.i64.wrap (x47 * x50)) + s4.2.2.1))) fun x82 =>
  Option.bind (s_l30Find (⟨s4.2.2.2.1, s4.2.2.2.2, s1.2.2.2.1, s1.2.2.2.2⟩ : l30Graph) x68 x82) fun x84 =>
  Option.bind (appS 8 s4.1 ([x84.1] : List Int)) fun x86 =>
  Option.bind (appS 8 s4.2.1 ([(IntKind.i64.wrap ((IntKind.i64.wrap (x47 * x50)) + s4.2.2.1))] : List Int)) fun x90 =>
  some (.inr (.inr ((x86 : (List Int)), (x90 : (List Int)), ((IntKind.i64.wrap (s4.2.2.1 + 1)) : Int), (x84.2.1 : (List Int)), (x84.2.2 : (List Int)))))
 else
  some (.inr (.inl ((s4.1 : (List Int)), (s4.2.1 : (List Int)), (s4.2.2.1 : Int), (s4.2.2.2.1 : (List Int)), (s4.2.2.2.2 : (List Int)))))
def s_l30Watch_b0 (p0 : Sig) (p1 : Machine) (p2 : Det) (s1 : Int × (List Int) × (List Int) × (List (List Int)) × (List (List Int))) : Option ((l30Graph × Bool) ⊕ ((Int × (List Int) × (List Int) × (List (List Int)) × (List (List Int))) ⊕ (Int × (List Int) × (List Int) × (List (List Int)) × (List (List Int))))) :=
 bif decide (s1.1 < (s1.2.1.length : Int)) then
  Option.bind (whileM (s_l30Watch_b2 p0 p1 p2 s1) (2 ^ 64) ((([] : List Int) : (List Int)), (([] : List Int) : (List Int)), (0 : Int), (s1.2.1 : (List Int)), (s1.2.2.1 : (List Int)))) fun q5 =>
  aft (fun r => some (.inl r)) (fun s6 =>
   bif decide (256 < (s6.2.2.2.1.length : Int)) then
    some (.inl (((⟨([] : List Int), ([] : List Int), ([] : List (List Int)), ([] : List (List Int))⟩ : l30Graph) : l30Graph), (false : Bool)))
   else
    Option.bind (appS 24 s1.2.2.2.1 ([s6.1] : List (List Int))) fun x105 =>
    Option.bind (appS 24 s1.2.2.2.2 ([s6.2.1] : List (List Int))) fun x115 =>
    some (.inr (.inr (((IntKind.i64.wrap (s1.1 + 1)) : Int), (s6.2.2.2.1 : (List Int)), (s6.2.2.2.2 : (List Int)), (x105 : (List (List Int))), (x115 : (List (List Int))))))) q5
 else
  some (.inr (.inl ((s1.1 : Int), (s1.2.1 : (List Int)), (s1.2.2.1 : (List Int)), (s1.2.2.2.1 : (List (List Int))), (s1.2.2.2.2 : (List (List Int))))))
def s_l30Watch (p0 : Sig) (p1 : Machine) (p2 : Det) : Option (l30Graph × Bool) :=
 Option.bind (s_l30Find (⟨([] : List Int), ([] : List Int), ([] : List (List Int)), ([] : List (List Int))⟩ : l30Graph) 0 0) fun x17 =>
 Option.bind (whileM (s_l30Watch_b0 p0 p1 p2) (2 ^ 64) ((0 : Int), (x17.2.1 : (List Int)), (x17.2.2 : (List Int)), (([] : List (List Int)) : (List (List Int))), (([] : List (List Int)) : (List (List Int))))) fun q2 =>
 aft (fun r => some r) (fun s3 =>
  some (((⟨s3.2.1, s3.2.2.1, s3.2.2.2.1, s3.2.2.2.2⟩ : l30Graph) : l30Graph), (true : Bool))) q2
def s_l30Part_b0 (p0 : l30Graph) (p1 : (List Int)) (v6 : Int) (s1 : (List Int)) : Option ((List Int) ⊕ (((List Int)) ⊕ ((List Int)))) :=
 Option.bind (idx p0.by0 v6) fun x19 =>
 Option.bind (s_l1Has p1 x19) fun x21 =>
 Option.bind (bif x21 then
  Option.bind (appS 8 s1 ([v6] : List Int)) fun x25 =>
  some (x25 : (List Int))
 else
  some (s1 : (List Int))) fun q4 =>
 some (.inr (.inr (q4 : (List Int))))
def s_l30Part (p0 : l30Graph) (p1 : (List Int)) : Option ((List Int)) :=
 Option.bind (cntM (s_l30Part_b0 p0 p1) p0.by0.length 0 (([] : List Int) : (List Int))) fun q2 =>
 aft (fun r => some r) (fun s3 =>
  some (s3 : (List Int))) q2
def s_WatchOf_b0 (p2 : Det) (x29 : l30Graph × Bool) (v12 : Int) (s1 : (List Pair)) : Option (((List (List Int)) × (List Pair) × Bool) ⊕ (((List Pair)) ⊕ ((List Pair)))) :=
 Option.bind (idx p2.Pairs v12) fun x49 =>
 Option.bind (idx p2.Pairs v12) fun x57 =>
 Option.bind (s_l30Part x29.1 x49.Ask) fun x52 =>
 Option.bind (s_l30Part x29.1 x57.Give) fun x60 =>
 Option.bind (appS 48 s1 ([(⟨x52, x60⟩ : Pair)] : List Pair)) fun x63 =>
 some (.inr (.inr (x63 : (List Pair))))
def s_WatchOf (p0 : Sig) (p1 : Machine) (p2 : Det) : Option ((List (List Int)) × (List Pair) × Bool) :=
 Option.bind (s_MachineOk p0 p1) fun x15 =>
 Option.bind (bif (!x15) then
 some true
 else
 Option.bind (s_DetOk p0 p2) fun x20 =>
 some (!x20)) fun p22 =>
 bif p22 then
  some ((([] : List (List Int)) : (List (List Int))), (([] : List Pair) : (List Pair)), (false : Bool))
 else
  Option.bind (s_l30Watch p0 p1 p2) fun x29 =>
  bif (!x29.2) then
   some ((([] : List (List Int)) : (List (List Int))), (([] : List Pair) : (List Pair)), (false : Bool))
  else
   Option.bind (cntM (s_WatchOf_b0 p2 x29) p2.Pairs.length 0 (([] : List Pair) : (List Pair))) fun q2 =>
   aft (fun r => some r) (fun s3 =>
    some ((x29.1.next : (List (List Int))), (s3 : (List Pair)), (true : Bool))) q2
def s_l30All (p0 : Sig) (p1 : Machine) (p2 : (List Clause)) : Option ((List (List Int)) × (List Pair) × Bool) :=
 Option.bind (s_ProductOf p0 p2) fun x14 =>
 bif (!x14.2) then
  some ((([] : List (List Int)) : (List (List Int))), (([] : List Pair) : (List Pair)), (false : Bool))
 else
  Option.bind (s_WatchOf p0 p1 x14.1) fun x24 =>
  some ((x24.1 : (List (List Int))), (x24.2.1 : (List Pair)), (x24.2.2 : Bool))
def s_l30May_b0 (p1 : (List Int)) (v6 : Int) (s1 : (List Bool)) : Option ((List Bool) ⊕ (((List Bool)) ⊕ ((List Bool)))) :=
 Option.bind (s_l1Has p1 v6) fun x16 =>
 Option.bind (appS 1 s1 ([(!x16)] : List Bool)) fun x19 =>
 some (.inr (.inr (x19 : (List Bool))))
def s_l30May (p0 : Int) (p1 : (List Int)) : Option ((List Bool)) :=
 Option.bind (rng p0) fun _ =>
 Option.bind (cntM (s_l30May_b0 p1) (Int.toNat (p0 - 0)) 0 (([] : List Bool) : (List Bool))) fun q2 =>
 aft (fun r => some r) (fun s3 =>
  some (s3 : (List Bool))) q2
def s_l30Far_b0  (v8 : Int) (s1 : (List Int)) : Option ((List Int) ⊕ (((List Int)) ⊕ ((List Int)))) :=
 Option.bind (appS 8 s1 ([(-1)] : List Int)) fun x21 =>
 some (.inr (.inr (x21 : (List Int))))
def s_l30Far_b6 (p0 : (List (List Int))) (p1 : (List Bool)) (v9 : Int) (v10 : Int) (s10 : Int × (List Int)) : Option ((List Int) ⊕ ((Int × (List Int)) ⊕ (Int × (List Int)))) :=
 Option.bind (idx p0 v10) fun x40 =>
 Option.bind (bif decide (s10.1 < (x40.length : Int)) then
 Option.bind (idx s10.2 v10) fun x47 =>
 some (decide (x47 < 0))
 else
 some false) fun p50 =>
 Option.bind (bif p50 then
 Option.bind (idx p1 v10) fun x54 =>
 some x54
 else
 some false) fun p56 =>
 bif p56 then
  Option.bind (idx p0 v10) fun x62 =>
  Option.bind (idx x62 s10.1) fun x65 =>
  Option.bind (idx s10.2 x65) fun x67 =>
  Option.bind (bif (x67 == v9) then
   Option.bind (idx s10.2 v10) fun x75 =>
   Option.bind (setI s10.2 v10 (IntKind.i64.wrap (v9 + 1))) fun y267 =>
   some (y267 : (List Int))
  else
   some (s10.2 : (List Int))) fun q13 =>
  some (.inr (.inr (((IntKind.i64.wrap (s10.1 + 1)) : Int), (q13 : (List Int)))))
 else
  some (.inr (.inl ((s10.1 : Int), (s10.2 : (List Int)))))
def s_l30Far_b4 (p0 : (List (List Int))) (p1 : (List Bool)) (v9 : Int) (v10 : Int) (s7 : (List Int)) : Option ((List Int) ⊕ (((List Int)) ⊕ ((List Int)))) :=
 Option.bind (whileM (s_l30Far_b6 p0 p1 v9 v10) (2 ^ 64) ((0 : Int), (s7 : (List Int)))) fun q11 =>
 aft (fun r => some (.inl r)) (fun s12 =>
  some (.inr (.inr (s12.2 : (List Int))))) q11
def s_l30Far_b2 (p0 : (List (List Int))) (p1 : (List Bool)) (v9 : Int) (s4 : (List Int)) : Option ((List Int) ⊕ (((List Int)) ⊕ ((List Int)))) :=
 Option.bind (cntM (s_l30Far_b4 p0 p1 v9) p0.length 0 (s4 : (List Int))) fun q8 =>
 aft (fun r => some (.inl r)) (fun s9 =>
  some (.inr (.inr (s9 : (List Int))))) q8
def s_l30Far (p0 : (List (List Int))) (p1 : (List Bool)) (p2 : Int) : Option ((List Int)) :=
 Option.bind (cntM s_l30Far_b0 p0.length 0 (([] : List Int) : (List Int))) fun q2 =>
 aft (fun r => some r) (fun s3 =>
  Option.bind (idx s3 p2) fun x24 =>
  Option.bind (setI s3 p2 0) fun y266 =>
  Option.bind (cntM (s_l30Far_b2 p0 p1) p0.length 0 (y266 : (List Int))) fun q5 =>
  aft (fun r => some r) (fun s6 =>
   some (s6 : (List Int))) q5) q2
def s_l30Returns_b0 (p0 : (List (List Int))) (p1 : (List Int)) (p2 : Int) (s1 : Int) : Option (Bool ⊕ ((Int) ⊕ (Int))) :=
 Option.bind (idx p0 p2) fun x11 =>
 bif decide (s1 < (x11.length : Int)) then
  Option.bind (idx p0 p2) fun x20 =>
  Option.bind (idx x20 s1) fun x23 =>
  Option.bind (idx p1 x23) fun x25 =>
  bif decide (0 ≤ x25) then
   some (.inl (true : Bool))
  else
   some (.inr (.inr ((IntKind.i64.wrap (s1 + 1)) : Int)))
 else
  some (.inr (.inl (s1 : Int)))
def s_l30Returns (p0 : (List (List Int))) (p1 : (List Int)) (p2 : Int) : Option (Bool) :=
 Option.bind (whileM (s_l30Returns_b0 p0 p1 p2) (2 ^ 64) (0 : Int)) fun q2 =>
 aft (fun r => some r) (fun s3 =>
  some (false : Bool)) q2
def s_l30Broken_b0 (p0 : (List (List Int))) (p1 : Pair) (x12 : (List Bool)) (v6 : Int) (s1 : Unit) : Option (Int ⊕ ((Unit) ⊕ (Unit))) :=
 Option.bind (idx p1.Ask v6) fun x23 =>
 Option.bind (idx x12 x23) fun x27 =>
 Option.bind (bif x27 then
 Option.bind (s_l30Far p0 x12 x23) fun x34 =>
 Option.bind (s_l30Returns p0 x34 x23) fun x36 =>
 some x36
 else
 some false) fun p37 =>
 bif p37 then
  some (.inl (x23 : Int))
 else
  some (.inr (.inr ()))
def s_l30Broken (p0 : (List (List Int))) (p1 : Pair) : Option (Int) :=
 Option.bind (s_l30May (p0.length : Int) p1.Give) fun x12 =>
 Option.bind (cntM (s_l30Broken_b0 p0 p1 x12) p1.Ask.length 0 ()) fun q2 =>
 aft (fun r => some r) (fun s3 =>
  some ((-1) : Int)) q2
def s_BreaksIn_b0 (x17 : (List (List Int)) × (List Pair) × Bool) (s1 : (List Int) × Int) : Option ((List Int) ⊕ (((List Int) × Int) ⊕ ((List Int) × Int))) :=
 Option.bind (bif x17.2.2 then
 some (decide (s1.2 < (x17.2.1.length : Int)))
 else
 some false) fun p27 =>
 bif p27 then
  Option.bind (idx x17.2.1 s1.2) fun x33 =>
  Option.bind (s_l30Broken x17.1 x33) fun x35 =>
  Option.bind (bif decide (0 ≤ x35) then
   Option.bind (appS 8 s1.1 ([s1.2] : List Int)) fun x40 =>
   some (x40 : (List Int))
  else
   some (s1.1 : (List Int))) fun q4 =>
  some (.inr (.inr ((q4 : (List Int)), ((IntKind.i64.wrap (s1.2 + 1)) : Int))))
 else
  some (.inr (.inl ((s1.1 : (List Int)), (s1.2 : Int))))
def s_BreaksIn (p0 : Sig) (p1 : Machine) (p2 : (List Clause)) : Option ((List Int)) :=
 Option.bind (s_l30All p0 p1 p2) fun x17 =>
 Option.bind (whileM (s_BreaksIn_b0 x17) (2 ^ 64) ((([] : List Int) : (List Int)), (0 : Int))) fun q2 =>
 aft (fun r => some r) (fun s3 =>
  some (s3.1 : (List Int))) q2
def s_l23Word (p0 : Word) (p1 : Int) : Option (Bool) :=
 Option.bind (bif decide (600 < (p0.Stem.length : Int)) then
 some true
 else
 some (decide (600 < (p0.Loop.length : Int)))) fun p14 =>
 Option.bind (bif p14 then
 some true
 else
 some ((p0.Loop.length : Int) == 0)) fun p20 =>
 bif p20 then
  some (false : Bool)
 else
  Option.bind (s_l23Below p0.Stem p1) fun x24 =>
  Option.bind (bif x24 then
  Option.bind (s_l23Below p0.Loop p1) fun x29 =>
  some x29
  else
  some false) fun p30 =>
  some (p30 : Bool)
def s_WordOk (p0 : Sig) (p1 : Word) : Option (Bool) :=
 Option.bind (s_SigOk p0) fun x6 =>
 Option.bind (bif x6 then
 Option.bind (s_LettersOf p0) fun x10 =>
 Option.bind (s_l23Word p1 x10) fun x11 =>
 some x11
 else
 some false) fun p12 =>
 some (p12 : Bool)
def s_l1Copy (p0 : (List Int)) : Option ((List Int)) :=
 Option.bind (appS 8 ([] : List Int) p0) fun x5 =>
 some (x5 : (List Int))
def s_l24Each_b0 (p0 : (List Int)) (p1 : (List Int)) (v5 : Int) (s1 : Unit) : Option (Bool ⊕ ((Unit) ⊕ (Unit))) :=
 Option.bind (idx p0 v5) fun x15 =>
 Option.bind (s_l1Has p1 x15) fun x17 =>
 bif (!x17) then
  some (.inl (false : Bool))
 else
  some (.inr (.inr ()))
def s_l24Each (p0 : (List Int)) (p1 : (List Int)) : Option (Bool) :=
 Option.bind (cntM (s_l24Each_b0 p0 p1) p0.length 0 ()) fun q2 =>
 aft (fun r => some r) (fun s3 =>
  some (true : Bool)) q2
def s_l24Next_b0 (p0 : Clause) (p1 : (List Int)) (p2 : Int) (v7 : Int) (s1 : Unit) : Option (Bool ⊕ ((Unit) ⊕ (Unit))) :=
 Option.bind (bif decide ((IntKind.i64.wrap (v7 + 1)) < (p1.length : Int)) then
  some ((IntKind.i64.wrap (v7 + 1)) : Int)
 else
  some (p2 : Int)) fun q4 =>
 Option.bind (idx p1 v7) fun x27 =>
 Option.bind (s_l1Has p0.A x27) fun x29 =>
 Option.bind (bif x29 then
 Option.bind (idx p1 q4) fun x35 =>
 Option.bind (s_l1Has p0.B x35) fun x37 =>
 some (!x37)
 else
 some false) fun p39 =>
 bif p39 then
  some (.inl (false : Bool))
 else
  some (.inr (.inr ()))
def s_l24Next (p0 : Clause) (p1 : (List Int)) (p2 : Int) : Option (Bool) :=
 Option.bind (cntM (s_l24Next_b0 p0 p1 p2) p1.length 0 ()) fun q2 =>
 aft (fun r => some r) (fun s3 =>
  some (true : Bool)) q2
def s_l24Some_b0 (p0 : (List Int)) (p1 : (List Int)) (v5 : Int) (s1 : Unit) : Option (Bool ⊕ ((Unit) ⊕ (Unit))) :=
 Option.bind (idx p0 v5) fun x15 =>
 Option.bind (s_l1Has p1 x15) fun x17 =>
 bif x17 then
  some (.inl (true : Bool))
 else
  some (.inr (.inr ()))
def s_l24Some (p0 : (List Int)) (p1 : (List Int)) : Option (Bool) :=
 Option.bind (cntM (s_l24Some_b0 p0 p1) p0.length 0 ()) fun q2 =>
 aft (fun r => some r) (fun s3 =>
  some (false : Bool)) q2
def s_l24Answer_b0 (p0 : Clause) (p2 : (List Int)) (v7 : Int) (s1 : Unit) : Option (Bool ⊕ ((Unit) ⊕ (Unit))) :=
 Option.bind (idx p2 v7) fun x23 =>
 Option.bind (s_l1Has p0.A x23) fun x25 =>
 Option.bind (bif x25 then
 Option.bind (subS p2 v7 (p2.length : Int)) fun x29 =>
 Option.bind (s_l24Some x29 p0.B) fun x32 =>
 some (!x32)
 else
 some false) fun p34 =>
 bif p34 then
  some (.inl (false : Bool))
 else
  some (.inr (.inr ()))
def s_l24Answer (p0 : Clause) (p1 : Word) (p2 : (List Int)) : Option (Bool) :=
 Option.bind (s_l24Some p1.Loop p0.B) fun x12 =>
 bif x12 then
  some (true : Bool)
 else
  Option.bind (cntM (s_l24Answer_b0 p0 p2) p2.length 0 ()) fun q2 =>
  aft (fun r => some r) (fun s3 =>
   some (true : Bool)) q2
def s_HoldsOn (p0 : Sig) (p1 : Clause) (p2 : Word) : Option (Bool) :=
 Option.bind (s_ClauseOk p0 p1) fun x10 =>
 Option.bind (bif (!x10) then
 some true
 else
 Option.bind (s_WordOk p0 p2) fun x15 =>
 some (!x15)) fun p17 =>
 bif p17 then
  some (false : Bool)
 else
  Option.bind (s_l1Copy p2.Stem) fun x20 =>
  Option.bind (appS 8 x20 p2.Loop) fun x23 =>
  bif (p1.Kind == 1) then
   Option.bind (s_l24Each x23 p1.A) fun x31 =>
   some (x31 : Bool)
  else
   bif (p1.Kind == 2) then
    Option.bind (s_l24Next p1 x23 (p2.Stem.length : Int)) fun x39 =>
    some (x39 : Bool)
   else
    bif (p1.Kind == 3) then
     Option.bind (s_l24Answer p1 p2 x23) fun x45 =>
     some (x45 : Bool)
    else
     bif (p1.Kind == 4) then
      Option.bind (s_l24Some p2.Loop p1.A) fun x52 =>
      some (x52 : Bool)
     else
      bif (p1.Kind == 5) then
       Option.bind (s_l24Each p2.Loop p1.A) fun x59 =>
       some (x59 : Bool)
      else
       bif (p1.Kind == 6) then
        Option.bind (s_l24Some x23 p1.A) fun x65 =>
        some (x65 : Bool)
       else
        Option.bind (s_l24Some p2.Loop p1.A) fun x70 =>
        Option.bind (bif (!x70) then
        some true
        else
        Option.bind (s_l24Some p2.Loop p1.B) fun x77 =>
        some x77) fun p78 =>
        some (p78 : Bool)
def s_InOf (p0 : Sig) (p1 : Int) : Option (Int) :=
 Option.bind (s_LettersOf p0) fun x7 =>
 Option.bind (s_l1In p1 0 (IntKind.i64.wrap (x7 - 1))) fun x9 =>
 bif (!x9) then
  some ((-1) : Int)
 else
  Option.bind (s_l23Power p0.In) fun x14 =>
  Option.bind (nz x14) fun _z15 =>
  some ((Int.tmod p1 x14) : Int)
def s_l29Inputs (p0 : Sig) (p1 : (List Int)) : Option (Bool) :=
 Option.bind (bif decide ((p1.length : Int) ≤ 600) then
 Option.bind (s_l29Ins p0) fun x11 =>
 Option.bind (s_l23Below p1 x11) fun x12 =>
 some x12
 else
 some false) fun p13 =>
 some (p13 : Bool)
def s_l29Behind_b0 (p0 : Machine) (p2 : (List Int)) (v7 : Int) (s1 : Int) : Option (Int ⊕ ((Int) ⊕ (Int))) :=
 Option.bind (idx p2 v7) fun x21 =>
 Option.bind (idx p0.Next s1) fun x17 =>
 Option.bind (idx x17 x21) fun x23 =>
 some (.inr (.inr (x23 : Int)))
def s_l29Behind (p0 : Machine) (p1 : Int) (p2 : (List Int)) : Option (Int) :=
 Option.bind (cntM (s_l29Behind_b0 p0 p2) p2.length 0 (p1 : Int)) fun q2 =>
 aft (fun r => some r) (fun s3 =>
  some (s3 : Int)) q2
def s_l1Place_b0 (p0 : (List Int)) (p1 : Int) (v5 : Int) (s1 : Unit) : Option (Int ⊕ ((Unit) ⊕ (Unit))) :=
 Option.bind (idx p0 v5) fun x14 =>
 bif (x14 == p1) then
  some (.inl (v5 : Int))
 else
  some (.inr (.inr ()))
def s_l1Place (p0 : (List Int)) (p1 : Int) : Option (Int) :=
 Option.bind (cntM (s_l1Place_b0 p0 p1) p0.length 0 ()) fun q2 =>
 aft (fun r => some r) (fun s3 =>
  some ((-1) : Int)) q2
def s_l29Letters_b0 (p0 : Sig) (p1 : Machine) (p3 : (List Int)) (v10 : Int) (s1 : Int × (List Int)) : Option ((List Int) ⊕ ((Int × (List Int)) ⊕ (Int × (List Int)))) :=
 Option.bind (idx p3 v10) fun x26 =>
 Option.bind (idx p3 v10) fun x35 =>
 Option.bind (idx p1.Out s1.1) fun x22 =>
 Option.bind (idx x22 x26) fun x28 =>
 Option.bind (s_l29Ins p0) fun x31 =>
 Option.bind (appS 8 s1.2 ([(IntKind.i64.wrap ((IntKind.i64.wrap (x28 * x31)) + x35))] : List Int)) fun x39 =>
 Option.bind (idx p3 v10) fun x47 =>
 Option.bind (idx p1.Next s1.1) fun x43 =>
 Option.bind (idx x43 x47) fun x49 =>
 some (.inr (.inr ((x49 : Int), (x39 : (List Int)))))
def s_l29Letters (p0 : Sig) (p1 : Machine) (p2 : Int) (p3 : (List Int)) : Option ((List Int)) :=
 Option.bind (cntM (s_l29Letters_b0 p0 p1 p3) p3.length 0 ((p2 : Int), (([] : List Int) : (List Int)))) fun q2 =>
 aft (fun r => some r) (fun s3 =>
  some (s3.2 : (List Int))) q2
def s_RunWord_b0 (p1 : Machine) (p2 : Word) (s1 : (List Int) × Int) : Option (Word ⊕ (((List Int) × Int) ⊕ ((List Int) × Int))) :=
 Option.bind (s_l1Place s1.1 s1.2) fun x45 =>
 bif decide (x45 < 0) then
  Option.bind (appS 8 s1.1 ([s1.2] : List Int)) fun x50 =>
  Option.bind (s_l29Behind p1 s1.2 p2.Loop) fun x55 =>
  some (.inr (.inr ((x50 : (List Int)), (x55 : Int))))
 else
  some (.inr (.inl ((s1.1 : (List Int)), (s1.2 : Int))))
def s_RunWord_b2 (p0 : Sig) (p1 : Machine) (p2 : Word) (s3 : (List Int) × Int) (x58 : Int) (v11 : Int) (s4 : (List Int) × (List Int)) : Option (Word ⊕ (((List Int) × (List Int)) ⊕ ((List Int) × (List Int)))) :=
 Option.bind (idx s3.1 v11) fun x75 =>
 Option.bind (s_l29Letters p0 p1 x75 p2.Loop) fun x79 =>
 Option.bind (bif decide (v11 < x58) then
  Option.bind (appS 8 s4.1 x79) fun x86 =>
  some ((x86 : (List Int)), (s4.2 : (List Int)))
 else
  Option.bind (appS 8 s4.2 x79) fun x91 =>
  some ((s4.1 : (List Int)), (x91 : (List Int)))) fun q7 =>
 some (.inr (.inr ((q7.1 : (List Int)), (q7.2 : (List Int)))))
def s_RunWord (p0 : Sig) (p1 : Machine) (p2 : Word) : Option (Word) :=
 Option.bind (s_MachineOk p0 p1) fun x15 =>
 Option.bind (bif (!x15) then
 some true
 else
 Option.bind (s_l29Inputs p0 p2.Stem) fun x21 =>
 some (!x21)) fun p23 =>
 Option.bind (bif p23 then
 some true
 else
 Option.bind (s_l29Inputs p0 p2.Loop) fun x28 =>
 some (!x28)) fun p30 =>
 Option.bind (bif p30 then
 some true
 else
 some ((p2.Loop.length : Int) == 0)) fun p36 =>
 bif p36 then
  some ((⟨([] : List Int), ([] : List Int)⟩ : Word) : Word)
 else
  Option.bind (s_l29Behind p1 0 p2.Stem) fun x42 =>
  Option.bind (whileM (s_RunWord_b0 p1 p2) (2 ^ 64) ((([] : List Int) : (List Int)), (x42 : Int))) fun q2 =>
  aft (fun r => some r) (fun s3 =>
   Option.bind (s_l1Place s3.1 s3.2) fun x58 =>
   Option.bind (s_l29Letters p0 p1 0 p2.Stem) fun x63 =>
   Option.bind (cntM (s_RunWord_b2 p0 p1 p2 s3 x58) s3.1.length 0 ((x63 : (List Int)), (([] : List Int) : (List Int)))) fun q5 =>
   aft (fun r => some r) (fun s6 =>
    Option.bind (bif decide (600 < (s6.1.length : Int)) then
    some true
    else
    some (decide (600 < (s6.2.length : Int)))) fun p102 =>
    bif p102 then
     some ((⟨([] : List Int), ([] : List Int)⟩ : Word) : Word)
    else
     some ((⟨s6.1, s6.2⟩ : Word) : Word)) q5) q2
def s_l23Fine (p0 : Word) : Option (Bool) :=
 Option.bind (s_l23Word p0 16) fun x4 =>
 some (x4 : Bool)
def s_l23At (p0 : Word) (p1 : Int) : Option (Int) :=
 bif decide (p1 < (p0.Stem.length : Int)) then
  Option.bind (idx p0.Stem p1) fun x15 =>
  some (x15 : Int)
 else
  Option.bind (nz (p0.Loop.length : Int)) fun _z25 =>
  Option.bind (idx p0.Loop (Int.tmod (IntKind.i64.wrap (p1 - (p0.Stem.length : Int))) (p0.Loop.length : Int))) fun x26 =>
  some (x26 : Int)
def s_SameWord_b0 (p0 : Word) (p1 : Word) (v6 : Int) (s1 : Unit) : Option (Bool ⊕ ((Unit) ⊕ (Unit))) :=
 Option.bind (s_l23At p0 v6) fun x37 =>
 Option.bind (s_l23At p1 v6) fun x40 =>
 bif (x37 != x40) then
  some (.inl (false : Bool))
 else
  some (.inr (.inr ()))
def s_SameWord (p0 : Word) (p1 : Word) : Option (Bool) :=
 Option.bind (s_l23Fine p0) fun x8 =>
 Option.bind (bif (!x8) then
 some true
 else
 Option.bind (s_l23Fine p1) fun x12 =>
 some (!x12)) fun p14 =>
 bif p14 then
  some (false : Bool)
 else
  Option.bind (s_l1Max (p0.Stem.length : Int) (p1.Stem.length : Int)) fun x21 =>
  Option.bind (rng (IntKind.i64.wrap ((IntKind.i64.wrap (x21 + (p0.Loop.length : Int))) + (p1.Loop.length : Int)))) fun _ =>
  Option.bind (cntM (s_SameWord_b0 p0 p1) (Int.toNat ((IntKind.i64.wrap ((IntKind.i64.wrap (x21 + (p0.Loop.length : Int))) + (p1.Loop.length : Int))) - 0)) 0 ()) fun q2 =>
  aft (fun r => some r) (fun s3 =>
   some (true : Bool)) q2
def l_FnBreaks_b0 (x27 : Word × Bool) (v11 : Int) (s1 : (List Int)) : Option (Bool ⊕ (((List Int)) ⊕ ((List Int)))) :=
 Option.bind (idx x27.1.Stem v11) fun x79 =>
 Option.bind (s_InOf (⟨1, 1⟩ : Sig) x79) fun x81 =>
 Option.bind (appS 8 s1 ([x81] : List Int)) fun x83 =>
 some (.inr (.inr (x83 : (List Int))))
def l_FnBreaks_b2 (x27 : Word × Bool) (v12 : Int) (s4 : (List Int)) : Option (Bool ⊕ (((List Int)) ⊕ ((List Int)))) :=
 Option.bind (idx x27.1.Loop v12) fun x98 =>
 Option.bind (s_InOf (⟨1, 1⟩ : Sig) x98) fun x100 =>
 Option.bind (appS 8 s4 ([x100] : List Int)) fun x102 =>
 some (.inr (.inr (x102 : (List Int))))
def l_FnBreaks (p0 : (List Int)) : Option (Bool) :=
 Option.bind (l_big p0) fun x14 =>
 bif x14 then
  some (true : Bool)
 else
  Option.bind (l_roll p0 931) fun x16 =>
  Option.bind (l_w9Machine x16 (⟨1, 1⟩ : Sig) 4) fun x20 =>
  Option.bind (l_w9Clauses (⟨x16.b, x20.2.1, x20.2.2⟩ : dice) 2) fun x22 =>
  Option.bind (i_BreakOf (⟨1, 1⟩ : Sig) x20.1 x22.1) fun x27 =>
  Option.bind (s_BreaksIn (⟨1, 1⟩ : Sig) x20.1 x22.1) fun x33 =>
  bif (!x27.2) then
   Option.bind (bif ((x33.length : Int) == 0) then
   some ((x27.1.Loop.length : Int) == 0)
   else
   some false) fun p44 =>
   some (p44 : Bool)
  else
   Option.bind (bif ((x33.length : Int) == 0) then
   some true
   else
   Option.bind (s_WordOk (⟨1, 1⟩ : Sig) x27.1) fun x51 =>
   some (!x51)) fun p53 =>
   Option.bind (bif p53 then
   some true
   else
   Option.bind (idx x33 0) fun x58 =>
   Option.bind (idx x22.1 x58) fun x60 =>
   Option.bind (s_HoldsOn (⟨1, 1⟩ : Sig) x60 x27.1) fun x63 =>
   some x63) fun p64 =>
   bif p64 then
    some (false : Bool)
   else
    Option.bind (cntM (l_FnBreaks_b0 x27) x27.1.Stem.length 0 (([] : List Int) : (List Int))) fun q2 =>
    aft (fun r => some r) (fun s3 =>
     Option.bind (cntM (l_FnBreaks_b2 x27) x27.1.Loop.length 0 (([] : List Int) : (List Int))) fun q5 =>
     aft (fun r => some r) (fun s6 =>
      Option.bind (s_RunWord (⟨1, 1⟩ : Sig) x20.1 (⟨s3, s6⟩ : Word)) fun x107 =>
      Option.bind (s_SameWord x107 x27.1) fun x109 =>
      some (x109 : Bool)) q5) q2
def s_l30Way_b2 (p0 : (List (List Int))) (p1 : (List Int)) (s1 : Bool × (List Int) × Int) (s4 : Int × Int) : Option ((List Int) ⊕ ((Int × Int) ⊕ (Int × Int))) :=
 Option.bind (idx p0 s1.2.2) fun x27 =>
 bif decide (s4.2 < (x27.length : Int)) then
  Option.bind (idx p0 s1.2.2) fun x35 =>
  Option.bind (idx x35 s4.2) fun x38 =>
  Option.bind (idx p1 x38) fun x42 =>
  Option.bind (bif decide (0 ≤ x42) then
  Option.bind (bif decide (s4.1 < 0) then
  some true
  else
  Option.bind (idx p1 x38) fun x51 =>
  Option.bind (idx p0 s1.2.2) fun x56 =>
  Option.bind (idx x56 s4.1) fun x59 =>
  Option.bind (idx p1 x59) fun x61 =>
  some (decide (x51 < x61))) fun p64 =>
  some p64
  else
  some false) fun p65 =>
  Option.bind (bif p65 then
   some (s4.2 : Int)
  else
   some (s4.1 : Int)) fun q7 =>
  some (.inr (.inr ((q7 : Int), ((IntKind.i64.wrap (s4.2 + 1)) : Int))))
 else
  some (.inr (.inl ((s4.1 : Int), (s4.2 : Int))))
def s_l30Way_b0 (p0 : (List (List Int))) (p1 : (List Int)) (s1 : Bool × (List Int) × Int) : Option ((List Int) ⊕ ((Bool × (List Int) × Int) ⊕ (Bool × (List Int) × Int))) :=
 Option.bind (bif s1.1 then
 some true
 else
 Option.bind (idx p1 s1.2.2) fun x20 =>
 some (decide (0 < x20))) fun p23 =>
 bif p23 then
  Option.bind (whileM (s_l30Way_b2 p0 p1 s1) (2 ^ 64) (((-1) : Int), (0 : Int))) fun q5 =>
  aft (fun r => some (.inl r)) (fun s6 =>
   Option.bind (appS 8 s1.2.1 ([s6.1] : List Int)) fun x70 =>
   Option.bind (idx p0 s1.2.2) fun x73 =>
   Option.bind (idx x73 s6.1) fun x76 =>
   some (.inr (.inr ((false : Bool), (x70 : (List Int)), (x76 : Int))))) q5
 else
  some (.inr (.inl ((false : Bool), (s1.2.1 : (List Int)), (s1.2.2 : Int))))
def s_l30Way (p0 : (List (List Int))) (p1 : (List Int)) (p2 : Int) (p3 : Bool) : Option ((List Int)) :=
 Option.bind (whileM (s_l30Way_b0 p0 p1) (2 ^ 64) ((p3 : Bool), (([] : List Int) : (List Int)), (p2 : Int))) fun q2 =>
 aft (fun r => some r) (fun s3 =>
  some (s3.2.1 : (List Int))) q2
def s_BreakOf (p0 : Sig) (p1 : Machine) (p2 : (List Clause)) : Option (Word × Bool) :=
 Option.bind (s_BreaksIn p0 p1 p2) fun x20 =>
 bif ((x20.length : Int) == 0) then
  some (((⟨([] : List Int), ([] : List Int)⟩ : Word) : Word), (false : Bool))
 else
  Option.bind (s_l30All p0 p1 p2) fun x29 =>
  Option.bind (idx x20 0) fun x35 =>
  Option.bind (idx x29.2.1 x35) fun x37 =>
  Option.bind (s_l30Broken x29.1 x37) fun x41 =>
  Option.bind (s_l30May (x29.1.length : Int) ([] : List Int)) fun x47 =>
  Option.bind (s_l30Far x29.1 x47 x41) fun x49 =>
  Option.bind (s_l30Way x29.1 x49 0 false) fun x50 =>
  Option.bind (s_l30May (x29.1.length : Int) x37.Give) fun x57 =>
  Option.bind (s_l30Far x29.1 x57 x41) fun x59 =>
  Option.bind (s_l30Way x29.1 x59 x41 true) fun x61 =>
  Option.bind (s_l29Behind p1 0 x50) fun x64 =>
  Option.bind (s_l29Letters p0 p1 0 x50) fun x68 =>
  Option.bind (s_l29Letters p0 p1 x64 x61) fun x73 =>
  some (((⟨x68, x73⟩ : Word) : Word), (true : Bool))
end Go.Proofs.YtcmamhmpoinmnaaGreat
