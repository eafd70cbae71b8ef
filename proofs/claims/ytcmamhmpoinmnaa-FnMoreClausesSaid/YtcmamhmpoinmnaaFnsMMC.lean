/- The functions on data. By program. -/
import Derived.Test.YtcmamhmpoinmnaaTypesMC
import Derived.Test.YtcmamhmpoinmnaaCmpMC
set_option linter.unusedVariables false
set_option linter.unusedSimpArgs false
namespace Go.Proofs.Ytcmamhmpoinmnaa
open Go Go.Wk Go.Proofs
set_option maxRecDepth 100000
set_option maxHeartbeats 1000000
def l_big (p0 : (List Int)) : Option (Bool) :=
 some (decide (4096 < (p0.length : Int)) : Bool)
def l_roll_b0 (p0 : (List Int)) (v6 : Int) (s1 : Int) : Option (dice ⊕ ((Int) ⊕ (Int))) :=
 Option.bind (idx p0 v6) fun x30 =>
 some (.inr (.inr ((IntKind.u64.wrap ((IntKind.u64.wrap ((IntKind.u64.wrap (s1 * 1099511628211)) + (IntKind.u64.wrap x30))) + 3)) : Int)))
def l_roll (p0 : (List Int)) (p1 : Int) : Option (dice) :=
 Option.bind (cntM (l_roll_b0 p0) p0.length 0 ((IntKind.u64.wrap ((IntKind.u64.wrap (p1 * 7919)) + (IntKind.u64.wrap (p0.length : Int)))) : Int)) fun q2 =>
 aft (fun r => some r) (fun s3 =>
  some ((⟨p0, 0, s3⟩ : dice) : dice)) q2
def l_dice_below (p0 : dice) (p1 : Int) : Option (Int × Int × Int) :=
 Option.bind (bif decide (p0.i < (p0.b.length : Int)) then
  Option.bind (idx p0.b p0.i) fun x41 =>
  some (((IntKind.i64.wrap ((IntKind.i64.wrap (IntKind.u64.wrap (BitVec.toNat (BitVec.ofInt (IntKind.bits IntKind.u64) (Int.fdiv (IntKind.u64.wrap ((IntKind.u64.wrap (p0.h * 6364136223846793005)) + 1442695040888963407)) (2 ^ (min (Int.toNat 33) (IntKind.bits IntKind.u64)))) &&& BitVec.ofInt (IntKind.bits IntKind.u64) 16777215)))) + (IntKind.i64.wrap x41))) : Int), ((IntKind.i64.wrap (p0.i + 1)) : Int))
 else
  some (((IntKind.i64.wrap (IntKind.u64.wrap (BitVec.toNat (BitVec.ofInt (IntKind.bits IntKind.u64) (Int.fdiv (IntKind.u64.wrap ((IntKind.u64.wrap (p0.h * 6364136223846793005)) + 1442695040888963407)) (2 ^ (min (Int.toNat 33) (IntKind.bits IntKind.u64)))) &&& BitVec.ofInt (IntKind.bits IntKind.u64) 16777215)))) : Int), (p0.i : Int))) fun q1 =>
 Option.bind (nz p1) fun _z55 =>
 some (((Int.tmod q1.1 p1) : Int), (q1.2 : Int), ((IntKind.u64.wrap ((IntKind.u64.wrap (p0.h * 6364136223846793005)) + 1442695040888963407)) : Int))
def l_w9Machine_b2 (p0 : dice) (x17 : Int × Int × Int) (q2 : Int) (v14 : Int) (s6 : (List Int) × (List Int) × Int × Int) : Option ((Machine × Int × Int) ⊕ (((List Int) × (List Int) × Int × Int) ⊕ ((List Int) × (List Int) × Int × Int))) :=
 Option.bind (l_dice_below (⟨p0.b, s6.2.2.1, s6.2.2.2⟩ : dice) (IntKind.i64.wrap (1 + x17.1))) fun x41 =>
 Option.bind (appS 8 s6.1 ([x41.1] : List Int)) fun x43 =>
 Option.bind (l_dice_below (⟨p0.b, x41.2.1, x41.2.2⟩ : dice) q2) fun x47 =>
 Option.bind (appS 8 s6.2.1 ([x47.1] : List Int)) fun x49 =>
 some (.inr (.inr ((x43 : (List Int)), (x49 : (List Int)), (x47.2.1 : Int), (x47.2.2 : Int))))
def l_w9Machine_b0 (p0 : dice) (x17 : Int × Int × Int) (q1 : Int) (q2 : Int) (v11 : Int) (s3 : Int × Int × (List (List Int)) × (List (List Int))) : Option ((Machine × Int × Int) ⊕ ((Int × Int × (List (List Int)) × (List (List Int))) ⊕ (Int × Int × (List (List Int)) × (List (List Int))))) :=
 Option.bind (rng q1) fun _ =>
 Option.bind (cntM (l_w9Machine_b2 p0 x17 q2) (Int.toNat (q1 - 0)) 0 ((([] : List Int) : (List Int)), (([] : List Int) : (List Int)), (s3.1 : Int), (s3.2.1 : Int))) fun q7 =>
 aft (fun r => some (.inl r)) (fun s8 =>
  Option.bind (appS 24 s3.2.2.1 ([s8.1] : List (List Int))) fun x54 =>
  Option.bind (appS 24 s3.2.2.2 ([s8.2.1] : List (List Int))) fun x60 =>
  some (.inr (.inr ((s8.2.2.1 : Int), (s8.2.2.2 : Int), (x54 : (List (List Int))), (x60 : (List (List Int))))))) q7
def l_w9Machine (p0 : dice) (p1 : Sig) (p2 : Int) : Option (Machine × Int × Int) :=
 Option.bind (l_dice_below p0 p2) fun x17 =>
 Option.bind (bif (p1.In == 2) then
  some (4 : Int)
 else
  some (2 : Int)) fun q1 =>
 Option.bind (bif (p1.Out == 2) then
  some (4 : Int)
 else
  some (2 : Int)) fun q2 =>
 Option.bind (rng (IntKind.i64.wrap (1 + x17.1))) fun _ =>
 Option.bind (cntM (l_w9Machine_b0 p0 x17 q1 q2) (Int.toNat ((IntKind.i64.wrap (1 + x17.1)) - 0)) 0 ((x17.2.1 : Int), (x17.2.2 : Int), (([] : List (List Int)) : (List (List Int))), (([] : List (List Int)) : (List (List Int))))) fun q4 =>
 aft (fun r => some r) (fun s5 =>
  some (((⟨s5.2.2.1, s5.2.2.2⟩ : Machine) : Machine), (s5.1 : Int), (s5.2.1 : Int))) q4
def l_w9Clauses_b2 (p0 : dice) (x19 : Int × Int × Int) (v8 : Int) (s4 : Int × Int × (List Int) × (List Int)) : Option (((List Clause) × Int × Int) ⊕ ((Int × Int × (List Int) × (List Int)) ⊕ (Int × Int × (List Int) × (List Int)))) :=
 Option.bind (l_dice_below (⟨p0.b, s4.1, s4.2.1⟩ : dice) 2) fun x27 =>
 Option.bind (bif (x27.1 == 0) then
  Option.bind (appS 8 s4.2.2.1 ([v8] : List Int)) fun x33 =>
  some (x33 : (List Int))
 else
  some (s4.2.2.1 : (List Int))) fun q7 =>
 Option.bind (l_dice_below (⟨p0.b, x27.2.1, x27.2.2⟩ : dice) 2) fun x36 =>
 Option.bind (bif (x36.1 == 0) then
 Option.bind (bif ((IntKind.i64.wrap (1 + x19.1)) == 2) then
 some true
 else
 some ((IntKind.i64.wrap (1 + x19.1)) == 3)) fun p46 =>
 Option.bind (bif p46 then
 some true
 else
 some ((IntKind.i64.wrap (1 + x19.1)) == 7)) fun p51 =>
 some p51
 else
 some false) fun p52 =>
 Option.bind (bif p52 then
  Option.bind (appS 8 s4.2.2.2 ([v8] : List Int)) fun x57 =>
  some (x57 : (List Int))
 else
  some (s4.2.2.2 : (List Int))) fun q8 =>
 some (.inr (.inr ((x36.2.1 : Int), (x36.2.2 : Int), (q7 : (List Int)), (q8 : (List Int)))))
def l_w9Clauses_b0 (p0 : dice) (s1 : (List Clause) × Int × Int × Int) : Option (((List Clause) × Int × Int) ⊕ (((List Clause) × Int × Int × Int) ⊕ ((List Clause) × Int × Int × Int))) :=
 bif decide (0 < s1.2.1) then
  Option.bind (l_dice_below (⟨p0.b, s1.2.2.1, s1.2.2.2⟩ : dice) 7) fun x19 =>
  Option.bind (cntM (l_w9Clauses_b2 p0 x19) (Int.toNat (4 - 0)) 0 ((x19.2.1 : Int), (x19.2.2 : Int), (([] : List Int) : (List Int)), (([] : List Int) : (List Int)))) fun q5 =>
  aft (fun r => some (.inl r)) (fun s6 =>
   Option.bind (appS 56 s1.1 ([(⟨(IntKind.i64.wrap (1 + x19.1)), s6.2.2.1, s6.2.2.2⟩ : Clause)] : List Clause)) fun x62 =>
   some (.inr (.inr ((x62 : (List Clause)), ((IntKind.i64.wrap (s1.2.1 - 1)) : Int), (s6.1 : Int), (s6.2.1 : Int))))) q5
 else
  some (.inr (.inl ((s1.1 : (List Clause)), (s1.2.1 : Int), (s1.2.2.1 : Int), (s1.2.2.2 : Int))))
def l_w9Clauses (p0 : dice) (p1 : Int) : Option ((List Clause) × Int × Int) :=
 Option.bind (l_dice_below p0 (IntKind.i64.wrap (p1 + 1))) fun x13 =>
 Option.bind (whileM (l_w9Clauses_b0 p0) (2 ^ 64) ((([] : List Clause) : (List Clause)), (x13.1 : Int), (x13.2.1 : Int), (x13.2.2 : Int))) fun q2 =>
 aft (fun r => some r) (fun s3 =>
  some ((s3.1 : (List Clause)), (s3.2.2.1 : Int), (s3.2.2.2 : Int))) q2
def i_isSig (p0 : Sig) : Option (Bool) :=
 Option.bind (bif decide (1 ≤ p0.In) then
 some (decide (p0.In ≤ 2))
 else
 some false) fun p10 =>
 Option.bind (bif p10 then
 some (decide (1 ≤ p0.Out))
 else
 some false) fun p15 =>
 Option.bind (bif p15 then
 some (decide (p0.Out ≤ 2))
 else
 some false) fun p20 =>
 some (p20 : Bool)
def i_inputsOf (p0 : Sig) : Option (Int) :=
 Option.bind (nn p0.In) fun _z5 =>
 some ((IntKind.i64.wrap (1 * 2 ^ (min (Int.toNat p0.In) (IntKind.bits IntKind.i64)))) : Int)
def i_areLetters_1 (p0 : Int) (c0 : Int) : Option (Bool) :=
 Option.bind (bif decide (p0 < 0) then
 some true
 else
 some (decide (c0 ≤ p0))) fun p10 =>
 some (p10 : Bool)
def slices_IndexFunc_I_int64__i_areLetters_1_b0 (p0 : (List Int)) (c1_0 : Int) (v8 : Int) (s1 : Unit) : Option (Int ⊕ ((Unit) ⊕ (Unit))) :=
 Option.bind (idx p0 v8) fun x14 =>
 Option.bind (i_areLetters_1 x14 c1_0) fun x16 =>
 bif x16 then
  some (.inl (v8 : Int))
 else
  some (.inr (.inr ()))
def slices_IndexFunc_I_int64__i_areLetters_1 (p0 : (List Int)) (c1_0 : Int) : Option (Int) :=
 Option.bind (cntM (slices_IndexFunc_I_int64__i_areLetters_1_b0 p0 c1_0) p0.length 0 ()) fun q2 =>
 aft (fun r => some r) (fun s3 =>
  some ((-1) : Int)) q2
def slices_ContainsFunc_I_int64__i_areLetters_1 (p0 : (List Int)) (c1_0 : Int) : Option (Bool) :=
 Option.bind (slices_IndexFunc_I_int64__i_areLetters_1 p0 c1_0) fun x7 =>
 some (decide (0 ≤ x7) : Bool)
def i_areLetters (p0 : (List Int)) (p1 : Int) : Option (Bool) :=
 Option.bind (slices_ContainsFunc_I_int64__i_areLetters_1 p0 p1) fun x7 =>
 some ((!x7) : Bool)
def i_isMachine_b0 (p0 : Sig) (p1 : Machine) (v29 : Int) (s1 : Unit) : Option (Bool ⊕ ((Unit) ⊕ (Unit))) :=
 Option.bind (idx p1.Next v29) fun x32 =>
 Option.bind (i_inputsOf p0) fun x37 =>
 Option.bind (bif ((x32.length : Int) != x37) then
 some true
 else
 Option.bind (idx p1.Out v29) fun x43 =>
 some ((x43.length : Int) != (x32.length : Int))) fun p49 =>
 Option.bind (bif p49 then
 some true
 else
 Option.bind (i_areLetters x32 (p1.Next.length : Int)) fun x53 =>
 some (!x53)) fun p55 =>
 Option.bind (bif p55 then
 some true
 else
 Option.bind (idx p1.Out v29) fun x60 =>
 Option.bind (nn p0.Out) fun _z64 =>
 Option.bind (i_areLetters x60 (IntKind.i64.wrap (1 * 2 ^ (min (Int.toNat p0.Out) (IntKind.bits IntKind.i64))))) fun x65 =>
 some (!x65)) fun p67 =>
 bif p67 then
  some (.inl (false : Bool))
 else
  some (.inr (.inr ()))
def i_isMachine (p0 : Sig) (p1 : Machine) : Option (Bool) :=
 Option.bind (bif decide ((p1.Next.length : Int) < 1) then
 some true
 else
 some (decide (48 < (p1.Next.length : Int)))) fun p16 =>
 Option.bind (bif p16 then
 some true
 else
 some ((p1.Out.length : Int) != (p1.Next.length : Int))) fun p25 =>
 bif p25 then
  some (false : Bool)
 else
  Option.bind (cntM (i_isMachine_b0 p0 p1) p1.Next.length 0 ()) fun q2 =>
  aft (fun r => some r) (fun s3 =>
   some (true : Bool)) q2
def i_lettersOf (p0 : Sig) : Option (Int) :=
 Option.bind (nn (IntKind.i64.wrap (p0.In + p0.Out))) fun _z8 =>
 some ((IntKind.i64.wrap (1 * 2 ^ (min (Int.toNat (IntKind.i64.wrap (p0.In + p0.Out))) (IntKind.bits IntKind.i64)))) : Int)
def i_isSet_b0 (p0 : (List Int)) (p1 : Int) (v9 : Int) (s1 : Unit) : Option (Bool ⊕ ((Unit) ⊕ (Unit))) :=
 Option.bind (idx p0 v9) fun x12 =>
 Option.bind (bif decide (x12 < 0) then
 some true
 else
 some (decide (p1 ≤ x12))) fun p20 =>
 Option.bind (bif p20 then
 some true
 else
 Option.bind (bif decide (0 < v9) then
 Option.bind (idx p0 (IntKind.i64.wrap (v9 - 1))) fun x29 =>
 some (decide (x12 ≤ x29))
 else
 some false) fun p32 =>
 some p32) fun p33 =>
 bif p33 then
  some (.inl (false : Bool))
 else
  some (.inr (.inr ()))
def i_isSet (p0 : (List Int)) (p1 : Int) : Option (Bool) :=
 Option.bind (cntM (i_isSet_b0 p0 p1) p0.length 0 ()) fun q2 =>
 aft (fun r => some r) (fun s3 =>
  some (true : Bool)) q2
def i_hasSecond (p0 : Int) : Option (Bool) :=
 Option.bind (bif (p0 == 2) then
 some true
 else
 some (p0 == 3)) fun p8 =>
 Option.bind (bif p8 then
 some true
 else
 some (p0 == 7)) fun p12 =>
 some (p12 : Bool)
def i_isClause (p0 : Sig) (p1 : Clause) : Option (Bool) :=
 Option.bind (bif decide (p1.Kind < 1) then
 some true
 else
 some (decide (7 < p1.Kind))) fun p12 =>
 Option.bind (bif p12 then
 some true
 else
 Option.bind (i_lettersOf p0) fun x17 =>
 Option.bind (i_isSet p1.A x17) fun x18 =>
 some (!x18)) fun p20 =>
 Option.bind (bif p20 then
 some true
 else
 Option.bind (i_lettersOf p0) fun x25 =>
 Option.bind (i_isSet p1.B x25) fun x26 =>
 some (!x26)) fun p28 =>
 bif p28 then
  some (false : Bool)
 else
  Option.bind (i_hasSecond p1.Kind) fun x31 =>
  Option.bind (bif x31 then
  some true
  else
  some ((p1.B.length : Int) == 0)) fun p37 =>
  some (p37 : Bool)
def i_areClauses_1 (p0 : Clause) (c0 : Sig) : Option (Bool) :=
 Option.bind (i_isClause c0 p0) fun x6 =>
 some ((!x6) : Bool)
def slices_IndexFunc_i_Clause_i_Clause__i_areClauses_1_b0 (p0 : (List Clause)) (c1_0 : Sig) (v8 : Int) (s1 : Unit) : Option (Int ⊕ ((Unit) ⊕ (Unit))) :=
 Option.bind (idx p0 v8) fun x14 =>
 Option.bind (i_areClauses_1 x14 c1_0) fun x16 =>
 bif x16 then
  some (.inl (v8 : Int))
 else
  some (.inr (.inr ()))
def slices_IndexFunc_i_Clause_i_Clause__i_areClauses_1 (p0 : (List Clause)) (c1_0 : Sig) : Option (Int) :=
 Option.bind (cntM (slices_IndexFunc_i_Clause_i_Clause__i_areClauses_1_b0 p0 c1_0) p0.length 0 ()) fun q2 =>
 aft (fun r => some r) (fun s3 =>
  some ((-1) : Int)) q2
def slices_ContainsFunc_i_Clause_i_Clause__i_areClauses_1 (p0 : (List Clause)) (c1_0 : Sig) : Option (Bool) :=
 Option.bind (slices_IndexFunc_i_Clause_i_Clause__i_areClauses_1 p0 c1_0) fun x7 =>
 some (decide (0 ≤ x7) : Bool)
def i_areClauses (p0 : Sig) (p1 : (List Clause)) : Option (Bool) :=
 Option.bind (bif decide ((p1.length : Int) ≤ 3) then
 Option.bind (slices_ContainsFunc_i_Clause_i_Clause__i_areClauses_1 p1 p0) fun x11 =>
 some (!x11)
 else
 some false) fun p13 =>
 some (p13 : Bool)
def slices_Index_I_int64_b0 (p0 : (List Int)) (p1 : Int) (v8 : Int) (s1 : Unit) : Option (Int ⊕ ((Unit) ⊕ (Unit))) :=
 Option.bind (idx p0 v8) fun x14 =>
 bif (p1 == x14) then
  some (.inl (v8 : Int))
 else
  some (.inr (.inr ()))
def slices_Index_I_int64 (p0 : (List Int)) (p1 : Int) : Option (Int) :=
 Option.bind (cntM (slices_Index_I_int64_b0 p0 p1) p0.length 0 ()) fun q2 =>
 aft (fun r => some r) (fun s3 =>
  some ((-1) : Int)) q2
def slices_Contains_I_int64 (p0 : (List Int)) (p1 : Int) : Option (Bool) :=
 Option.bind (slices_Index_I_int64 p0 p1) fun x7 =>
 some (decide (0 ≤ x7) : Bool)
def i_monitorStep (p0 : Int) (p1 : Int) (p2 : Bool) (p3 : Bool) : Option (Int) :=
 Option.bind (bif p2 then
  some (1 : Int)
 else
  some (0 : Int)) fun q1 =>
 Option.bind (bif p3 then
  some ((true : Bool), (1 : Int))
 else
  some ((false : Bool), (0 : Int))) fun q2 =>
 bif (p0 == 1) then
  some ((if p1 < (IntKind.i64.wrap (1 - q1)) then (IntKind.i64.wrap (1 - q1)) else p1) : Int)
 else
  bif (p0 == 2) then
   Option.bind (bif (p1 == 2) then
   some true
   else
   Option.bind (bif (p1 == 1) then
   some (!q2.1)
   else
   some false) fun p30 =>
   some p30) fun p31 =>
   bif p31 then
    some (2 : Int)
   else
    some (q1 : Int)
  else
   bif (p0 == 3) then
    bif q2.1 then
     some (0 : Int)
    else
     some ((if p1 < q1 then q1 else p1) : Int)
   else
    bif (p0 == 4) then
     some (q1 : Int)
    else
     bif (p0 == 5) then
      some ((IntKind.i64.wrap (1 - q1)) : Int)
     else
      bif (p0 == 6) then
       some ((if p1 < q1 then q1 else p1) : Int)
      else
       some ((IntKind.i64.wrap ((IntKind.i64.wrap (2 * q1)) + q2.2)) : Int)
def i_monitorOf_b3 (p1 : Clause) (v44 : Int) (v50 : Int) (s10 : (List Int)) : Option (Det ⊕ (((List Int)) ⊕ ((List Int)))) :=
 Option.bind (slices_Contains_I_int64 p1.A v50) fun x60 =>
 Option.bind (slices_Contains_I_int64 p1.B v50) fun x64 =>
 Option.bind (i_monitorStep p1.Kind v44 x60 x64) fun x65 =>
 Option.bind (appS 8 s10 ([x65] : List Int)) fun x67 =>
 some (.inr (.inr (x67 : (List Int))))
def i_monitorOf_b1 (p0 : Sig) (p1 : Clause) (v44 : Int) (s7 : (List (List Int))) : Option (Det ⊕ (((List (List Int))) ⊕ ((List (List Int))))) :=
 Option.bind (i_lettersOf p0) fun x49 =>
 Option.bind (rng x49) fun _ =>
 Option.bind (cntM (i_monitorOf_b3 p1 v44) (Int.toNat (x49 - 0)) 0 (([] : List Int) : (List Int))) fun q11 =>
 aft (fun r => some (.inl r)) (fun s12 =>
  Option.bind (appS 24 s7 ([s12] : List (List Int))) fun x73 =>
  some (.inr (.inr (x73 : (List (List Int)))))) q11
def i_monitorOf (p0 : Sig) (p1 : Clause) : Option (Det) :=
 Option.bind (bif (p1.Kind == 1) then
  some (true : Bool)
 else
  some ((p1.Kind == 5) : Bool)) fun q1 =>
 Option.bind (bif q1 then
  some ((2 : Int), (([1] : List Int) : (List Int)), (([] : List Int) : (List Int)))
 else
  Option.bind (bif (p1.Kind == 2) then
   some ((3 : Int), (([2] : List Int) : (List Int)), (([] : List Int) : (List Int)))
  else
   Option.bind (bif (p1.Kind == 3) then
    some ((2 : Int), (([1] : List Int) : (List Int)), (([0] : List Int) : (List Int)))
   else
    Option.bind (bif (p1.Kind == 4) then
     some ((2 : Int), (([0, 1] : List Int) : (List Int)), (([1] : List Int) : (List Int)))
    else
     Option.bind (bif (p1.Kind == 6) then
      some ((2 : Int), (([0] : List Int) : (List Int)), (([] : List Int) : (List Int)))
     else
      some ((4 : Int), (([2, 3] : List Int) : (List Int)), (([1, 3] : List Int) : (List Int)))) fun q6 =>
     some ((q6.1 : Int), (q6.2.1 : (List Int)), (q6.2.2 : (List Int)))) fun q5 =>
    some ((q5.1 : Int), (q5.2.1 : (List Int)), (q5.2.2 : (List Int)))) fun q4 =>
   some ((q4.1 : Int), (q4.2.1 : (List Int)), (q4.2.2 : (List Int)))) fun q3 =>
  some ((q3.1 : Int), (q3.2.1 : (List Int)), (q3.2.2 : (List Int)))) fun q2 =>
 Option.bind (rng q2.1) fun _ =>
 Option.bind (cntM (i_monitorOf_b1 p0 p1) (Int.toNat (q2.1 - 0)) 0 (([] : List (List Int)) : (List (List Int)))) fun q8 =>
 aft (fun r => some r) (fun s9 =>
  some ((⟨s9, ([(⟨q2.2.1, q2.2.2⟩ : Pair)] : List Pair)⟩ : Det) : Det)) q8
def slices_Index_2_int64_2_int64_b0 (p0 : (List (Int × Int))) (p1 : (Int × Int)) (v8 : Int) (s1 : Unit) : Option (Int ⊕ ((Unit) ⊕ (Unit))) :=
 Option.bind (idx p0 v8) fun x14 =>
 bif ((p1.1 == x14.1) && (p1.2 == x14.2)) then
  some (.inl (v8 : Int))
 else
  some (.inr (.inr ()))
def slices_Index_2_int64_2_int64 (p0 : (List (Int × Int))) (p1 : (Int × Int)) : Option (Int) :=
 Option.bind (cntM (slices_Index_2_int64_2_int64_b0 p0 p1) p0.length 0 ()) fun q2 =>
 aft (fun r => some r) (fun s3 =>
  some ((-1) : Int)) q2
def i_joinedDet_b2 (p1 : Det) (s1 : (List (Int × Int)) × Int × (List (List Int))) (x47 : (List Int)) (v50 : Int) (s4 : (List (Int × Int)) × (List Int)) : Option ((Det × Bool) ⊕ (((List (Int × Int)) × (List Int)) ⊕ ((List (Int × Int)) × (List Int)))) :=
 Option.bind (idx x47 v50) fun x53 =>
 Option.bind (idx s4.1 s1.2.1) fun x60 =>
 Option.bind (idx p1.Next x60.2) fun x63 =>
 Option.bind (idx x63 v50) fun x66 =>
 Option.bind (slices_Index_2_int64_2_int64 s4.1 (x53, x66)) fun x71 =>
 Option.bind (bif decide (x71 < 0) then
  Option.bind (appS 16 s4.1 ([(x53, x66)] : List (Int × Int))) fun x79 =>
  some ((x79 : (List (Int × Int))), ((s4.1.length : Int) : Int))
 else
  some ((s4.1 : (List (Int × Int))), (x71 : Int))) fun q7 =>
 Option.bind (appS 8 s4.2 ([q7.2] : List Int)) fun x83 =>
 some (.inr (.inr ((q7.1 : (List (Int × Int))), (x83 : (List Int)))))
def i_joinedDet_b0 (p0 : Det) (p1 : Det) (s1 : (List (Int × Int)) × Int × (List (List Int))) : Option ((Det × Bool) ⊕ (((List (Int × Int)) × Int × (List (List Int))) ⊕ ((List (Int × Int)) × Int × (List (List Int))))) :=
 bif decide (s1.2.1 < (s1.1.length : Int)) then
  Option.bind (idx s1.1 s1.2.1) fun x44 =>
  Option.bind (idx p0.Next x44.1) fun x47 =>
  Option.bind (cntM (i_joinedDet_b2 p1 s1 x47) x47.length 0 ((s1.1 : (List (Int × Int))), (([] : List Int) : (List Int)))) fun q5 =>
  aft (fun r => some (.inl r)) (fun s6 =>
   bif decide (48 < (s6.1.length : Int)) then
    some (.inl (((⟨([] : List (List Int)), ([] : List Pair)⟩ : Det) : Det), (false : Bool)))
   else
    Option.bind (appS 24 s1.2.2 ([s6.2] : List (List Int))) fun x93 =>
    some (.inr (.inr ((s6.1 : (List (Int × Int))), ((IntKind.i64.wrap (s1.2.1 + 1)) : Int), (x93 : (List (List Int))))))) q5
 else
  some (.inr (.inl ((s1.1 : (List (Int × Int))), (s1.2.1 : Int), (s1.2.2 : (List (List Int))))))
def i_joinedDet_b8 (s3 : (List (Int × Int)) × Int × (List (List Int))) (v99 : Int) (x109 : Pair) (v114 : Int) (s14 : (List Int) × (List Int)) : Option ((Det × Bool) ⊕ (((List Int) × (List Int)) ⊕ ((List Int) × (List Int)))) :=
 Option.bind (idx s3.1 v114) fun x117 =>
 Option.bind (idx ([x117.1, x117.2] : List Int) v99) fun x122 =>
 Option.bind (slices_Contains_I_int64 x109.Ask x122) fun x124 =>
 Option.bind (bif x124 then
  Option.bind (appS 8 s14.1 ([v114] : List Int)) fun x129 =>
  some (x129 : (List Int))
 else
  some (s14.1 : (List Int))) fun q17 =>
 Option.bind (idx ([x117.1, x117.2] : List Int) v99) fun x134 =>
 Option.bind (slices_Contains_I_int64 x109.Give x134) fun x136 =>
 Option.bind (bif x136 then
  Option.bind (appS 8 s14.2 ([v114] : List Int)) fun x141 =>
  some (x141 : (List Int))
 else
  some (s14.2 : (List Int))) fun q18 =>
 some (.inr (.inr ((q17 : (List Int)), (q18 : (List Int)))))
def i_joinedDet_b6 (s3 : (List (Int × Int)) × Int × (List (List Int))) (v99 : Int) (x102 : Det) (v107 : Int) (s11 : (List Pair)) : Option ((Det × Bool) ⊕ (((List Pair)) ⊕ ((List Pair)))) :=
 Option.bind (idx x102.Pairs v107) fun x109 =>
 Option.bind (cntM (i_joinedDet_b8 s3 v99 x109) s3.1.length 0 ((([] : List Int) : (List Int)), (([] : List Int) : (List Int)))) fun q15 =>
 aft (fun r => some (.inl r)) (fun s16 =>
  Option.bind (appS 48 s11 ([(⟨s16.1, s16.2⟩ : Pair)] : List Pair)) fun x148 =>
  some (.inr (.inr (x148 : (List Pair))))) q15
def i_joinedDet_b4 (p0 : Det) (p1 : Det) (s3 : (List (Int × Int)) × Int × (List (List Int))) (v99 : Int) (s8 : (List Pair)) : Option ((Det × Bool) ⊕ (((List Pair)) ⊕ ((List Pair)))) :=
 Option.bind (idx ([p0, p1] : List Det) v99) fun x102 =>
 Option.bind (cntM (i_joinedDet_b6 s3 v99 x102) x102.Pairs.length 0 (s8 : (List Pair))) fun q12 =>
 aft (fun r => some (.inl r)) (fun s13 =>
  some (.inr (.inr (s13 : (List Pair))))) q12
def i_joinedDet (p0 : Det) (p1 : Det) : Option (Det × Bool) :=
 bif decide (4 < (IntKind.i64.wrap ((p0.Pairs.length : Int) + (p1.Pairs.length : Int)))) then
  some (((⟨([] : List (List Int)), ([] : List Pair)⟩ : Det) : Det), (false : Bool))
 else
  Option.bind (whileM (i_joinedDet_b0 p0 p1) (2 ^ 64) ((([(0, 0)] : List (Int × Int)) : (List (Int × Int))), (0 : Int), (([] : List (List Int)) : (List (List Int))))) fun q2 =>
  aft (fun r => some r) (fun s3 =>
   Option.bind (cntM (i_joinedDet_b4 p0 p1 s3) ([p0, p1] : List Det).length 0 (([] : List Pair) : (List Pair))) fun q9 =>
   aft (fun r => some r) (fun s10 =>
    some (((⟨s3.2.2, s10⟩ : Det) : Det), (true : Bool))) q9) q2
def i_ProductOf_b0 (p0 : Sig) (p1 : (List Clause)) (v28 : Int) (s1 : (List (List Int)) × (List Pair)) : Option ((Det × Bool) ⊕ (((List (List Int)) × (List Pair)) ⊕ ((List (List Int)) × (List Pair)))) :=
 Option.bind (idx p1 v28) fun x30 =>
 Option.bind (i_monitorOf p0 x30) fun x36 =>
 Option.bind (i_joinedDet (⟨s1.1, s1.2⟩ : Det) x36) fun x37 =>
 bif (!x37.2) then
  some (.inl (((⟨([] : List (List Int)), ([] : List Pair)⟩ : Det) : Det), (false : Bool)))
 else
  some (.inr (.inr ((x37.1.Next : (List (List Int))), (x37.1.Pairs : (List Pair)))))
def i_ProductOf (p0 : Sig) (p1 : (List Clause)) : Option (Det × Bool) :=
 Option.bind (i_isSig p0) fun x12 =>
 Option.bind (bif (!x12) then
 some true
 else
 Option.bind (i_areClauses p0 p1) fun x17 =>
 some (!x17)) fun p19 =>
 bif p19 then
  some (((⟨([] : List (List Int)), ([] : List Pair)⟩ : Det) : Det), (false : Bool))
 else
  Option.bind (i_lettersOf p0) fun x22 =>
  Option.bind (mkS 8 x22 (0 : Int)) fun x23 =>
  Option.bind (cntM (i_ProductOf_b0 p0 p1) p1.length 0 ((([x23] : List (List Int)) : (List (List Int))), (([] : List Pair) : (List Pair)))) fun q2 =>
  aft (fun r => some r) (fun s3 =>
   some (((⟨s3.1, s3.2⟩ : Det) : Det), (true : Bool))) q2
def i_watchOf_b2 (p0 : Sig) (p1 : Machine) (p2 : Det) (x42 : (Int × Int)) (x47 : (Int × Int)) (x55 : (List Int)) (v58 : Int) (s4 : (List (Int × Int)) × (List Int) × (List Int) × (List ((Int × Int) × Int))) : Option (((Option watch) × Bool) ⊕ (((List (Int × Int)) × (List Int) × (List Int) × (List ((Int × Int) × Int))) ⊕ ((List (Int × Int)) × (List Int) × (List Int) × (List ((Int × Int) × Int))))) :=
 Option.bind (idx x55 v58) fun x61 =>
 Option.bind (idx p1.Out x42.1) fun x66 =>
 Option.bind (idx x66 v58) fun x69 =>
 Option.bind (i_inputsOf p0) fun x72 =>
 Option.bind (idx p2.Next x47.2) fun x80 =>
 Option.bind (idx x80 (IntKind.i64.wrap ((IntKind.i64.wrap (x69 * x72)) + v58))) fun x83 =>
 Option.bind (mget kwI2 s4.2.2.2 ((x61, x83) : (Int × Int)) (0 : Int)) fun x89 =>
 Option.bind (bif (!x89.2) then
  Option.bind (mset kwI2 s4.2.2.2 ((x61, x83) : (Int × Int)) (s4.1.length : Int)) fun y85 =>
  Option.bind (appS 16 s4.1 ([(x61, x83)] : List (Int × Int))) fun x102 =>
  some ((x102 : (List (Int × Int))), ((s4.1.length : Int) : Int), (y85 : (List ((Int × Int) × Int))))
 else
  some ((s4.1 : (List (Int × Int))), (x89.1 : Int), (s4.2.2.2 : (List ((Int × Int) × Int))))) fun q7 =>
 Option.bind (appS 8 s4.2.1 ([q7.2.1] : List Int)) fun x106 =>
 Option.bind (appS 8 s4.2.2.1 ([(IntKind.i64.wrap ((IntKind.i64.wrap (x69 * x72)) + v58))] : List Int)) fun x110 =>
 some (.inr (.inr ((q7.1 : (List (Int × Int))), (x106 : (List Int)), (x110 : (List Int)), (q7.2.2 : (List ((Int × Int) × Int))))))
def i_watchOf_b0 (p0 : Sig) (p1 : Machine) (p2 : Det) (s1 : (List (Int × Int)) × Int × (List (List Int)) × (List (List Int)) × (List ((Int × Int) × Int))) : Option (((Option watch) × Bool) ⊕ (((List (Int × Int)) × Int × (List (List Int)) × (List (List Int)) × (List ((Int × Int) × Int))) ⊕ ((List (Int × Int)) × Int × (List (List Int)) × (List (List Int)) × (List ((Int × Int) × Int))))) :=
 bif decide (s1.2.1 < (s1.1.length : Int)) then
  Option.bind (idx s1.1 s1.2.1) fun x42 =>
  Option.bind (idx s1.1 s1.2.1) fun x47 =>
  Option.bind (idx p1.Next x42.1) fun x55 =>
  Option.bind (cntM (i_watchOf_b2 p0 p1 p2 x42 x47 x55) x55.length 0 ((s1.1 : (List (Int × Int))), (([] : List Int) : (List Int)), (([] : List Int) : (List Int)), (s1.2.2.2.2 : (List ((Int × Int) × Int))))) fun q5 =>
  aft (fun r => some (.inl r)) (fun s6 =>
   bif decide (256 < (s6.1.length : Int)) then
    some (.inl ((none : Option watch), (false : Bool)))
   else
    Option.bind (appS 24 s1.2.2.1 ([s6.2.1] : List (List Int))) fun x123 =>
    Option.bind (appS 24 s1.2.2.2.1 ([s6.2.2.1] : List (List Int))) fun x130 =>
    some (.inr (.inr ((s6.1 : (List (Int × Int))), ((IntKind.i64.wrap (s1.2.1 + 1)) : Int), (x123 : (List (List Int))), (x130 : (List (List Int))), (s6.2.2.2 : (List ((Int × Int) × Int))))))) q5
 else
  some (.inr (.inl ((s1.1 : (List (Int × Int))), (s1.2.1 : Int), (s1.2.2.1 : (List (List Int))), (s1.2.2.2.1 : (List (List Int))), (s1.2.2.2.2 : (List ((Int × Int) × Int))))))
def i_watchOf_b6 (s3 : (List (Int × Int)) × Int × (List (List Int)) × (List (List Int)) × (List ((Int × Int) × Int))) (x140 : Pair) (v145 : Int) (s11 : (List Int) × (List Int)) : Option (((Option watch) × Bool) ⊕ (((List Int) × (List Int)) ⊕ ((List Int) × (List Int)))) :=
 Option.bind (idx s3.1 v145) fun x148 =>
 Option.bind (slices_Contains_I_int64 x140.Ask x148.2) fun x154 =>
 Option.bind (bif x154 then
  Option.bind (appS 8 s11.1 ([v145] : List Int)) fun x159 =>
  some (x159 : (List Int))
 else
  some (s11.1 : (List Int))) fun q14 =>
 Option.bind (slices_Contains_I_int64 x140.Give x148.2) fun x165 =>
 Option.bind (bif x165 then
  Option.bind (appS 8 s11.2 ([v145] : List Int)) fun x170 =>
  some (x170 : (List Int))
 else
  some (s11.2 : (List Int))) fun q15 =>
 some (.inr (.inr ((q14 : (List Int)), (q15 : (List Int)))))
def i_watchOf_b4 (p2 : Det) (s3 : (List (Int × Int)) × Int × (List (List Int)) × (List (List Int)) × (List ((Int × Int) × Int))) (v138 : Int) (s8 : (List Pair)) : Option (((Option watch) × Bool) ⊕ (((List Pair)) ⊕ ((List Pair)))) :=
 Option.bind (idx p2.Pairs v138) fun x140 =>
 Option.bind (cntM (i_watchOf_b6 s3 x140) s3.1.length 0 ((([] : List Int) : (List Int)), (([] : List Int) : (List Int)))) fun q12 =>
 aft (fun r => some (.inl r)) (fun s13 =>
  Option.bind (appS 48 s8 ([(⟨s13.1, s13.2⟩ : Pair)] : List Pair)) fun x180 =>
  some (.inr (.inr (x180 : (List Pair))))) q12
def i_watchOf (p0 : Sig) (p1 : Machine) (p2 : Det) : Option ((Option watch) × Bool) :=
 Option.bind (mset kwI2 ([] : List ((Int × Int) × Int)) ((0, 0) : (Int × Int)) 0) fun y81 =>
 Option.bind (whileM (i_watchOf_b0 p0 p1 p2) (2 ^ 64) ((([(0, 0)] : List (Int × Int)) : (List (Int × Int))), (0 : Int), (([] : List (List Int)) : (List (List Int))), (([] : List (List Int)) : (List (List Int))), (y81 : (List ((Int × Int) × Int))))) fun q2 =>
 aft (fun r => some r) (fun s3 =>
  Option.bind (cntM (i_watchOf_b4 p2 s3) p2.Pairs.length 0 (([] : List Pair) : (List Pair))) fun q9 =>
  aft (fun r => some r) (fun s10 =>
   some ((some (((⟨s3.2.2.1, s3.2.2.2.1, s10⟩ : watch) : watch)) : Option watch), (true : Bool))) q9) q2
def i_watchAll (p0 : Sig) (p1 : Machine) (p2 : (List Clause)) : Option ((Option watch) × Bool) :=
 Option.bind (i_isSig p0) fun x11 =>
 Option.bind (bif (!x11) then
 some true
 else
 Option.bind (i_isMachine p0 p1) fun x16 =>
 some (!x16)) fun p18 =>
 bif p18 then
  some ((none : Option watch), (false : Bool))
 else
  Option.bind (i_ProductOf p0 p2) fun x22 =>
  bif (!x22.2) then
   some ((none : Option watch), (false : Bool))
  else
   Option.bind (i_watchOf p0 p1 x22.1) fun x30 =>
   some ((x30.1 : Option watch), (x30.2 : Bool))
def i_watch_outside_b0 (p1 : (List Int)) (v15 : Int) (s1 : (List Bool)) : Option ((List Bool) ⊕ (((List Bool)) ⊕ ((List Bool)))) :=
 Option.bind (slices_Contains_I_int64 p1 v15) fun x22 =>
 Option.bind (idx s1 v15) fun x24 =>
 Option.bind (setI s1 v15 (!x22)) fun y103 =>
 some (.inr (.inr (y103 : (List Bool))))
def i_watch_outside (p0 : watch) (p1 : (List Int)) : Option ((List Bool)) :=
 Option.bind (mkS 1 (p0.next.length : Int) (false : Bool)) fun x12 =>
 Option.bind (cntM (i_watch_outside_b0 p1) x12.length 0 (x12 : (List Bool))) fun q2 =>
 aft (fun r => some r) (fun s3 =>
  some (s3 : (List Bool))) q2
def i_loopsIn_2 (p0 : Int) (c0 : (List Int)) : Option ((List Int)) :=
 Option.bind (appS 8 c0 ([p0] : List Int)) fun x6 =>
 some (x6 : (List Int))
def i_loopsIn_1__i_loopsIn_2__i_loopsIn_1_b0 (rc : Int → (List (List Int)) → (List Int) → (List Bool) → (List Bool) → Option ((List Int) × (List Bool))) (p1 : (List (List Int))) (c1 : (List Bool)) (x16 : (List Int)) (v19 : Int) (s1 : (List Int) × (List Bool)) : Option (((List Int) × (List Bool)) ⊕ (((List Int) × (List Bool)) ⊕ ((List Int) × (List Bool)))) :=
 Option.bind (idx x16 v19) fun x21 =>
 Option.bind (idx c1 x21) fun x25 =>
 Option.bind (bif x25 then
 Option.bind (idx s1.2 x21) fun x30 =>
 some (!x30)
 else
 some false) fun p33 =>
 Option.bind (bif p33 then
  Option.bind (rc x21 p1 s1.1 s1.2 c1) fun x38 =>
  some ((x38.1 : (List Int)), (x38.2 : (List Bool)))
 else
  some ((s1.1 : (List Int)), (s1.2 : (List Bool)))) fun q4 =>
 some (.inr (.inr ((q4.1 : (List Int)), (q4.2 : (List Bool)))))
def i_loopsIn_1__i_loopsIn_2__i_loopsIn_1_s (rc : Int → (List (List Int)) → (List Int) → (List Bool) → (List Bool) → Option ((List Int) × (List Bool))) (p0 : Int) (p1 : (List (List Int))) (c2_0 : (List Int)) (c0 : (List Bool)) (c1 : (List Bool)) : Option ((List Int) × (List Bool)) :=
 Option.bind (idx c0 p0) fun x13 =>
 Option.bind (setI c0 p0 true) fun y111 =>
 Option.bind (idx p1 p0) fun x16 =>
 Option.bind (cntM (i_loopsIn_1__i_loopsIn_2__i_loopsIn_1_b0 rc p1 c1 x16) x16.length 0 ((c2_0 : (List Int)), (y111 : (List Bool)))) fun q2 =>
 aft (fun r => some r) (fun s3 =>
  Option.bind (i_loopsIn_2 p0 s3.1) fun x42 =>
  some ((x42 : (List Int)), (s3.2 : (List Bool)))) q2
def i_loopsIn_1__i_loopsIn_2__i_loopsIn_1 : Nat → Int → (List (List Int)) → (List Int) → (List Bool) → (List Bool) → Option ((List Int) × (List Bool))
 | 0 => fun _ _ _ _ _ => none
 | n + 1 => i_loopsIn_1__i_loopsIn_2__i_loopsIn_1_s (i_loopsIn_1__i_loopsIn_2__i_loopsIn_1 n)
def i_loopsIn_3 (p0 : Int) (c0 : (List Int)) : Option ((List Int)) :=
 Option.bind (appS 8 c0 ([p0] : List Int)) fun x6 =>
 some (x6 : (List Int))
def i_loopsIn_1__i_loopsIn_3__i_loopsIn_1_b0 (rc : Int → (List (List Int)) → (List Int) → (List Bool) → (List Bool) → Option ((List Int) × (List Bool))) (p1 : (List (List Int))) (c1 : (List Bool)) (x16 : (List Int)) (v19 : Int) (s1 : (List Int) × (List Bool)) : Option (((List Int) × (List Bool)) ⊕ (((List Int) × (List Bool)) ⊕ ((List Int) × (List Bool)))) :=
 Option.bind (idx x16 v19) fun x21 =>
 Option.bind (idx c1 x21) fun x25 =>
 Option.bind (bif x25 then
 Option.bind (idx s1.2 x21) fun x30 =>
 some (!x30)
 else
 some false) fun p33 =>
 Option.bind (bif p33 then
  Option.bind (rc x21 p1 s1.1 s1.2 c1) fun x38 =>
  some ((x38.1 : (List Int)), (x38.2 : (List Bool)))
 else
  some ((s1.1 : (List Int)), (s1.2 : (List Bool)))) fun q4 =>
 some (.inr (.inr ((q4.1 : (List Int)), (q4.2 : (List Bool)))))
def i_loopsIn_1__i_loopsIn_3__i_loopsIn_1_s (rc : Int → (List (List Int)) → (List Int) → (List Bool) → (List Bool) → Option ((List Int) × (List Bool))) (p0 : Int) (p1 : (List (List Int))) (c2_0 : (List Int)) (c0 : (List Bool)) (c1 : (List Bool)) : Option ((List Int) × (List Bool)) :=
 Option.bind (idx c0 p0) fun x13 =>
 Option.bind (setI c0 p0 true) fun y111 =>
 Option.bind (idx p1 p0) fun x16 =>
 Option.bind (cntM (i_loopsIn_1__i_loopsIn_3__i_loopsIn_1_b0 rc p1 c1 x16) x16.length 0 ((c2_0 : (List Int)), (y111 : (List Bool)))) fun q2 =>
 aft (fun r => some r) (fun s3 =>
  Option.bind (i_loopsIn_3 p0 s3.1) fun x42 =>
  some ((x42 : (List Int)), (s3.2 : (List Bool)))) q2
def i_loopsIn_1__i_loopsIn_3__i_loopsIn_1 : Nat → Int → (List (List Int)) → (List Int) → (List Bool) → (List Bool) → Option ((List Int) × (List Bool))
 | 0 => fun _ _ _ _ _ => none
 | n + 1 => i_loopsIn_1__i_loopsIn_3__i_loopsIn_1_s (i_loopsIn_1__i_loopsIn_3__i_loopsIn_1 n)
def slices_Sort_I_int64 (p0 : (List Int)) : Option (List Int) :=
 if 0 < p0.length ∧ p0.length < 4611686018427387904 then some (p0.mergeSort fun x y => decide (x ≤ y)) else if p0.length = 0 then some p0 else none
def slices_SortFunc_I_I (p0 : (List (List Int))) : Option (List (List Int)) :=
 if p0.length < 4611686018427387904 ∧ (p0.all fun l => !l.isEmpty) = true then some (p0.mergeSort leI) else none
def i_loopsIn_b2 (p1 : (List Bool)) (v23 : Int) (x26 : (List Int)) (v30 : Int) (s4 : (List (List Int))) : Option ((List (List Int)) ⊕ (((List (List Int))) ⊕ ((List (List Int))))) :=
 Option.bind (idx x26 v30) fun x32 =>
 Option.bind (idx p1 v23) fun x36 =>
 Option.bind (bif x36 then
 Option.bind (idx p1 x32) fun x41 =>
 some x41
 else
 some false) fun p43 =>
 Option.bind (bif p43 then
  Option.bind (idx s4 x32) fun x48 =>
  Option.bind (appS 8 x48 ([v23] : List Int)) fun x52 =>
  Option.bind (idx s4 x32) fun x53 =>
  Option.bind (setI s4 x32 (x52 : (List Int))) fun y107 =>
  some (y107 : (List (List Int)))
 else
  some (s4 : (List (List Int)))) fun q7 =>
 some (.inr (.inr (q7 : (List (List Int)))))
def i_loopsIn_b0 (p0 : (List (List Int))) (p1 : (List Bool)) (v23 : Int) (s1 : (List (List Int))) : Option ((List (List Int)) ⊕ (((List (List Int))) ⊕ ((List (List Int))))) :=
 Option.bind (idx p0 v23) fun x26 =>
 Option.bind (cntM (i_loopsIn_b2 p1 v23 x26) x26.length 0 (s1 : (List (List Int)))) fun q5 =>
 aft (fun r => some (.inl r)) (fun s6 =>
  some (.inr (.inr (s6 : (List (List Int)))))) q5
def i_loopsIn_b4 (p0 : (List (List Int))) (p1 : (List Bool)) (v63 : Int) (s8 : (List Int) × (List Bool)) : Option ((List (List Int)) ⊕ (((List Int) × (List Bool)) ⊕ ((List Int) × (List Bool)))) :=
 Option.bind (idx p1 v63) fun x68 =>
 Option.bind (bif x68 then
 Option.bind (idx s8.2 v63) fun x73 =>
 some (!x73)
 else
 some false) fun p76 =>
 Option.bind (bif p76 then
  Option.bind (i_loopsIn_1__i_loopsIn_2__i_loopsIn_1 (2 ^ 64) v63 p0 s8.1 s8.2 p1) fun x81 =>
  some ((x81.1 : (List Int)), (x81.2 : (List Bool)))
 else
  some ((s8.1 : (List Int)), (s8.2 : (List Bool)))) fun q11 =>
 some (.inr (.inr ((q11.1 : (List Int)), (q11.2 : (List Bool)))))
def i_loopsIn_b6 (p0 : (List (List Int))) (p1 : (List Bool)) (s3 : (List (List Int))) (s10 : (List Int) × (List Bool)) (s12 : (List (List Int)) × Int × (List Bool)) : Option ((List (List Int)) ⊕ (((List (List Int)) × Int × (List Bool)) ⊕ ((List (List Int)) × Int × (List Bool)))) :=
 bif decide (0 ≤ s12.2.1) then
  Option.bind (idx s10.1 s12.2.1) fun x96 =>
  Option.bind (idx s12.2.2 x96) fun x100 =>
  bif x100 then
   some (.inr (.inr ((s12.1 : (List (List Int))), ((IntKind.i64.wrap (s12.2.1 - 1)) : Int), (s12.2.2 : (List Bool)))))
  else
   Option.bind (i_loopsIn_1__i_loopsIn_3__i_loopsIn_1 (2 ^ 64) x96 s3 ([] : List Int) s12.2.2 p1) fun x107 =>
   Option.bind (slices_Sort_I_int64 x107.1) fun x109 =>
   Option.bind (bif decide (1 < (x107.1.length : Int)) then
   some true
   else
   Option.bind (idx p0 x96) fun x116 =>
   Option.bind (slices_Contains_I_int64 x116 x96) fun x119 =>
   some x119) fun p120 =>
   Option.bind (bif p120 then
    Option.bind (appS 24 s12.1 ([x109] : List (List Int))) fun x124 =>
    some (x124 : (List (List Int)))
   else
    some (s12.1 : (List (List Int)))) fun q15 =>
   some (.inr (.inr ((q15 : (List (List Int))), ((IntKind.i64.wrap (s12.2.1 - 1)) : Int), (x107.2 : (List Bool)))))
 else
  some (.inr (.inl ((s12.1 : (List (List Int))), (s12.2.1 : Int), (s12.2.2 : (List Bool)))))
def i_loopsIn (p0 : (List (List Int))) (p1 : (List Bool)) : Option ((List (List Int))) :=
 Option.bind (mkS 24 (p0.length : Int) (([] : List Int) : (List Int))) fun x20 =>
 Option.bind (cntM (i_loopsIn_b0 p0 p1) p0.length 0 (x20 : (List (List Int)))) fun q2 =>
 aft (fun r => some r) (fun s3 =>
  Option.bind (mkS 1 (p0.length : Int) (false : Bool)) fun x58 =>
  Option.bind (cntM (i_loopsIn_b4 p0 p1) p0.length 0 ((([] : List Int) : (List Int)), (x58 : (List Bool)))) fun q9 =>
  aft (fun r => some r) (fun s10 =>
   Option.bind (mkS 1 (p0.length : Int) (false : Bool)) fun x85 =>
   Option.bind (whileM (i_loopsIn_b6 p0 p1 s3 s10) (2 ^ 64) ((([] : List (List Int)) : (List (List Int))), ((IntKind.i64.wrap ((s10.1.length : Int) - 1)) : Int), (x85 : (List Bool)))) fun q13 =>
   aft (fun r => some r) (fun s14 =>
    Option.bind (slices_SortFunc_I_I s14.1) fun x126 =>
    some (x126 : (List (List Int)))) q13) q9) q2
def i_watch_targets_b2 (p1 : Pair) (x23 : (List Int)) (v27 : Int) (s4 : (List Int)) : Option ((List Int) ⊕ (((List Int)) ⊕ ((List Int)))) :=
 Option.bind (idx x23 v27) fun x29 =>
 Option.bind (slices_Contains_I_int64 p1.Ask x29) fun x34 =>
 Option.bind (bif x34 then
  Option.bind (appS 8 s4 ([x29] : List Int)) fun x38 =>
  some (x38 : (List Int))
 else
  some (s4 : (List Int))) fun q7 =>
 some (.inr (.inr (q7 : (List Int))))
def i_watch_targets_b0 (p1 : Pair) (x19 : (List (List Int))) (v21 : Int) (s1 : (List Int)) : Option ((List Int) ⊕ (((List Int)) ⊕ ((List Int)))) :=
 Option.bind (idx x19 v21) fun x23 =>
 Option.bind (cntM (i_watch_targets_b2 p1 x23) x23.length 0 (s1 : (List Int))) fun q5 =>
 aft (fun r => some (.inl r)) (fun s6 =>
  some (.inr (.inr (s6 : (List Int))))) q5
def i_watch_targets (p0 : watch) (p1 : Pair) : Option ((List Int)) :=
 Option.bind (i_watch_outside p0 p1.Give) fun x18 =>
 Option.bind (i_loopsIn p0.next x18) fun x19 =>
 Option.bind (cntM (i_watch_targets_b0 p1 x19) x19.length 0 (([] : List Int) : (List Int))) fun q2 =>
 aft (fun r => some r) (fun s3 =>
  Option.bind (slices_Sort_I_int64 s3) fun x42 =>
  some (x42 : (List Int))) q2
def i_watch_broken_b0 (p0 : watch) (v12 : Int) (s1 : (List Int)) : Option ((List Int) ⊕ (((List Int)) ⊕ ((List Int)))) :=
 Option.bind (idx p0.pairs v12) fun x15 =>
 Option.bind (i_watch_targets p0 x15) fun x19 =>
 Option.bind (bif decide (0 < (x19.length : Int)) then
  Option.bind (appS 8 s1 ([v12] : List Int)) fun x25 =>
  some (x25 : (List Int))
 else
  some (s1 : (List Int))) fun q4 =>
 some (.inr (.inr (q4 : (List Int))))
def i_watch_broken (p0 : watch) : Option ((List Int)) :=
 Option.bind (cntM (i_watch_broken_b0 p0) p0.pairs.length 0 (([] : List Int) : (List Int))) fun q2 =>
 aft (fun r => some r) (fun s3 =>
  some (s3 : (List Int))) q2
def i_BreaksIn (p0 : Sig) (p1 : Machine) (p2 : (List Clause)) : Option ((List Int)) :=
 Option.bind (i_watchAll p0 p1 p2) fun x13 =>
 bif (!x13.2) then
  some (([] : List Int) : (List Int))
 else
  Option.bind (guardS x13.1.isSome) fun _g96 =>
  Option.bind (i_watch_broken (x13.1.getD (⟨([] : List (List Int)), ([] : List (List Int)), ([] : List Pair)⟩ : watch))) fun x19 =>
  some (x19 : (List Int))
def s_l1In (p0 : Int) (p1 : Int) (p2 : Int) : Option (Bool) :=
 Option.bind (bif decide (p1 ≤ p0) then
 some (decide (p0 ≤ p2))
 else
 some false) fun p14 =>
 some (p14 : Bool)
def s_SigOk (p0 : Sig) : Option (Bool) :=
 Option.bind (s_l1In p0.In 1 2) fun x5 =>
 Option.bind (bif x5 then
 Option.bind (s_l1In p0.Out 1 2) fun x9 =>
 some x9
 else
 some false) fun p10 =>
 some (p10 : Bool)
def s_l23Power_b0  (s1 : Int × Int) : Option (Int ⊕ ((Int × Int) ⊕ (Int × Int))) :=
 bif decide (0 < s1.1) then
  some (.inr (.inr (((IntKind.i64.wrap (s1.1 - 1)) : Int), ((IntKind.i64.wrap (s1.2 * 2)) : Int))))
 else
  some (.inr (.inl ((s1.1 : Int), (s1.2 : Int))))
def s_l23Power (p0 : Int) : Option (Int) :=
 Option.bind (whileM s_l23Power_b0 (2 ^ 64) ((p0 : Int), (1 : Int))) fun q2 =>
 aft (fun r => some r) (fun s3 =>
  some (s3.2 : Int)) q2
def s_LettersOf (p0 : Sig) : Option (Int) :=
 Option.bind (s_SigOk p0) fun x4 =>
 bif (!x4) then
  some (0 : Int)
 else
  Option.bind (s_l23Power (IntKind.i64.wrap (p0.In + p0.Out))) fun x11 =>
  some (x11 : Int)
def s_l1Rises_b0 (p0 : (List Int)) (p1 : Int) (v5 : Int) (s1 : Unit) : Option (Bool ⊕ ((Unit) ⊕ (Unit))) :=
 Option.bind (idx p0 v5) fun x14 =>
 Option.bind (s_l1In x14 0 (IntKind.i64.wrap (p1 - 1))) fun x18 =>
 Option.bind (bif (!x18) then
 some true
 else
 Option.bind (bif decide (0 < v5) then
 Option.bind (idx p0 v5) fun x26 =>
 Option.bind (idx p0 (IntKind.i64.wrap (v5 - 1))) fun x31 =>
 some (decide (x26 ≤ x31))
 else
 some false) fun p34 =>
 some p34) fun p35 =>
 bif p35 then
  some (.inl (false : Bool))
 else
  some (.inr (.inr ()))
def s_l1Rises (p0 : (List Int)) (p1 : Int) : Option (Bool) :=
 Option.bind (cntM (s_l1Rises_b0 p0 p1) p0.length 0 ()) fun q2 =>
 aft (fun r => some r) (fun s3 =>
  some (true : Bool)) q2
def s_l1Set (p0 : (List Int)) (p1 : Int) : Option (Bool) :=
 Option.bind (bif decide ((p0.length : Int) ≤ p1) then
 Option.bind (s_l1Rises p0 p1) fun x12 =>
 some x12
 else
 some false) fun p13 =>
 some (p13 : Bool)
def s_l24Both (p0 : Int) : Option (Bool) :=
 Option.bind (bif (p0 == 2) then
 some true
 else
 some (p0 == 3)) fun p8 =>
 Option.bind (bif p8 then
 some true
 else
 some (p0 == 7)) fun p12 =>
 some (p12 : Bool)
def s_ClauseOk (p0 : Sig) (p1 : Clause) : Option (Bool) :=
 Option.bind (s_SigOk p0) fun x7 =>
 Option.bind (bif (!x7) then
 some true
 else
 Option.bind (s_l1In p1.Kind 1 7) fun x12 =>
 some (!x12)) fun p14 =>
 bif p14 then
  some (false : Bool)
 else
  Option.bind (s_LettersOf p0) fun x16 =>
  Option.bind (s_l1Set p1.A x16) fun x20 =>
  Option.bind (bif x20 then
  Option.bind (s_l1Set p1.B x16) fun x25 =>
  some x25
  else
  some false) fun p26 =>
  Option.bind (bif p26 then
  Option.bind (s_l24Both p1.Kind) fun x30 =>
  Option.bind (bif x30 then
  some true
  else
  some ((p1.B.length : Int) == 0)) fun p36 =>
  some p36
  else
  some false) fun p37 =>
  some (p37 : Bool)
def s_l25Pair (p0 : Int) : Option (Pair) :=
 Option.bind (bif (p0 == 1) then
  some (true : Bool)
 else
  some ((p0 == 5) : Bool)) fun q1 =>
 bif q1 then
  some ((⟨([1] : List Int), ([] : List Int)⟩ : Pair) : Pair)
 else
  bif (p0 == 2) then
   some ((⟨([2] : List Int), ([] : List Int)⟩ : Pair) : Pair)
  else
   bif (p0 == 3) then
    some ((⟨([1] : List Int), ([0] : List Int)⟩ : Pair) : Pair)
   else
    bif (p0 == 4) then
     some ((⟨([0, 1] : List Int), ([1] : List Int)⟩ : Pair) : Pair)
    else
     bif (p0 == 6) then
      some ((⟨([0] : List Int), ([] : List Int)⟩ : Pair) : Pair)
     else
      some ((⟨([2, 3] : List Int), ([1, 3] : List Int)⟩ : Pair) : Pair)
def s_l25States (p0 : Int) : Option (Int) :=
 bif (p0 == 2) then
  some (3 : Int)
 else
  bif (p0 == 7) then
   some (4 : Int)
  else
   some (2 : Int)
def s_l1Has_b0 (p0 : (List Int)) (p1 : Int) (v5 : Int) (s1 : Unit) : Option (Bool ⊕ ((Unit) ⊕ (Unit))) :=
 Option.bind (idx p0 v5) fun x14 =>
 bif (x14 == p1) then
  some (.inl (true : Bool))
 else
  some (.inr (.inr ()))
def s_l1Has (p0 : (List Int)) (p1 : Int) : Option (Bool) :=
 Option.bind (cntM (s_l1Has_b0 p0 p1) p0.length 0 ()) fun q2 =>
 aft (fun r => some r) (fun s3 =>
  some (false : Bool)) q2
def s_l1Flag (p0 : Bool) : Option (Int) :=
 bif p0 then
  some (1 : Int)
 else
  some (0 : Int)
def s_l1Max (p0 : Int) (p1 : Int) : Option (Int) :=
 bif decide (p1 < p0) then
  some (p0 : Int)
 else
  some (p1 : Int)
def s_l25Next (p0 : Clause) (p1 : Int) (p2 : Int) : Option (Int) :=
 Option.bind (s_l1Has p0.A p2) fun x12 =>
 Option.bind (s_l1Flag x12) fun x13 =>
 Option.bind (s_l1Has p0.B p2) fun x17 =>
 Option.bind (s_l1Flag x17) fun x18 =>
 bif (p0.Kind == 1) then
  Option.bind (s_l1Max p1 (IntKind.i64.wrap (1 - x13))) fun x26 =>
  some (x26 : Int)
 else
  bif (p0.Kind == 2) then
   Option.bind (bif (p1 == 2) then
   some true
   else
   Option.bind (bif (p1 == 1) then
   some (x18 == 0)
   else
   some false) fun p37 =>
   some p37) fun p38 =>
   bif p38 then
    some (2 : Int)
   else
    some (x13 : Int)
  else
   bif (p0.Kind == 3) then
    bif (x18 == 1) then
     some (0 : Int)
    else
     Option.bind (s_l1Max p1 x13) fun x46 =>
     some (x46 : Int)
   else
    bif (p0.Kind == 4) then
     some (x13 : Int)
    else
     bif (p0.Kind == 5) then
      some ((IntKind.i64.wrap (1 - x13)) : Int)
     else
      bif (p0.Kind == 6) then
       Option.bind (s_l1Max p1 x13) fun x58 =>
       some (x58 : Int)
      else
       some ((IntKind.i64.wrap ((IntKind.i64.wrap (2 * x13)) + x18)) : Int)
def s_MonitorOf_b2 (p0 : Sig) (p1 : Clause) (s1 : Int × (List (List Int))) (s4 : (List Int) × Int) : Option (Det ⊕ (((List Int) × Int) ⊕ ((List Int) × Int))) :=
 Option.bind (s_LettersOf p0) fun x29 =>
 bif decide (s4.2 < x29) then
  Option.bind (s_l25Next p1 s1.1 s4.2) fun x37 =>
  Option.bind (appS 8 s4.1 ([x37] : List Int)) fun x39 =>
  some (.inr (.inr ((x39 : (List Int)), ((IntKind.i64.wrap (s4.2 + 1)) : Int))))
 else
  some (.inr (.inl ((s4.1 : (List Int)), (s4.2 : Int))))
def s_MonitorOf_b0 (p0 : Sig) (p1 : Clause) (s1 : Int × (List (List Int))) : Option (Det ⊕ ((Int × (List (List Int))) ⊕ (Int × (List (List Int))))) :=
 Option.bind (s_l25States p1.Kind) fun x22 =>
 bif decide (s1.1 < x22) then
  Option.bind (whileM (s_MonitorOf_b2 p0 p1 s1) (2 ^ 64) ((([] : List Int) : (List Int)), (0 : Int))) fun q5 =>
  aft (fun r => some (.inl r)) (fun s6 =>
   Option.bind (appS 24 s1.2 ([s6.1] : List (List Int))) fun x44 =>
   some (.inr (.inr (((IntKind.i64.wrap (s1.1 + 1)) : Int), (x44 : (List (List Int))))))) q5
 else
  some (.inr (.inl ((s1.1 : Int), (s1.2 : (List (List Int))))))
def s_MonitorOf (p0 : Sig) (p1 : Clause) : Option (Det) :=
 Option.bind (s_ClauseOk p0 p1) fun x11 =>
 bif (!x11) then
  some ((⟨([] : List (List Int)), ([] : List Pair)⟩ : Det) : Det)
 else
  Option.bind (s_l25Pair p1.Kind) fun x16 =>
  Option.bind (whileM (s_MonitorOf_b0 p0 p1) (2 ^ 64) ((0 : Int), (([] : List (List Int)) : (List (List Int))))) fun q2 =>
  aft (fun r => some r) (fun s3 =>
   some ((⟨s3.2, ([x16] : List Pair)⟩ : Det) : Det)) q2
def i_arePairs_b0 (p0 : (List Pair)) (p1 : Int) (v9 : Int) (s1 : Unit) : Option (Bool ⊕ ((Unit) ⊕ (Unit))) :=
 Option.bind (idx p0 v9) fun x11 =>
 Option.bind (i_isSet x11.Ask p1) fun x16 =>
 Option.bind (bif (!x16) then
 some true
 else
 Option.bind (i_isSet x11.Give p1) fun x22 =>
 some (!x22)) fun p24 =>
 bif p24 then
  some (.inl (false : Bool))
 else
  some (.inr (.inr ()))
def i_arePairs (p0 : (List Pair)) (p1 : Int) : Option (Bool) :=
 Option.bind (cntM (i_arePairs_b0 p0 p1) p0.length 0 ()) fun q2 =>
 aft (fun r => some r) (fun s3 =>
  some (decide ((p0.length : Int) ≤ 4) : Bool)) q2
def i_isDet_b0 (p0 : Sig) (p1 : Det) (v27 : Int) (s1 : Unit) : Option (Bool ⊕ ((Unit) ⊕ (Unit))) :=
 Option.bind (idx p1.Next v27) fun x29 =>
 Option.bind (i_lettersOf p0) fun x34 =>
 Option.bind (bif ((x29.length : Int) != x34) then
 some true
 else
 Option.bind (i_areLetters x29 (p1.Next.length : Int)) fun x39 =>
 some (!x39)) fun p41 =>
 bif p41 then
  some (.inl (false : Bool))
 else
  some (.inr (.inr ()))
def i_isDet (p0 : Sig) (p1 : Det) : Option (Bool) :=
 Option.bind (bif decide ((p1.Next.length : Int) < 1) then
 some true
 else
 some (decide (48 < (p1.Next.length : Int)))) fun p16 =>
 Option.bind (bif p16 then
 some true
 else
 Option.bind (i_arePairs p1.Pairs (p1.Next.length : Int)) fun x21 =>
 some (!x21)) fun p23 =>
 bif p23 then
  some (false : Bool)
 else
  Option.bind (cntM (i_isDet_b0 p0 p1) p1.Next.length 0 ()) fun q2 =>
  aft (fun r => some r) (fun s3 =>
   some (true : Bool)) q2
def i_WatchOf (p0 : Sig) (p1 : Machine) (p2 : Det) : Option ((List (List Int)) × (List Pair) × Bool) :=
 Option.bind (i_isSig p0) fun x12 =>
 Option.bind (bif (!x12) then
 some true
 else
 Option.bind (i_isMachine p0 p1) fun x17 =>
 some (!x17)) fun p19 =>
 Option.bind (bif p19 then
 some true
 else
 Option.bind (i_isDet p0 p2) fun x23 =>
 some (!x23)) fun p25 =>
 bif p25 then
  some ((([] : List (List Int)) : (List (List Int))), (([] : List Pair) : (List Pair)), (false : Bool))
 else
  Option.bind (i_watchOf p0 p1 p2) fun x30 =>
  bif (!x30.2) then
   some ((([] : List (List Int)) : (List (List Int))), (([] : List Pair) : (List Pair)), (false : Bool))
  else
   Option.bind (guardS x30.1.isSome) fun _g178 =>
   some (((x30.1.getD (⟨([] : List (List Int)), ([] : List (List Int)), ([] : List Pair)⟩ : watch)).next : (List (List Int))), ((x30.1.getD (⟨([] : List (List Int)), ([] : List (List Int)), ([] : List Pair)⟩ : watch)).pairs : (List Pair)), (true : Bool))
def l_FnMoreClauses_b0 (x29 : Int × Int × Int) (x33 : (List Int)) (x39 : (List Int)) (v11 : Int) (s1 : Int) : Option (Bool ⊕ ((Int) ⊕ (Int))) :=
 Option.bind (idx x33 v11) fun x48 =>
 Option.bind (bif decide (x48 < x29.1) then
  Option.bind (bif decide ((x39.length : Int) ≤ s1) then
  some true
  else
  Option.bind (idx x39 s1) fun x59 =>
  Option.bind (idx x33 v11) fun x63 =>
  some (x59 != x63)) fun p66 =>
  bif p66 then
   some (.inl (false : Bool))
  else
   some (.inr ((IntKind.i64.wrap (s1 + 1)) : Int))
 else
  some (.inr (s1 : Int)) : Option (Bool ⊕ (Int))) fun q4 =>
 aft (fun r => some (.inl r)) (fun z4 =>
  some (.inr (.inr (z4 : Int)))) q4
def l_FnMoreClauses (p0 : (List Int)) : Option (Bool) :=
 Option.bind (l_big p0) fun x16 =>
 bif x16 then
  some (true : Bool)
 else
  Option.bind (l_roll p0 932) fun x18 =>
  Option.bind (l_w9Machine x18 (⟨1, 1⟩ : Sig) 4) fun x22 =>
  Option.bind (l_w9Clauses (⟨x18.b, x22.2.1, x22.2.2⟩ : dice) 2) fun x24 =>
  Option.bind (l_dice_below (⟨x18.b, x24.2.1, x24.2.2⟩ : dice) (IntKind.i64.wrap ((x24.1.length : Int) + 1))) fun x29 =>
  Option.bind (i_BreaksIn (⟨1, 1⟩ : Sig) x22.1 x24.1) fun x33 =>
  Option.bind (subS x24.1 0 x29.1) fun x38 =>
  Option.bind (i_BreaksIn (⟨1, 1⟩ : Sig) x22.1 x38) fun x39 =>
  Option.bind (cntM (l_FnMoreClauses_b0 x29 x33 x39) x33.length 0 (0 : Int)) fun q2 =>
  aft (fun r => some r) (fun s3 =>
   Option.bind (s_MonitorOf (⟨1, 1⟩ : Sig) (⟨4, ([0, 1, 2, 3] : List Int), ([] : List Int)⟩ : Clause)) fun x75 =>
   Option.bind (i_WatchOf (⟨1, 1⟩ : Sig) x22.1 x75) fun x76 =>
   Option.bind (bif (s3 == (x39.length : Int)) then
   some x76.2.2
   else
   some false) fun p86 =>
   Option.bind (bif p86 then
   some (decide (0 < (x76.1.length : Int)))
   else
   some false) fun p91 =>
   Option.bind (bif p91 then
   some ((x76.2.1.length : Int) == 1)
   else
   some false) fun p96 =>
   some (p96 : Bool)) q2
def s_SetOk (p0 : (List Int)) (p1 : Int) : Option (Bool) :=
 Option.bind (s_l1In p1 0 256) fun x6 =>
 Option.bind (bif x6 then
 Option.bind (s_l1Set p0 p1) fun x10 =>
 some x10
 else
 some false) fun p11 =>
 some (p11 : Bool)
def s_PairsOk_b0 (p0 : (List Pair)) (p1 : Int) (v5 : Int) (s1 : Unit) : Option (Bool ⊕ ((Unit) ⊕ (Unit))) :=
 Option.bind (idx p0 v5) fun x22 =>
 Option.bind (s_SetOk x22.Ask p1) fun x26 =>
 Option.bind (bif (!x26) then
 some true
 else
 Option.bind (idx p0 v5) fun x31 =>
 Option.bind (s_SetOk x31.Give p1) fun x35 =>
 some (!x35)) fun p37 =>
 bif p37 then
  some (.inl (false : Bool))
 else
  some (.inr (.inr ()))
def s_PairsOk (p0 : (List Pair)) (p1 : Int) : Option (Bool) :=
 Option.bind (s_l1In p1 0 256) fun x7 =>
 Option.bind (bif (!x7) then
 some true
 else
 some (decide (4 < (p0.length : Int)))) fun p13 =>
 bif p13 then
  some (false : Bool)
 else
  Option.bind (cntM (s_PairsOk_b0 p0 p1) p0.length 0 ()) fun q2 =>
  aft (fun r => some r) (fun s3 =>
   some (true : Bool)) q2
end Go.Proofs.Ytcmamhmpoinmnaa
