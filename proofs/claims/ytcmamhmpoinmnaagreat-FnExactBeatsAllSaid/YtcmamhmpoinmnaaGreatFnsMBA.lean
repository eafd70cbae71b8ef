/- The functions on data. By program. -/
import Derived.Test.YtcmamhmpoinmnaaGreatTypesBA
import Derived.Test.YtcmamhmpoinmnaaGreatCmpBA
set_option linter.unusedVariables false
set_option linter.unusedSimpArgs false
namespace Go.Proofs.YtcmamhmpoinmnaaGreat
open Go Go.Wk Go.Proofs
set_option maxRecDepth 100000
set_option maxHeartbeats 1000000
def l_szInt64S (p0 : (List Int)) (p1 : Int) : Option (Int) :=
 bif decide ((IntKind.i64.wrap (p1 - (p0.length : Int))) < 0) then
  some ((-1) : Int)
 else
  some ((IntKind.i64.wrap (p1 - (p0.length : Int))) : Int)
def l_szInt64SS_b0 (p0 : (List (List Int))) (v5 : Int) (s1 : Int) : Option (Int ⊕ ((Int) ⊕ (Int))) :=
 Option.bind (idx p0 v5) fun x20 =>
 Option.bind (l_szInt64S x20 s1) fun x23 =>
 bif decide (x23 < 0) then
  some (.inl ((-1) : Int))
 else
  some (.inr (.inr (x23 : Int)))
def l_szInt64SS (p0 : (List (List Int))) (p1 : Int) : Option (Int) :=
 bif decide ((IntKind.i64.wrap (p1 - (p0.length : Int))) < 0) then
  some ((-1) : Int)
 else
  Option.bind (cntM (l_szInt64SS_b0 p0) p0.length 0 ((IntKind.i64.wrap (p1 - (p0.length : Int))) : Int)) fun q2 =>
  aft (fun r => some r) (fun s3 =>
   some (s3 : Int)) q2
def l_szRival (p0 : Rival) (p1 : Int) : Option (Int) :=
 Option.bind (l_szInt64S p0.In p1) fun x8 =>
 bif decide (x8 < 0) then
  some ((-1) : Int)
 else
  Option.bind (l_szInt64SS p0.Next x8) fun x14 =>
  bif decide (x14 < 0) then
   some ((-1) : Int)
  else
   some (x14 : Int)
def l_szClause (p0 : Clause) (p1 : Int) : Option (Int) :=
 Option.bind (l_szInt64S p0.A p1) fun x8 =>
 bif decide (x8 < 0) then
  some ((-1) : Int)
 else
  Option.bind (l_szInt64S p0.B x8) fun x14 =>
  bif decide (x14 < 0) then
   some ((-1) : Int)
  else
   some (x14 : Int)
def l_szClauseS_b0 (p0 : (List Clause)) (v5 : Int) (s1 : Int) : Option (Int ⊕ ((Int) ⊕ (Int))) :=
 Option.bind (idx p0 v5) fun x20 =>
 Option.bind (l_szClause x20 s1) fun x23 =>
 bif decide (x23 < 0) then
  some (.inl ((-1) : Int))
 else
  some (.inr (.inr (x23 : Int)))
def l_szClauseS (p0 : (List Clause)) (p1 : Int) : Option (Int) :=
 bif decide ((IntKind.i64.wrap (p1 - (p0.length : Int))) < 0) then
  some ((-1) : Int)
 else
  Option.bind (cntM (l_szClauseS_b0 p0) p0.length 0 ((IntKind.i64.wrap (p1 - (p0.length : Int))) : Int)) fun q2 =>
  aft (fun r => some r) (fun s3 =>
   some (s3 : Int)) q2
def l_toSig (p0 : Sig) : Option (Sig) :=
 some ((⟨p0.In, p0.Out⟩ : Sig) : Sig)
def l_toInt64S_b0 (p0 : (List Int)) (v4 : Int) (s1 : (List Int)) : Option ((List Int) ⊕ (((List Int)) ⊕ ((List Int)))) :=
 Option.bind (idx p0 v4) fun x18 =>
 Option.bind (idx s1 v4) fun x20 =>
 Option.bind (setI s1 v4 x18) fun y12 =>
 some (.inr (.inr (y12 : (List Int))))
def l_toInt64S (p0 : (List Int)) : Option ((List Int)) :=
 Option.bind (mkS 8 (p0.length : Int) (0 : Int)) fun x7 =>
 Option.bind (cntM (l_toInt64S_b0 p0) p0.length 0 (x7 : (List Int))) fun q2 =>
 aft (fun r => some r) (fun s3 =>
  some (s3 : (List Int))) q2
def l_toInt64SS_b0 (p0 : (List (List Int))) (v4 : Int) (s1 : (List (List Int))) : Option ((List (List Int)) ⊕ (((List (List Int))) ⊕ ((List (List Int))))) :=
 Option.bind (idx p0 v4) fun x18 =>
 Option.bind (l_toInt64S x18) fun x20 =>
 Option.bind (idx s1 v4) fun x21 =>
 Option.bind (setI s1 v4 (x20 : (List Int))) fun y16 =>
 some (.inr (.inr (y16 : (List (List Int)))))
def l_toInt64SS (p0 : (List (List Int))) : Option ((List (List Int))) :=
 Option.bind (mkS 24 (p0.length : Int) (([] : List Int) : (List Int))) fun x7 =>
 Option.bind (cntM (l_toInt64SS_b0 p0) p0.length 0 (x7 : (List (List Int)))) fun q2 =>
 aft (fun r => some r) (fun s3 =>
  some (s3 : (List (List Int)))) q2
def l_toRival (p0 : Rival) : Option (Rival) :=
 Option.bind (l_toInt64S p0.In) fun x6 =>
 Option.bind (l_toInt64SS p0.Next) fun x10 =>
 some ((⟨x6, x10⟩ : Rival) : Rival)
def l_toClause (p0 : Clause) : Option (Clause) :=
 Option.bind (l_toInt64S p0.A) fun x9 =>
 Option.bind (l_toInt64S p0.B) fun x13 =>
 some ((⟨p0.Kind, x9, x13⟩ : Clause) : Clause)
def l_toClauseS_b0 (p0 : (List Clause)) (v4 : Int) (s1 : (List Clause)) : Option ((List Clause) ⊕ (((List Clause)) ⊕ ((List Clause)))) :=
 Option.bind (idx p0 v4) fun x18 =>
 Option.bind (l_toClause x18) fun x20 =>
 Option.bind (idx s1 v4) fun x21 =>
 Option.bind (setI s1 v4 (x20 : Clause)) fun y22 =>
 some (.inr (.inr (y22 : (List Clause))))
def l_toClauseS (p0 : (List Clause)) : Option ((List Clause)) :=
 Option.bind (mkS 56 (p0.length : Int) ((⟨0, ([] : List Int), ([] : List Int)⟩ : Clause) : Clause)) fun x7 =>
 Option.bind (cntM (l_toClauseS_b0 p0) p0.length 0 (x7 : (List Clause))) fun q2 =>
 aft (fun r => some r) (fun s3 =>
  some (s3 : (List Clause))) q2
def s_l1In (p0 : Int) (p1 : Int) (p2 : Int) : Option (Bool) :=
 Option.bind (bif decide (p1 ≤ p0) then
 some (decide (p0 ≤ p2))
 else
 some false) fun p14 =>
 some (p14 : Bool)
def s_SigOk (p0 : Sig) : Option (Bool) :=
 Option.bind (s_l1In p0.In 1 2) fun x5 =>
 Option.bind (bif x5 then
 Option.bind (s_l1In p0.Out 1 2) fun x9 =>
 some x9
 else
 some false) fun p10 =>
 some (p10 : Bool)
def s_l23Power_b0  (s1 : Int × Int) : Option (Int ⊕ ((Int × Int) ⊕ (Int × Int))) :=
 bif decide (0 < s1.1) then
  some (.inr (.inr (((IntKind.i64.wrap (s1.1 - 1)) : Int), ((IntKind.i64.wrap (s1.2 * 2)) : Int))))
 else
  some (.inr (.inl ((s1.1 : Int), (s1.2 : Int))))
def s_l23Power (p0 : Int) : Option (Int) :=
 Option.bind (whileM s_l23Power_b0 (2 ^ 64) ((p0 : Int), (1 : Int))) fun q2 =>
 aft (fun r => some r) (fun s3 =>
  some (s3.2 : Int)) q2
def s_LettersOf (p0 : Sig) : Option (Int) :=
 Option.bind (s_SigOk p0) fun x4 =>
 bif (!x4) then
  some (0 : Int)
 else
  Option.bind (s_l23Power (IntKind.i64.wrap (p0.In + p0.Out))) fun x11 =>
  some (x11 : Int)
def s_l1Rises_b0 (p0 : (List Int)) (p1 : Int) (v5 : Int) (s1 : Unit) : Option (Bool ⊕ ((Unit) ⊕ (Unit))) :=
 Option.bind (idx p0 v5) fun x14 =>
 Option.bind (s_l1In x14 0 (IntKind.i64.wrap (p1 - 1))) fun x18 =>
 Option.bind (bif (!x18) then
 some true
 else
 Option.bind (bif decide (0 < v5) then
 Option.bind (idx p0 v5) fun x26 =>
 Option.bind (idx p0 (IntKind.i64.wrap (v5 - 1))) fun x31 =>
 some (decide (x26 ≤ x31))
 else
 some false) fun p34 =>
 some p34) fun p35 =>
 bif p35 then
  some (.inl (false : Bool))
 else
  some (.inr (.inr ()))
def s_l1Rises (p0 : (List Int)) (p1 : Int) : Option (Bool) :=
 Option.bind (cntM (s_l1Rises_b0 p0 p1) p0.length 0 ()) fun q2 =>
 aft (fun r => some r) (fun s3 =>
  some (true : Bool)) q2
def s_l1Set (p0 : (List Int)) (p1 : Int) : Option (Bool) :=
 Option.bind (bif decide ((p0.length : Int) ≤ p1) then
 Option.bind (s_l1Rises p0 p1) fun x12 =>
 some x12
 else
 some false) fun p13 =>
 some (p13 : Bool)
def s_l24Both (p0 : Int) : Option (Bool) :=
 Option.bind (bif (p0 == 2) then
 some true
 else
 some (p0 == 3)) fun p8 =>
 Option.bind (bif p8 then
 some true
 else
 some (p0 == 7)) fun p12 =>
 some (p12 : Bool)
def s_ClauseOk (p0 : Sig) (p1 : Clause) : Option (Bool) :=
 Option.bind (s_SigOk p0) fun x7 =>
 Option.bind (bif (!x7) then
 some true
 else
 Option.bind (s_l1In p1.Kind 1 7) fun x12 =>
 some (!x12)) fun p14 =>
 bif p14 then
  some (false : Bool)
 else
  Option.bind (s_LettersOf p0) fun x16 =>
  Option.bind (s_l1Set p1.A x16) fun x20 =>
  Option.bind (bif x20 then
  Option.bind (s_l1Set p1.B x16) fun x25 =>
  some x25
  else
  some false) fun p26 =>
  Option.bind (bif p26 then
  Option.bind (s_l24Both p1.Kind) fun x30 =>
  Option.bind (bif x30 then
  some true
  else
  some ((p1.B.length : Int) == 0)) fun p36 =>
  some p36
  else
  some false) fun p37 =>
  some (p37 : Bool)
def s_ClausesOk_b0 (p0 : Sig) (p1 : (List Clause)) (v5 : Int) (s1 : Unit) : Option (Bool ⊕ ((Unit) ⊕ (Unit))) :=
 Option.bind (idx p1 v5) fun x23 =>
 Option.bind (s_ClauseOk p0 x23) fun x25 =>
 bif (!x25) then
  some (.inl (false : Bool))
 else
  some (.inr (.inr ()))
def s_ClausesOk (p0 : Sig) (p1 : (List Clause)) : Option (Bool) :=
 Option.bind (s_SigOk p0) fun x7 =>
 Option.bind (bif (!x7) then
 some true
 else
 some (decide (3 < (p1.length : Int)))) fun p13 =>
 bif p13 then
  some (false : Bool)
 else
  Option.bind (cntM (s_ClausesOk_b0 p0 p1) p1.length 0 ()) fun q2 =>
  aft (fun r => some r) (fun s3 =>
   some (true : Bool)) q2
def s_l25Pair (p0 : Int) : Option (Pair) :=
 Option.bind (bif (p0 == 1) then
  some (true : Bool)
 else
  some ((p0 == 5) : Bool)) fun q1 =>
 bif q1 then
  some ((⟨([1] : List Int), ([] : List Int)⟩ : Pair) : Pair)
 else
  bif (p0 == 2) then
   some ((⟨([2] : List Int), ([] : List Int)⟩ : Pair) : Pair)
  else
   bif (p0 == 3) then
    some ((⟨([1] : List Int), ([0] : List Int)⟩ : Pair) : Pair)
   else
    bif (p0 == 4) then
     some ((⟨([0, 1] : List Int), ([1] : List Int)⟩ : Pair) : Pair)
    else
     bif (p0 == 6) then
      some ((⟨([0] : List Int), ([] : List Int)⟩ : Pair) : Pair)
     else
      some ((⟨([2, 3] : List Int), ([1, 3] : List Int)⟩ : Pair) : Pair)
def s_l25States (p0 : Int) : Option (Int) :=
 bif (p0 == 2) then
  some (3 : Int)
 else
  bif (p0 == 7) then
   some (4 : Int)
  else
   some (2 : Int)
def s_l1Has_b0 (p0 : (List Int)) (p1 : Int) (v5 : Int) (s1 : Unit) : Option (Bool ⊕ ((Unit) ⊕ (Unit))) :=
 Option.bind (idx p0 v5) fun x14 =>
 bif (x14 == p1) then
  some (.inl (true : Bool))
 else
  some (.inr (.inr ()))
def s_l1Has (p0 : (List Int)) (p1 : Int) : Option (Bool) :=
 Option.bind (cntM (s_l1Has_b0 p0 p1) p0.length 0 ()) fun q2 =>
 aft (fun r => some r) (fun s3 =>
  some (false : Bool)) q2
def s_l1Flag (p0 : Bool) : Option (Int) :=
 bif p0 then
  some (1 : Int)
 else
  some (0 : Int)
def s_l1Max (p0 : Int) (p1 : Int) : Option (Int) :=
 bif decide (p1 < p0) then
  some (p0 : Int)
 else
  some (p1 : Int)
def s_l25Next (p0 : Clause) (p1 : Int) (p2 : Int) : Option (Int) :=
 Option.bind (s_l1Has p0.A p2) fun x12 =>
 Option.bind (s_l1Flag x12) fun x13 =>
 Option.bind (s_l1Has p0.B p2) fun x17 =>
 Option.bind (s_l1Flag x17) fun x18 =>
 bif (p0.Kind == 1) then
  Option.bind (s_l1Max p1 (IntKind.i64.wrap (1 - x13))) fun x26 =>
  some (x26 : Int)
 else
  bif (p0.Kind == 2) then
   Option.bind (bif (p1 == 2) then
   some true
   else
   Option.bind (bif (p1 == 1) then
   some (x18 == 0)
   else
   some false) fun p37 =>
   some p37) fun p38 =>
   bif p38 then
    some (2 : Int)
   else
    some (x13 : Int)
  else
   bif (p0.Kind == 3) then
    bif (x18 == 1) then
     some (0 : Int)
    else
     Option.bind (s_l1Max p1 x13) fun x46 =>
     some (x46 : Int)
   else
    bif (p0.Kind == 4) then
     some (x13 : Int)
    else
     bif (p0.Kind == 5) then
      some ((IntKind.i64.wrap (1 - x13)) : Int)
     else
      bif (p0.Kind == 6) then
       Option.bind (s_l1Max p1 x13) fun x58 =>
       some (x58 : Int)
      else
       some ((IntKind.i64.wrap ((IntKind.i64.wrap (2 * x13)) + x18)) : Int)
def s_MonitorOf_b2 (p0 : Sig) (p1 : Clause) (s1 : Int × (List (List Int))) (s4 : (List Int) × Int) : Option (Det ⊕ (((List Int) × Int) ⊕ ((List Int) × Int))) :=
 Option.bind (s_LettersOf p0) fun x29 =>
 bif decide (s4.2 < x29) then
  Option.bind (s_l25Next p1 s1.1 s4.2) fun x37 =>
  Option.bind (appS 8 s4.1 ([x37] : List Int)) fun x39 =>
  some (.inr (.inr ((x39 : (List Int)), ((IntKind.i64.wrap (s4.2 + 1)) : Int))))
 else
  some (.inr (.inl ((s4.1 : (List Int)), (s4.2 : Int))))
def s_MonitorOf_b0 (p0 : Sig) (p1 : Clause) (s1 : Int × (List (List Int))) : Option (Det ⊕ ((Int × (List (List Int))) ⊕ (Int × (List (List Int))))) :=
 Option.bind (s_l25States p1.Kind) fun x22 =>
 bif decide (s1.1 < x22) then
  Option.bind (whileM (s_MonitorOf_b2 p0 p1 s1) (2 ^ 64) ((([] : List Int) : (List Int)), (0 : Int))) fun q5 =>
  aft (fun r => some (.inl r)) (fun s6 =>
   Option.bind (appS 24 s1.2 ([s6.1] : List (List Int))) fun x44 =>
   some (.inr (.inr (((IntKind.i64.wrap (s1.1 + 1)) : Int), (x44 : (List (List Int))))))) q5
 else
  some (.inr (.inl ((s1.1 : Int), (s1.2 : (List (List Int))))))
def s_MonitorOf (p0 : Sig) (p1 : Clause) : Option (Det) :=
 Option.bind (s_ClauseOk p0 p1) fun x11 =>
 bif (!x11) then
  some ((⟨([] : List (List Int)), ([] : List Pair)⟩ : Det) : Det)
 else
  Option.bind (s_l25Pair p1.Kind) fun x16 =>
  Option.bind (whileM (s_MonitorOf_b0 p0 p1) (2 ^ 64) ((0 : Int), (([] : List (List Int)) : (List (List Int))))) fun q2 =>
  aft (fun r => some r) (fun s3 =>
   some ((⟨s3.2, ([x16] : List Pair)⟩ : Det) : Det)) q2
def s_l23Below_b0 (p0 : (List Int)) (p1 : Int) (v5 : Int) (s1 : Unit) : Option (Bool ⊕ ((Unit) ⊕ (Unit))) :=
 Option.bind (idx p0 v5) fun x14 =>
 Option.bind (s_l1In x14 0 (IntKind.i64.wrap (p1 - 1))) fun x18 =>
 bif (!x18) then
  some (.inl (false : Bool))
 else
  some (.inr (.inr ()))
def s_l23Below (p0 : (List Int)) (p1 : Int) : Option (Bool) :=
 Option.bind (cntM (s_l23Below_b0 p0 p1) p0.length 0 ()) fun q2 =>
 aft (fun r => some r) (fun s3 =>
  some (true : Bool)) q2
def s_SetOk (p0 : (List Int)) (p1 : Int) : Option (Bool) :=
 Option.bind (s_l1In p1 0 256) fun x6 =>
 Option.bind (bif x6 then
 Option.bind (s_l1Set p0 p1) fun x10 =>
 some x10
 else
 some false) fun p11 =>
 some (p11 : Bool)
def s_PairsOk_b0 (p0 : (List Pair)) (p1 : Int) (v5 : Int) (s1 : Unit) : Option (Bool ⊕ ((Unit) ⊕ (Unit))) :=
 Option.bind (idx p0 v5) fun x22 =>
 Option.bind (s_SetOk x22.Ask p1) fun x26 =>
 Option.bind (bif (!x26) then
 some true
 else
 Option.bind (idx p0 v5) fun x31 =>
 Option.bind (s_SetOk x31.Give p1) fun x35 =>
 some (!x35)) fun p37 =>
 bif p37 then
  some (.inl (false : Bool))
 else
  some (.inr (.inr ()))
def s_PairsOk (p0 : (List Pair)) (p1 : Int) : Option (Bool) :=
 Option.bind (s_l1In p1 0 256) fun x7 =>
 Option.bind (bif (!x7) then
 some true
 else
 some (decide (4 < (p0.length : Int)))) fun p13 =>
 bif p13 then
  some (false : Bool)
 else
  Option.bind (cntM (s_PairsOk_b0 p0 p1) p0.length 0 ()) fun q2 =>
  aft (fun r => some r) (fun s3 =>
   some (true : Bool)) q2
def s_DetOk_b0 (p0 : Sig) (p1 : Det) (v6 : Int) (s1 : Unit) : Option (Bool ⊕ ((Unit) ⊕ (Unit))) :=
 Option.bind (idx p1.Next v6) fun x28 =>
 Option.bind (s_LettersOf p0) fun x32 =>
 Option.bind (bif ((x28.length : Int) != x32) then
 some true
 else
 Option.bind (idx p1.Next v6) fun x38 =>
 Option.bind (s_l23Below x38 (p1.Next.length : Int)) fun x41 =>
 some (!x41)) fun p43 =>
 bif p43 then
  some (.inl (false : Bool))
 else
  some (.inr (.inr ()))
def s_DetOk (p0 : Sig) (p1 : Det) : Option (Bool) :=
 Option.bind (s_SigOk p0) fun x11 =>
 Option.bind (bif (!x11) then
 some true
 else
 Option.bind (s_l1In (p1.Next.length : Int) 1 48) fun x15 =>
 some (!x15)) fun p17 =>
 bif p17 then
  some (false : Bool)
 else
  Option.bind (cntM (s_DetOk_b0 p0 p1) p1.Next.length 0 ()) fun q2 =>
  aft (fun r => some r) (fun s3 =>
   Option.bind (s_PairsOk p1.Pairs (p1.Next.length : Int)) fun x47 =>
   some (x47 : Bool)) q2
def s_l26Place_b0 (p0 : (List (List Int))) (p1 : Int) (p2 : Int) (v7 : Int) (s1 : Unit) : Option (Int ⊕ ((Unit) ⊕ (Unit))) :=
 Option.bind (idx p0 v7) fun x16 =>
 Option.bind (idx x16 0) fun x18 =>
 Option.bind (bif (x18 == p1) then
 Option.bind (idx p0 v7) fun x25 =>
 Option.bind (idx x25 1) fun x27 =>
 some (x27 == p2)
 else
 some false) fun p31 =>
 bif p31 then
  some (.inl (v7 : Int))
 else
  some (.inr (.inr ()))
def s_l26Place (p0 : (List (List Int))) (p1 : Int) (p2 : Int) : Option (Int) :=
 Option.bind (cntM (s_l26Place_b0 p0 p1 p2) p0.length 0 ()) fun q2 =>
 aft (fun r => some r) (fun s3 =>
  some ((-1) : Int)) q2
def s_l26Pairs_b2 (p0 : (List Pair)) (p1 : (List (List Int))) (p2 : Int) (v8 : Int) (v10 : Int) (s4 : (List Int) × (List Int)) : Option ((List Pair) ⊕ (((List Int) × (List Int)) ⊕ ((List Int) × (List Int)))) :=
 Option.bind (idx p0 v8) fun x27 =>
 Option.bind (idx p1 v10) fun x32 =>
 Option.bind (idx x32 p2) fun x35 =>
 Option.bind (s_l1Has x27.Ask x35) fun x37 =>
 Option.bind (bif x37 then
  Option.bind (appS 8 s4.1 ([v10] : List Int)) fun x42 =>
  some (x42 : (List Int))
 else
  some (s4.1 : (List Int))) fun q7 =>
 Option.bind (idx p0 v8) fun x46 =>
 Option.bind (idx p1 v10) fun x51 =>
 Option.bind (idx x51 p2) fun x54 =>
 Option.bind (s_l1Has x46.Give x54) fun x56 =>
 Option.bind (bif x56 then
  Option.bind (appS 8 s4.2 ([v10] : List Int)) fun x61 =>
  some (x61 : (List Int))
 else
  some (s4.2 : (List Int))) fun q8 =>
 some (.inr (.inr ((q7 : (List Int)), (q8 : (List Int)))))
def s_l26Pairs_b0 (p0 : (List Pair)) (p1 : (List (List Int))) (p2 : Int) (v8 : Int) (s1 : (List Pair)) : Option ((List Pair) ⊕ (((List Pair)) ⊕ ((List Pair)))) :=
 Option.bind (cntM (s_l26Pairs_b2 p0 p1 p2 v8) p1.length 0 ((([] : List Int) : (List Int)), (([] : List Int) : (List Int)))) fun q5 =>
 aft (fun r => some (.inl r)) (fun s6 =>
  Option.bind (appS 48 s1 ([(⟨s6.1, s6.2⟩ : Pair)] : List Pair)) fun x66 =>
  some (.inr (.inr (x66 : (List Pair))))) q5
def s_l26Pairs (p0 : (List Pair)) (p1 : (List (List Int))) (p2 : Int) : Option ((List Pair)) :=
 Option.bind (cntM (s_l26Pairs_b0 p0 p1 p2) p0.length 0 (([] : List Pair) : (List Pair))) fun q2 =>
 aft (fun r => some r) (fun s3 =>
  some (s3 : (List Pair))) q2
def s_l26Joined_b2 (p0 : Det) (p1 : Det) (s1 : (List (List Int)) × Int × (List (List Int))) (v12 : Int) (s4 : (List (List Int)) × (List Int)) : Option ((Det × Bool) ⊕ (((List (List Int)) × (List Int)) ⊕ ((List (List Int)) × (List Int)))) :=
 Option.bind (idx s4.1 s1.2.1) fun x35 =>
 Option.bind (idx x35 0) fun x37 =>
 Option.bind (idx p0.Next x37) fun x39 =>
 Option.bind (idx x39 v12) fun x42 =>
 Option.bind (idx s4.1 s1.2.1) fun x48 =>
 Option.bind (idx x48 1) fun x50 =>
 Option.bind (idx p1.Next x50) fun x52 =>
 Option.bind (idx x52 v12) fun x55 =>
 Option.bind (s_l26Place s4.1 x42 x55) fun x60 =>
 Option.bind (bif decide (x60 < 0) then
  Option.bind (appS 24 s4.1 ([([x42, x55] : List Int)] : List (List Int))) fun x70 =>
  some ((x70 : (List (List Int))), ((s4.1.length : Int) : Int))
 else
  some ((s4.1 : (List (List Int))), (x60 : Int))) fun q7 =>
 Option.bind (appS 8 s4.2 ([q7.2] : List Int)) fun x74 =>
 some (.inr (.inr ((q7.1 : (List (List Int))), (x74 : (List Int)))))
def s_l26Joined_b0 (p0 : Det) (p1 : Det) (p2 : Int) (s1 : (List (List Int)) × Int × (List (List Int))) : Option ((Det × Bool) ⊕ (((List (List Int)) × Int × (List (List Int))) ⊕ ((List (List Int)) × Int × (List (List Int))))) :=
 bif decide (s1.2.1 < (s1.1.length : Int)) then
  Option.bind (rng p2) fun _ =>
  Option.bind (cntM (s_l26Joined_b2 p0 p1 s1) (Int.toNat (p2 - 0)) 0 ((s1.1 : (List (List Int))), (([] : List Int) : (List Int)))) fun q5 =>
  aft (fun r => some (.inl r)) (fun s6 =>
   bif decide (48 < (s6.1.length : Int)) then
    some (.inl (((⟨([] : List (List Int)), ([] : List Pair)⟩ : Det) : Det), (false : Bool)))
   else
    Option.bind (appS 24 s1.2.2 ([s6.2] : List (List Int))) fun x83 =>
    some (.inr (.inr ((s6.1 : (List (List Int))), ((IntKind.i64.wrap (s1.2.1 + 1)) : Int), (x83 : (List (List Int))))))) q5
 else
  some (.inr (.inl ((s1.1 : (List (List Int))), (s1.2.1 : Int), (s1.2.2 : (List (List Int))))))
def s_l26Joined (p0 : Det) (p1 : Det) (p2 : Int) : Option (Det × Bool) :=
 Option.bind (whileM (s_l26Joined_b0 p0 p1 p2) (2 ^ 64) ((([([0, 0] : List Int)] : List (List Int)) : (List (List Int))), (0 : Int), (([] : List (List Int)) : (List (List Int))))) fun q2 =>
 aft (fun r => some r) (fun s3 =>
  Option.bind (s_l26Pairs p0.Pairs s3.1 0) fun x88 =>
  Option.bind (s_l26Pairs p1.Pairs s3.1 1) fun x92 =>
  Option.bind (appS 48 x88 x92) fun x93 =>
  some (((⟨s3.2.2, x93⟩ : Det) : Det), (true : Bool))) q2
def s_JoinedDet (p0 : Sig) (p1 : Det) (p2 : Det) : Option (Det × Bool) :=
 Option.bind (s_DetOk p0 p1) fun x10 =>
 Option.bind (bif (!x10) then
 some true
 else
 Option.bind (s_DetOk p0 p2) fun x15 =>
 some (!x15)) fun p17 =>
 Option.bind (bif p17 then
 some true
 else
 some (decide (4 < (IntKind.i64.wrap ((p1.Pairs.length : Int) + (p2.Pairs.length : Int)))))) fun p27 =>
 bif p27 then
  some (((⟨([] : List (List Int)), ([] : List Pair)⟩ : Det) : Det), (false : Bool))
 else
  Option.bind (s_LettersOf p0) fun x32 =>
  Option.bind (s_l26Joined p1 p2 x32) fun x33 =>
  some ((x33.1 : Det), (x33.2 : Bool))
def s_ProductOf_b0 (p0 : Sig) (p1 : (List Clause)) (v7 : Int) (s1 : (List (List Int)) × (List Pair)) : Option ((Det × Bool) ⊕ (((List (List Int)) × (List Pair)) ⊕ ((List (List Int)) × (List Pair)))) :=
 Option.bind (idx p1 v7) fun x32 =>
 Option.bind (s_MonitorOf p0 x32) fun x34 =>
 Option.bind (s_JoinedDet p0 (⟨s1.1, s1.2⟩ : Det) x34) fun x35 =>
 bif (!x35.2) then
  some (.inl (((⟨([] : List (List Int)), ([] : List Pair)⟩ : Det) : Det), (false : Bool)))
 else
  some (.inr (.inr ((x35.1.Next : (List (List Int))), (x35.1.Pairs : (List Pair)))))
def s_ProductOf (p0 : Sig) (p1 : (List Clause)) : Option (Det × Bool) :=
 Option.bind (s_ClausesOk p0 p1) fun x12 =>
 bif (!x12) then
  some (((⟨([] : List (List Int)), ([] : List Pair)⟩ : Det) : Det), (false : Bool))
 else
  Option.bind (s_LettersOf p0) fun x16 =>
  Option.bind (mkS 8 x16 (0 : Int)) fun x17 =>
  Option.bind (cntM (s_ProductOf_b0 p0 p1) p1.length 0 ((([x17] : List (List Int)) : (List (List Int))), (([] : List Pair) : (List Pair)))) fun q2 =>
  aft (fun r => some r) (fun s3 =>
   some (((⟨s3.1, s3.2⟩ : Det) : Det), (true : Bool))) q2
def s_l27Inputs (p0 : Sig) : Option (Int) :=
 Option.bind (s_l23Power p0.In) fun x5 =>
 some (x5 : Int)
def s_l33Outputs (p0 : Sig) : Option (Int) :=
 Option.bind (s_l23Power p0.Out) fun x5 =>
 some (x5 : Int)
def s_RivalOk_b0 (p0 : Sig) (p1 : Rival) (v6 : Int) (s1 : Unit) : Option (Bool ⊕ ((Unit) ⊕ (Unit))) :=
 Option.bind (idx p1.Next v6) fun x45 =>
 Option.bind (s_l33Outputs p0) fun x49 =>
 Option.bind (bif ((x45.length : Int) != x49) then
 some true
 else
 Option.bind (idx p1.Next v6) fun x55 =>
 Option.bind (s_l23Below x55 (p1.In.length : Int)) fun x58 =>
 some (!x58)) fun p60 =>
 bif p60 then
  some (.inl (false : Bool))
 else
  some (.inr (.inr ()))
def s_RivalOk (p0 : Sig) (p1 : Rival) : Option (Bool) :=
 Option.bind (s_SigOk p0) fun x11 =>
 Option.bind (bif (!x11) then
 some true
 else
 Option.bind (s_l1In (p1.In.length : Int) 1 256) fun x15 =>
 some (!x15)) fun p17 =>
 Option.bind (bif p17 then
 some true
 else
 some ((p1.Next.length : Int) != (p1.In.length : Int))) fun p26 =>
 Option.bind (bif p26 then
 some true
 else
 Option.bind (s_l27Inputs p0) fun x31 =>
 Option.bind (s_l23Below p1.In x31) fun x32 =>
 some (!x32)) fun p34 =>
 bif p34 then
  some (false : Bool)
 else
  Option.bind (cntM (s_RivalOk_b0 p0 p1) p1.Next.length 0 ()) fun q2 =>
  aft (fun r => some r) (fun s3 =>
   some (true : Bool)) q2
def s_LetterOf (p0 : Sig) (p1 : Int) (p2 : Int) : Option (Int) :=
 Option.bind (s_SigOk p0) fun x8 =>
 Option.bind (bif (!x8) then
 some true
 else
 Option.bind (s_l23Power p0.In) fun x14 =>
 Option.bind (s_l1In p1 0 (IntKind.i64.wrap (x14 - 1))) fun x16 =>
 some (!x16)) fun p18 =>
 Option.bind (bif p18 then
 some true
 else
 Option.bind (s_l23Power p0.Out) fun x23 =>
 Option.bind (s_l1In p2 0 (IntKind.i64.wrap (x23 - 1))) fun x25 =>
 some (!x25)) fun p27 =>
 bif p27 then
  some ((-1) : Int)
 else
  Option.bind (s_l23Power p0.In) fun x31 =>
  some ((IntKind.i64.wrap ((IntKind.i64.wrap (p2 * x31)) + p1)) : Int)
def s_l1Copy (p0 : (List Int)) : Option ((List Int)) :=
 Option.bind (appS 8 ([] : List Int) p0) fun x5 =>
 some (x5 : (List Int))
def s_l1Into_b0 (p0 : (List Int)) (p1 : Int) (s1 : Int) : Option ((List Int) ⊕ ((Int) ⊕ (Int))) :=
 Option.bind (bif decide (s1 < (p0.length : Int)) then
 Option.bind (idx p0 s1) fun x14 =>
 some (decide (x14 < p1))
 else
 some false) fun p18 =>
 bif p18 then
  some (.inr (.inr ((IntKind.i64.wrap (s1 + 1)) : Int)))
 else
  some (.inr (.inl (s1 : Int)))
def s_l1Into (p0 : (List Int)) (p1 : Int) : Option ((List Int)) :=
 Option.bind (whileM (s_l1Into_b0 p0 p1) (2 ^ 64) (0 : Int)) fun q2 =>
 aft (fun r => some r) (fun s3 =>
  Option.bind (bif decide (s3 < (p0.length : Int)) then
  Option.bind (idx p0 s3) fun x28 =>
  some (x28 == p1)
  else
  some false) fun p32 =>
  bif p32 then
   some (p0 : (List Int))
  else
   Option.bind (subS p0 0 s3) fun x36 =>
   Option.bind (s_l1Copy x36) fun x37 =>
   Option.bind (appS 8 x37 ([p1] : List Int)) fun x40 =>
   Option.bind (subS p0 s3 (p0.length : Int)) fun x44 =>
   Option.bind (appS 8 x40 x44) fun x45 =>
   some (x45 : (List Int))) q2
def s_AllOf_b0 (p0 : Int) (s1 : (List Int) × Int) : Option ((List Int) ⊕ (((List Int) × Int) ⊕ ((List Int) × Int))) :=
 Option.bind (bif decide (s1.2 < p0) then
 some (decide (p0 ≤ 256))
 else
 some false) fun p12 =>
 bif p12 then
  Option.bind (appS 8 s1.1 ([s1.2] : List Int)) fun x18 =>
  some (.inr (.inr ((x18 : (List Int)), ((IntKind.i64.wrap (s1.2 + 1)) : Int))))
 else
  some (.inr (.inl ((s1.1 : (List Int)), (s1.2 : Int))))
def s_AllOf (p0 : Int) : Option ((List Int)) :=
 Option.bind (whileM (s_AllOf_b0 p0) (2 ^ 64) ((([] : List Int) : (List Int)), (0 : Int))) fun q2 =>
 aft (fun r => some r) (fun s3 =>
  some (s3.1 : (List Int))) q2
def s_l1Marks_b0 (p0 : (List Int)) (v6 : Int) (s1 : (List Bool)) : Option ((List Bool) ⊕ (((List Bool)) ⊕ ((List Bool)))) :=
 Option.bind (idx p0 v6) fun x18 =>
 Option.bind (idx s1 x18) fun x20 =>
 Option.bind (setI s1 x18 true) fun y138 =>
 some (.inr (.inr (y138 : (List Bool))))
def s_l1Marks (p0 : (List Int)) (p1 : Int) : Option ((List Bool)) :=
 Option.bind (mkS 1 p1 (false : Bool)) fun x8 =>
 Option.bind (cntM (s_l1Marks_b0 p0) p0.length 0 (x8 : (List Bool))) fun q2 =>
 aft (fun r => some r) (fun s3 =>
  some (s3 : (List Bool))) q2
def s_l1Beyond_b2 (p0 : (List (List Int))) (p1 : (List Bool)) (x24 : Int) (s4 : (List Int) × Int × (List Bool)) : Option ((List Bool) ⊕ (((List Int) × Int × (List Bool)) ⊕ ((List Int) × Int × (List Bool)))) :=
 Option.bind (idx p0 x24) fun x34 =>
 bif decide (s4.2.1 < (x34.length : Int)) then
  Option.bind (idx p0 x24) fun x42 =>
  Option.bind (idx x42 s4.2.1) fun x45 =>
  Option.bind (idx p1 x45) fun x49 =>
  Option.bind (bif x49 then
  Option.bind (idx s4.2.2 x45) fun x54 =>
  some (!x54)
  else
  some false) fun p57 =>
  Option.bind (bif p57 then
   Option.bind (idx s4.2.2 x45) fun x60 =>
   Option.bind (setI s4.2.2 x45 true) fun y144 =>
   Option.bind (appS 8 s4.1 ([x45] : List Int)) fun x64 =>
   some ((x64 : (List Int)), (y144 : (List Bool)))
  else
   some ((s4.1 : (List Int)), (s4.2.2 : (List Bool)))) fun q7 =>
  some (.inr (.inr ((q7.1 : (List Int)), ((IntKind.i64.wrap (s4.2.1 + 1)) : Int), (q7.2 : (List Bool)))))
 else
  some (.inr (.inl ((s4.1 : (List Int)), (s4.2.1 : Int), (s4.2.2 : (List Bool)))))
def s_l1Beyond_b0 (p0 : (List (List Int))) (p1 : (List Bool)) (s1 : (List Int) × (List Bool)) : Option ((List Bool) ⊕ (((List Int) × (List Bool)) ⊕ ((List Int) × (List Bool)))) :=
 bif decide (0 < (s1.1.length : Int)) then
  Option.bind (idx s1.1 (IntKind.i64.wrap ((s1.1.length : Int) - 1))) fun x24 =>
  Option.bind (subS s1.1 0 (IntKind.i64.wrap ((s1.1.length : Int) - 1))) fun x30 =>
  Option.bind (whileM (s_l1Beyond_b2 p0 p1 x24) (2 ^ 64) ((x30 : (List Int)), (0 : Int), (s1.2 : (List Bool)))) fun q5 =>
  aft (fun r => some (.inl r)) (fun s6 =>
   some (.inr (.inr ((s6.1 : (List Int)), (s6.2.2 : (List Bool)))))) q5
 else
  some (.inr (.inl ((s1.1 : (List Int)), (s1.2 : (List Bool)))))
def s_l1Beyond (p0 : (List (List Int))) (p1 : (List Bool)) (p2 : (List Int)) : Option ((List Bool)) :=
 Option.bind (mkS 1 (p0.length : Int) (false : Bool)) fun x14 =>
 Option.bind (s_l1Copy p2) fun x16 =>
 Option.bind (whileM (s_l1Beyond_b0 p0 p1) (2 ^ 64) ((x16 : (List Int)), (x14 : (List Bool)))) fun q2 =>
 aft (fun r => some r) (fun s3 =>
  some (s3.2 : (List Bool))) q2
def s_l2Both (p0 : (List Int)) (p1 : (List Int)) : Option (Bool) :=
 Option.bind (s_SetOk p0 256) fun x6 =>
 Option.bind (bif x6 then
 Option.bind (s_SetOk p1 256) fun x9 =>
 some x9
 else
 some false) fun p10 =>
 some (p10 : Bool)
def s_MeetOf_b0 (p0 : (List Int)) (p1 : (List Int)) (v6 : Int) (s1 : (List Int)) : Option ((List Int) ⊕ (((List Int)) ⊕ ((List Int)))) :=
 Option.bind (idx p0 v6) fun x22 =>
 Option.bind (s_l1Has p1 x22) fun x24 =>
 Option.bind (bif x24 then
  Option.bind (idx p0 v6) fun x28 =>
  Option.bind (appS 8 s1 ([x28] : List Int)) fun x31 =>
  some (x31 : (List Int))
 else
  some (s1 : (List Int))) fun q4 =>
 some (.inr (.inr (q4 : (List Int))))
def s_MeetOf (p0 : (List Int)) (p1 : (List Int)) : Option ((List Int)) :=
 Option.bind (s_l2Both p0 p1) fun x10 =>
 bif (!x10) then
  some (([] : List Int) : (List Int))
 else
  Option.bind (cntM (s_MeetOf_b0 p0 p1) p0.length 0 (([] : List Int) : (List Int))) fun q2 =>
  aft (fun r => some r) (fun s3 =>
   some (s3 : (List Int))) q2
def s_BothOf_b0 (p1 : (List Int)) (v6 : Int) (s1 : (List Int)) : Option ((List Int) ⊕ (((List Int)) ⊕ ((List Int)))) :=
 Option.bind (idx p1 v6) fun x23 =>
 Option.bind (s_l1Into s1 x23) fun x25 =>
 some (.inr (.inr (x25 : (List Int))))
def s_BothOf (p0 : (List Int)) (p1 : (List Int)) : Option ((List Int)) :=
 Option.bind (s_l2Both p0 p1) fun x9 =>
 bif (!x9) then
  some (([] : List Int) : (List Int))
 else
  Option.bind (s_l1Copy p0) fun x13 =>
  Option.bind (cntM (s_BothOf_b0 p1) p1.length 0 (x13 : (List Int))) fun q2 =>
  aft (fun r => some r) (fun s3 =>
   some (s3 : (List Int))) q2
def s_l33Vain_b0 (p0 : (List Pair)) (p1 : (List Int)) (v6 : Int) (s1 : (List Int)) : Option ((List Int) ⊕ (((List Int)) ⊕ ((List Int)))) :=
 Option.bind (idx p0 v6) fun x18 =>
 Option.bind (s_MeetOf p1 x18.Ask) fun x21 =>
 Option.bind (bif decide (0 < (x21.length : Int)) then
 Option.bind (idx p0 v6) fun x29 =>
 Option.bind (s_MeetOf p1 x29.Give) fun x32 =>
 some ((x32.length : Int) == 0)
 else
 some false) fun p35 =>
 Option.bind (bif p35 then
  Option.bind (s_BothOf s1 x21) fun x38 =>
  some (x38 : (List Int))
 else
  some (s1 : (List Int))) fun q4 =>
 some (.inr (.inr (q4 : (List Int))))
def s_l33Vain (p0 : (List Pair)) (p1 : (List Int)) : Option ((List Int)) :=
 Option.bind (cntM (s_l33Vain_b0 p0 p1) p0.length 0 (([] : List Int) : (List Int))) fun q2 =>
 aft (fun r => some r) (fun s3 =>
  some (s3 : (List Int))) q2
def s_l1Loops_b0 (p0 : (List (List Int))) (x18 : (List Bool)) (v7 : Int) (s1 : (List (List Bool))) : Option ((List (List Int)) ⊕ (((List (List Bool))) ⊕ ((List (List Bool))))) :=
 Option.bind (idx x18 v7) fun x28 =>
 Option.bind (bif x28 then
  Option.bind (s_l1Beyond p0 x18 ([v7] : List Int)) fun x35 =>
  Option.bind (appS 24 s1 ([x35] : List (List Bool))) fun x37 =>
  some (x37 : (List (List Bool)))
 else
  Option.bind (appS 24 s1 ([([] : List Bool)] : List (List Bool))) fun x41 =>
  some (x41 : (List (List Bool)))) fun q4 =>
 some (.inr (.inr (q4 : (List (List Bool)))))
def s_l1Loops_b4 (p1 : (List Int)) (s3 : (List (List Bool))) (x54 : Int) (v13 : Int) (s8 : (List Int) × (List Bool)) : Option ((List (List Int)) ⊕ (((List Int) × (List Bool)) ⊕ ((List Int) × (List Bool)))) :=
 Option.bind (idx p1 v13) fun x79 =>
 Option.bind (idx s3 x54) fun x83 =>
 Option.bind (idx x83 x79) fun x86 =>
 Option.bind (bif x86 then
 Option.bind (idx s3 x79) fun x91 =>
 Option.bind (idx x91 x54) fun x94 =>
 some x94
 else
 some false) fun p96 =>
 Option.bind (bif p96 then
  Option.bind (appS 8 s8.1 ([x79] : List Int)) fun x100 =>
  Option.bind (idx s8.2 x79) fun x103 =>
  Option.bind (setI s8.2 x79 true) fun y153 =>
  some ((x100 : (List Int)), (y153 : (List Bool)))
 else
  some ((s8.1 : (List Int)), (s8.2 : (List Bool)))) fun q11 =>
 some (.inr (.inr ((q11.1 : (List Int)), (q11.2 : (List Bool)))))
def s_l1Loops_b2 (p1 : (List Int)) (s3 : (List (List Bool))) (v10 : Int) (s5 : (List (List Int)) × (List Bool)) : Option ((List (List Int)) ⊕ (((List (List Int)) × (List Bool)) ⊕ ((List (List Int)) × (List Bool)))) :=
 Option.bind (idx p1 v10) fun x54 =>
 Option.bind (idx s5.2 x54) fun x58 =>
 Option.bind (bif x58 then
 some true
 else
 Option.bind (idx s3 x54) fun x63 =>
 Option.bind (idx x63 x54) fun x66 =>
 some (!x66)) fun p69 =>
 bif p69 then
  some (.inr (.inr ((s5.1 : (List (List Int))), (s5.2 : (List Bool)))))
 else
  Option.bind (cntM (s_l1Loops_b4 p1 s3 x54) p1.length 0 ((([] : List Int) : (List Int)), (s5.2 : (List Bool)))) fun q9 =>
  aft (fun r => some (.inl r)) (fun s10 =>
   Option.bind (appS 24 s5.1 ([s10.1] : List (List Int))) fun x107 =>
   some (.inr (.inr ((x107 : (List (List Int))), (s10.2 : (List Bool)))))) q9
def s_l1Loops (p0 : (List (List Int))) (p1 : (List Int)) : Option ((List (List Int))) :=
 Option.bind (s_l1Marks p1 (p0.length : Int)) fun x18 =>
 Option.bind (cntM (s_l1Loops_b0 p0 x18) p0.length 0 (([] : List (List Bool)) : (List (List Bool)))) fun q2 =>
 aft (fun r => some r) (fun s3 =>
  Option.bind (mkS 1 (p0.length : Int) (false : Bool)) fun x45 =>
  Option.bind (cntM (s_l1Loops_b2 p1 s3) p1.length 0 ((([] : List (List Int)) : (List (List Int))), (x45 : (List Bool)))) fun q6 =>
  aft (fun r => some r) (fun s7 =>
   some (s7.1 : (List (List Int)))) q6) q2
def s_LessOf_b0 (p0 : (List Int)) (p1 : (List Int)) (v6 : Int) (s1 : (List Int)) : Option ((List Int) ⊕ (((List Int)) ⊕ ((List Int)))) :=
 Option.bind (idx p0 v6) fun x22 =>
 Option.bind (s_l1Has p1 x22) fun x24 =>
 Option.bind (bif (!x24) then
  Option.bind (idx p0 v6) fun x29 =>
  Option.bind (appS 8 s1 ([x29] : List Int)) fun x32 =>
  some (x32 : (List Int))
 else
  some (s1 : (List Int))) fun q4 =>
 some (.inr (.inr (q4 : (List Int))))
def s_LessOf (p0 : (List Int)) (p1 : (List Int)) : Option ((List Int)) :=
 Option.bind (s_l2Both p0 p1) fun x10 =>
 bif (!x10) then
  some (([] : List Int) : (List Int))
 else
  Option.bind (cntM (s_LessOf_b0 p0 p1) p0.length 0 (([] : List Int) : (List Int))) fun q2 =>
  aft (fun r => some r) (fun s3 =>
   some (s3 : (List Int))) q2
def s_l33Fair_b0 (rc : (List (List Int)) → (List Pair) → (List Int) → Option (Bool)) (p0 : (List (List Int))) (p1 : (List Pair)) (x12 : (List (List Int))) (v8 : Int) (s1 : Unit) : Option (Bool ⊕ ((Unit) ⊕ (Unit))) :=
 Option.bind (idx x12 v8) fun x22 =>
 Option.bind (s_l33Vain p1 x22) fun x24 =>
 Option.bind (bif ((x24.length : Int) == 0) then
 some true
 else
 Option.bind (idx x12 v8) fun x33 =>
 Option.bind (s_LessOf x33 x24) fun x36 =>
 Option.bind (rc p0 p1 x36) fun x37 =>
 some x37) fun p38 =>
 bif p38 then
  some (.inl (true : Bool))
 else
  some (.inr (.inr ()))
def s_l33Fair_s (rc : (List (List Int)) → (List Pair) → (List Int) → Option (Bool)) (p0 : (List (List Int))) (p1 : (List Pair)) (p2 : (List Int)) : Option (Bool) :=
 Option.bind (s_l1Loops p0 p2) fun x12 =>
 Option.bind (cntM (s_l33Fair_b0 rc p0 p1 x12) x12.length 0 ()) fun q2 =>
 aft (fun r => some r) (fun s3 =>
  some (false : Bool)) q2
def s_l33Fair : Nat → (List (List Int)) → (List Pair) → (List Int) → Option (Bool)
 | 0 => fun _ _ _ => none
 | n + 1 => s_l33Fair_s (s_l33Fair n)
def s_BeatsAll_b2 (p0 : Sig) (p1 : Rival) (x20 : Det × Bool) (s1 : (List (List Int)) × (List (List Int)) × Int) (s4 : (List (List Int)) × (List Int) × Int) : Option (Bool ⊕ (((List (List Int)) × (List Int) × Int) ⊕ ((List (List Int)) × (List Int) × Int))) :=
 Option.bind (s_l33Outputs p0) fun x43 =>
 bif decide (s4.2.2 < x43) then
  Option.bind (idx s4.1 s1.2.2) fun x51 =>
  Option.bind (idx s4.1 s1.2.2) fun x62 =>
  Option.bind (idx x51 0) fun x53 =>
  Option.bind (idx x20.1.Next x53) fun x55 =>
  Option.bind (idx x62 1) fun x64 =>
  Option.bind (idx p1.In x64) fun x66 =>
  Option.bind (s_LetterOf p0 x66 s4.2.2) fun x69 =>
  Option.bind (idx x55 x69) fun x70 =>
  Option.bind (idx s4.1 s1.2.2) fun x76 =>
  Option.bind (idx x76 1) fun x78 =>
  Option.bind (idx p1.Next x78) fun x80 =>
  Option.bind (idx x80 s4.2.2) fun x83 =>
  Option.bind (s_l26Place s4.1 x70 x83) fun x88 =>
  Option.bind (bif decide (x88 < 0) then
   Option.bind (appS 24 s4.1 ([([x70, x83] : List Int)] : List (List Int))) fun x98 =>
   some ((x98 : (List (List Int))), ((s4.1.length : Int) : Int))
  else
   some ((s4.1 : (List (List Int))), (x88 : Int))) fun q7 =>
  Option.bind (s_l1Into s4.2.1 q7.2) fun x101 =>
  some (.inr (.inr ((q7.1 : (List (List Int))), (x101 : (List Int)), ((IntKind.i64.wrap (s4.2.2 + 1)) : Int))))
 else
  some (.inr (.inl ((s4.1 : (List (List Int))), (s4.2.1 : (List Int)), (s4.2.2 : Int))))
def s_BeatsAll_b0 (p0 : Sig) (p1 : Rival) (x20 : Det × Bool) (s1 : (List (List Int)) × (List (List Int)) × Int) : Option (Bool ⊕ (((List (List Int)) × (List (List Int)) × Int) ⊕ ((List (List Int)) × (List (List Int)) × Int))) :=
 bif decide (s1.2.2 < (s1.1.length : Int)) then
  Option.bind (whileM (s_BeatsAll_b2 p0 p1 x20 s1) (2 ^ 64) ((s1.1 : (List (List Int))), (([] : List Int) : (List Int)), (0 : Int))) fun q5 =>
  aft (fun r => some (.inl r)) (fun s6 =>
   bif decide (256 < (s6.1.length : Int)) then
    some (.inl (false : Bool))
   else
    Option.bind (appS 24 s1.2.1 ([s6.2.1] : List (List Int))) fun x108 =>
    some (.inr (.inr ((s6.1 : (List (List Int))), (x108 : (List (List Int))), ((IntKind.i64.wrap (s1.2.2 + 1)) : Int))))) q5
 else
  some (.inr (.inl ((s1.1 : (List (List Int))), (s1.2.1 : (List (List Int))), (s1.2.2 : Int))))
def s_BeatsAll (p0 : Sig) (p1 : Rival) (p2 : (List Clause)) : Option (Bool) :=
 Option.bind (s_ProductOf p0 p2) fun x20 =>
 Option.bind (bif (!x20.2) then
 some true
 else
 Option.bind (s_RivalOk p0 p1) fun x28 =>
 some (!x28)) fun p30 =>
 bif p30 then
  some (false : Bool)
 else
  Option.bind (whileM (s_BeatsAll_b0 p0 p1 x20) (2 ^ 64) ((([([0, 0] : List Int)] : List (List Int)) : (List (List Int))), (([] : List (List Int)) : (List (List Int))), (0 : Int))) fun q2 =>
  aft (fun r => some r) (fun s3 =>
   Option.bind (s_l26Pairs x20.1.Pairs s3.1 0) fun x113 =>
   Option.bind (s_AllOf (s3.1.length : Int)) fun x116 =>
   Option.bind (s_l33Fair (2 ^ 64) s3.2.1 x113 x116) fun x117 =>
   some ((!x117) : Bool)) q2
def i_isSig (p0 : Sig) : Option (Bool) :=
 Option.bind (bif decide (1 ≤ p0.In) then
 some (decide (p0.In ≤ 2))
 else
 some false) fun p10 =>
 Option.bind (bif p10 then
 some (decide (1 ≤ p0.Out))
 else
 some false) fun p15 =>
 Option.bind (bif p15 then
 some (decide (p0.Out ≤ 2))
 else
 some false) fun p20 =>
 some (p20 : Bool)
def i_inputsOf (p0 : Sig) : Option (Int) :=
 Option.bind (nn p0.In) fun _z5 =>
 some ((IntKind.i64.wrap (1 * 2 ^ (min (Int.toNat p0.In) (IntKind.bits IntKind.i64)))) : Int)
def i_areLetters_1 (p0 : Int) (c0 : Int) : Option (Bool) :=
 Option.bind (bif decide (p0 < 0) then
 some true
 else
 some (decide (c0 ≤ p0))) fun p10 =>
 some (p10 : Bool)
def slices_IndexFunc_I_int64__i_areLetters_1_b0 (p0 : (List Int)) (c1_0 : Int) (v8 : Int) (s1 : Unit) : Option (Int ⊕ ((Unit) ⊕ (Unit))) :=
 Option.bind (idx p0 v8) fun x14 =>
 Option.bind (i_areLetters_1 x14 c1_0) fun x16 =>
 bif x16 then
  some (.inl (v8 : Int))
 else
  some (.inr (.inr ()))
def slices_IndexFunc_I_int64__i_areLetters_1 (p0 : (List Int)) (c1_0 : Int) : Option (Int) :=
 Option.bind (cntM (slices_IndexFunc_I_int64__i_areLetters_1_b0 p0 c1_0) p0.length 0 ()) fun q2 =>
 aft (fun r => some r) (fun s3 =>
  some ((-1) : Int)) q2
def slices_ContainsFunc_I_int64__i_areLetters_1 (p0 : (List Int)) (c1_0 : Int) : Option (Bool) :=
 Option.bind (slices_IndexFunc_I_int64__i_areLetters_1 p0 c1_0) fun x7 =>
 some (decide (0 ≤ x7) : Bool)
def i_areLetters (p0 : (List Int)) (p1 : Int) : Option (Bool) :=
 Option.bind (slices_ContainsFunc_I_int64__i_areLetters_1 p0 p1) fun x7 =>
 some ((!x7) : Bool)
def i_isRival_b0 (p0 : Sig) (p1 : Rival) (v37 : Int) (s1 : Unit) : Option (Bool ⊕ ((Unit) ⊕ (Unit))) :=
 Option.bind (idx p1.Next v37) fun x39 =>
 Option.bind (nn p0.Out) fun _z45 =>
 Option.bind (bif ((x39.length : Int) != (IntKind.i64.wrap (1 * 2 ^ (min (Int.toNat p0.Out) (IntKind.bits IntKind.i64))))) then
 some true
 else
 Option.bind (i_areLetters x39 (p1.In.length : Int)) fun x50 =>
 some (!x50)) fun p52 =>
 bif p52 then
  some (.inl (false : Bool))
 else
  some (.inr (.inr ()))
def i_isRival (p0 : Sig) (p1 : Rival) : Option (Bool) :=
 Option.bind (bif decide ((p1.In.length : Int) < 1) then
 some true
 else
 some (decide (256 < (p1.In.length : Int)))) fun p16 =>
 Option.bind (bif p16 then
 some true
 else
 some ((p1.Next.length : Int) != (p1.In.length : Int))) fun p25 =>
 Option.bind (bif p25 then
 some true
 else
 Option.bind (i_inputsOf p0) fun x30 =>
 Option.bind (i_areLetters p1.In x30) fun x31 =>
 some (!x31)) fun p33 =>
 bif p33 then
  some (false : Bool)
 else
  Option.bind (cntM (i_isRival_b0 p0 p1) p1.Next.length 0 ()) fun q2 =>
  aft (fun r => some r) (fun s3 =>
   some (true : Bool)) q2
def i_lettersOf (p0 : Sig) : Option (Int) :=
 Option.bind (nn (IntKind.i64.wrap (p0.In + p0.Out))) fun _z8 =>
 some ((IntKind.i64.wrap (1 * 2 ^ (min (Int.toNat (IntKind.i64.wrap (p0.In + p0.Out))) (IntKind.bits IntKind.i64)))) : Int)
def i_isSet_b0 (p0 : (List Int)) (p1 : Int) (v9 : Int) (s1 : Unit) : Option (Bool ⊕ ((Unit) ⊕ (Unit))) :=
 Option.bind (idx p0 v9) fun x12 =>
 Option.bind (bif decide (x12 < 0) then
 some true
 else
 some (decide (p1 ≤ x12))) fun p20 =>
 Option.bind (bif p20 then
 some true
 else
 Option.bind (bif decide (0 < v9) then
 Option.bind (idx p0 (IntKind.i64.wrap (v9 - 1))) fun x29 =>
 some (decide (x12 ≤ x29))
 else
 some false) fun p32 =>
 some p32) fun p33 =>
 bif p33 then
  some (.inl (false : Bool))
 else
  some (.inr (.inr ()))
def i_isSet (p0 : (List Int)) (p1 : Int) : Option (Bool) :=
 Option.bind (cntM (i_isSet_b0 p0 p1) p0.length 0 ()) fun q2 =>
 aft (fun r => some r) (fun s3 =>
  some (true : Bool)) q2
def i_hasSecond (p0 : Int) : Option (Bool) :=
 Option.bind (bif (p0 == 2) then
 some true
 else
 some (p0 == 3)) fun p8 =>
 Option.bind (bif p8 then
 some true
 else
 some (p0 == 7)) fun p12 =>
 some (p12 : Bool)
def i_isClause (p0 : Sig) (p1 : Clause) : Option (Bool) :=
 Option.bind (bif decide (p1.Kind < 1) then
 some true
 else
 some (decide (7 < p1.Kind))) fun p12 =>
 Option.bind (bif p12 then
 some true
 else
 Option.bind (i_lettersOf p0) fun x17 =>
 Option.bind (i_isSet p1.A x17) fun x18 =>
 some (!x18)) fun p20 =>
 Option.bind (bif p20 then
 some true
 else
 Option.bind (i_lettersOf p0) fun x25 =>
 Option.bind (i_isSet p1.B x25) fun x26 =>
 some (!x26)) fun p28 =>
 bif p28 then
  some (false : Bool)
 else
  Option.bind (i_hasSecond p1.Kind) fun x31 =>
  Option.bind (bif x31 then
  some true
  else
  some ((p1.B.length : Int) == 0)) fun p37 =>
  some (p37 : Bool)
def i_areClauses_1 (p0 : Clause) (c0 : Sig) : Option (Bool) :=
 Option.bind (i_isClause c0 p0) fun x6 =>
 some ((!x6) : Bool)
def slices_IndexFunc_i_Clause_i_Clause__i_areClauses_1_b0 (p0 : (List Clause)) (c1_0 : Sig) (v8 : Int) (s1 : Unit) : Option (Int ⊕ ((Unit) ⊕ (Unit))) :=
 Option.bind (idx p0 v8) fun x14 =>
 Option.bind (i_areClauses_1 x14 c1_0) fun x16 =>
 bif x16 then
  some (.inl (v8 : Int))
 else
  some (.inr (.inr ()))
def slices_IndexFunc_i_Clause_i_Clause__i_areClauses_1 (p0 : (List Clause)) (c1_0 : Sig) : Option (Int) :=
 Option.bind (cntM (slices_IndexFunc_i_Clause_i_Clause__i_areClauses_1_b0 p0 c1_0) p0.length 0 ()) fun q2 =>
 aft (fun r => some r) (fun s3 =>
  some ((-1) : Int)) q2
def slices_ContainsFunc_i_Clause_i_Clause__i_areClauses_1 (p0 : (List Clause)) (c1_0 : Sig) : Option (Bool) :=
 Option.bind (slices_IndexFunc_i_Clause_i_Clause__i_areClauses_1 p0 c1_0) fun x7 =>
 some (decide (0 ≤ x7) : Bool)
def i_areClauses (p0 : Sig) (p1 : (List Clause)) : Option (Bool) :=
 Option.bind (bif decide ((p1.length : Int) ≤ 3) then
 Option.bind (slices_ContainsFunc_i_Clause_i_Clause__i_areClauses_1 p1 p0) fun x11 =>
 some (!x11)
 else
 some false) fun p13 =>
 some (p13 : Bool)
def slices_Index_I_int64_b0 (p0 : (List Int)) (p1 : Int) (v8 : Int) (s1 : Unit) : Option (Int ⊕ ((Unit) ⊕ (Unit))) :=
 Option.bind (idx p0 v8) fun x14 =>
 bif (p1 == x14) then
  some (.inl (v8 : Int))
 else
  some (.inr (.inr ()))
def slices_Index_I_int64 (p0 : (List Int)) (p1 : Int) : Option (Int) :=
 Option.bind (cntM (slices_Index_I_int64_b0 p0 p1) p0.length 0 ()) fun q2 =>
 aft (fun r => some r) (fun s3 =>
  some ((-1) : Int)) q2
def slices_Contains_I_int64 (p0 : (List Int)) (p1 : Int) : Option (Bool) :=
 Option.bind (slices_Index_I_int64 p0 p1) fun x7 =>
 some (decide (0 ≤ x7) : Bool)
def i_monitorStep (p0 : Int) (p1 : Int) (p2 : Bool) (p3 : Bool) : Option (Int) :=
 Option.bind (bif p2 then
  some (1 : Int)
 else
  some (0 : Int)) fun q1 =>
 Option.bind (bif p3 then
  some ((true : Bool), (1 : Int))
 else
  some ((false : Bool), (0 : Int))) fun q2 =>
 bif (p0 == 1) then
  some ((if p1 < (IntKind.i64.wrap (1 - q1)) then (IntKind.i64.wrap (1 - q1)) else p1) : Int)
 else
  bif (p0 == 2) then
   Option.bind (bif (p1 == 2) then
   some true
   else
   Option.bind (bif (p1 == 1) then
   some (!q2.1)
   else
   some false) fun p30 =>
   some p30) fun p31 =>
   bif p31 then
    some (2 : Int)
   else
    some (q1 : Int)
  else
   bif (p0 == 3) then
    bif q2.1 then
     some (0 : Int)
    else
     some ((if p1 < q1 then q1 else p1) : Int)
   else
    bif (p0 == 4) then
     some (q1 : Int)
    else
     bif (p0 == 5) then
      some ((IntKind.i64.wrap (1 - q1)) : Int)
     else
      bif (p0 == 6) then
       some ((if p1 < q1 then q1 else p1) : Int)
      else
       some ((IntKind.i64.wrap ((IntKind.i64.wrap (2 * q1)) + q2.2)) : Int)
def i_monitorOf_b3 (p1 : Clause) (v44 : Int) (v50 : Int) (s10 : (List Int)) : Option (Det ⊕ (((List Int)) ⊕ ((List Int)))) :=
 Option.bind (slices_Contains_I_int64 p1.A v50) fun x60 =>
 Option.bind (slices_Contains_I_int64 p1.B v50) fun x64 =>
 Option.bind (i_monitorStep p1.Kind v44 x60 x64) fun x65 =>
 Option.bind (appS 8 s10 ([x65] : List Int)) fun x67 =>
 some (.inr (.inr (x67 : (List Int))))
def i_monitorOf_b1 (p0 : Sig) (p1 : Clause) (v44 : Int) (s7 : (List (List Int))) : Option (Det ⊕ (((List (List Int))) ⊕ ((List (List Int))))) :=
 Option.bind (i_lettersOf p0) fun x49 =>
 Option.bind (rng x49) fun _ =>
 Option.bind (cntM (i_monitorOf_b3 p1 v44) (Int.toNat (x49 - 0)) 0 (([] : List Int) : (List Int))) fun q11 =>
 aft (fun r => some (.inl r)) (fun s12 =>
  Option.bind (appS 24 s7 ([s12] : List (List Int))) fun x73 =>
  some (.inr (.inr (x73 : (List (List Int)))))) q11
def i_monitorOf (p0 : Sig) (p1 : Clause) : Option (Det) :=
 Option.bind (bif (p1.Kind == 1) then
  some (true : Bool)
 else
  some ((p1.Kind == 5) : Bool)) fun q1 =>
 Option.bind (bif q1 then
  some ((2 : Int), (([1] : List Int) : (List Int)), (([] : List Int) : (List Int)))
 else
  Option.bind (bif (p1.Kind == 2) then
   some ((3 : Int), (([2] : List Int) : (List Int)), (([] : List Int) : (List Int)))
  else
   Option.bind (bif (p1.Kind == 3) then
    some ((2 : Int), (([1] : List Int) : (List Int)), (([0] : List Int) : (List Int)))
   else
    Option.bind (bif (p1.Kind == 4) then
     some ((2 : Int), (([0, 1] : List Int) : (List Int)), (([1] : List Int) : (List Int)))
    else
     Option.bind (bif (p1.Kind == 6) then
      some ((2 : Int), (([0] : List Int) : (List Int)), (([] : List Int) : (List Int)))
     else
      some ((4 : Int), (([2, 3] : List Int) : (List Int)), (([1, 3] : List Int) : (List Int)))) fun q6 =>
     some ((q6.1 : Int), (q6.2.1 : (List Int)), (q6.2.2 : (List Int)))) fun q5 =>
    some ((q5.1 : Int), (q5.2.1 : (List Int)), (q5.2.2 : (List Int)))) fun q4 =>
   some ((q4.1 : Int), (q4.2.1 : (List Int)), (q4.2.2 : (List Int)))) fun q3 =>
  some ((q3.1 : Int), (q3.2.1 : (List Int)), (q3.2.2 : (List Int)))) fun q2 =>
 Option.bind (rng q2.1) fun _ =>
 Option.bind (cntM (i_monitorOf_b1 p0 p1) (Int.toNat (q2.1 - 0)) 0 (([] : List (List Int)) : (List (List Int)))) fun q8 =>
 aft (fun r => some r) (fun s9 =>
  some ((⟨s9, ([(⟨q2.2.1, q2.2.2⟩ : Pair)] : List Pair)⟩ : Det) : Det)) q8
def slices_Index_2_int64_2_int64_b0 (p0 : (List (Int × Int))) (p1 : (Int × Int)) (v8 : Int) (s1 : Unit) : Option (Int ⊕ ((Unit) ⊕ (Unit))) :=
 Option.bind (idx p0 v8) fun x14 =>
 bif ((p1.1 == x14.1) && (p1.2 == x14.2)) then
  some (.inl (v8 : Int))
 else
  some (.inr (.inr ()))
def slices_Index_2_int64_2_int64 (p0 : (List (Int × Int))) (p1 : (Int × Int)) : Option (Int) :=
 Option.bind (cntM (slices_Index_2_int64_2_int64_b0 p0 p1) p0.length 0 ()) fun q2 =>
 aft (fun r => some r) (fun s3 =>
  some ((-1) : Int)) q2
def i_joinedDet_b2 (p1 : Det) (s1 : (List (Int × Int)) × Int × (List (List Int))) (x47 : (List Int)) (v50 : Int) (s4 : (List (Int × Int)) × (List Int)) : Option ((Det × Bool) ⊕ (((List (Int × Int)) × (List Int)) ⊕ ((List (Int × Int)) × (List Int)))) :=
 Option.bind (idx x47 v50) fun x53 =>
 Option.bind (idx s4.1 s1.2.1) fun x60 =>
 Option.bind (idx p1.Next x60.2) fun x63 =>
 Option.bind (idx x63 v50) fun x66 =>
 Option.bind (slices_Index_2_int64_2_int64 s4.1 (x53, x66)) fun x71 =>
 Option.bind (bif decide (x71 < 0) then
  Option.bind (appS 16 s4.1 ([(x53, x66)] : List (Int × Int))) fun x79 =>
  some ((x79 : (List (Int × Int))), ((s4.1.length : Int) : Int))
 else
  some ((s4.1 : (List (Int × Int))), (x71 : Int))) fun q7 =>
 Option.bind (appS 8 s4.2 ([q7.2] : List Int)) fun x83 =>
 some (.inr (.inr ((q7.1 : (List (Int × Int))), (x83 : (List Int)))))
def i_joinedDet_b0 (p0 : Det) (p1 : Det) (s1 : (List (Int × Int)) × Int × (List (List Int))) : Option ((Det × Bool) ⊕ (((List (Int × Int)) × Int × (List (List Int))) ⊕ ((List (Int × Int)) × Int × (List (List Int))))) :=
 bif decide (s1.2.1 < (s1.1.length : Int)) then
  Option.bind (idx s1.1 s1.2.1) fun x44 =>
  Option.bind (idx p0.Next x44.1) fun x47 =>
  Option.bind (cntM (i_joinedDet_b2 p1 s1 x47) x47.length 0 ((s1.1 : (List (Int × Int))), (([] : List Int) : (List Int)))) fun q5 =>
  aft (fun r => some (.inl r)) (fun s6 =>
   bif decide (48 < (s6.1.length : Int)) then
    some (.inl (((⟨([] : List (List Int)), ([] : List Pair)⟩ : Det) : Det), (false : Bool)))
   else
    Option.bind (appS 24 s1.2.2 ([s6.2] : List (List Int))) fun x93 =>
    some (.inr (.inr ((s6.1 : (List (Int × Int))), ((IntKind.i64.wrap (s1.2.1 + 1)) : Int), (x93 : (List (List Int))))))) q5
 else
  some (.inr (.inl ((s1.1 : (List (Int × Int))), (s1.2.1 : Int), (s1.2.2 : (List (List Int))))))
def i_joinedDet_b8 (s3 : (List (Int × Int)) × Int × (List (List Int))) (v99 : Int) (x109 : Pair) (v114 : Int) (s14 : (List Int) × (List Int)) : Option ((Det × Bool) ⊕ (((List Int) × (List Int)) ⊕ ((List Int) × (List Int)))) :=
 Option.bind (idx s3.1 v114) fun x117 =>
 Option.bind (idx ([x117.1, x117.2] : List Int) v99) fun x122 =>
 Option.bind (slices_Contains_I_int64 x109.Ask x122) fun x124 =>
 Option.bind (bif x124 then
  Option.bind (appS 8 s14.1 ([v114] : List Int)) fun x129 =>
  some (x129 : (List Int))
 else
  some (s14.1 : (List Int))) fun q17 =>
 Option.bind (idx ([x117.1, x117.2] : List Int) v99) fun x134 =>
 Option.bind (slices_Contains_I_int64 x109.Give x134) fun x136 =>
 Option.bind (bif x136 then
  Option.bind (appS 8 s14.2 ([v114] : List Int)) fun x141 =>
  some (x141 : (List Int))
 else
  some (s14.2 : (List Int))) fun q18 =>
 some (.inr (.inr ((q17 : (List Int)), (q18 : (List Int)))))
def i_joinedDet_b6 (s3 : (List (Int × Int)) × Int × (List (List Int))) (v99 : Int) (x102 : Det) (v107 : Int) (s11 : (List Pair)) : Option ((Det × Bool) ⊕ (((List Pair)) ⊕ ((List Pair)))) :=
 Option.bind (idx x102.Pairs v107) fun x109 =>
 Option.bind (cntM (i_joinedDet_b8 s3 v99 x109) s3.1.length 0 ((([] : List Int) : (List Int)), (([] : List Int) : (List Int)))) fun q15 =>
 aft (fun r => some (.inl r)) (fun s16 =>
  Option.bind (appS 48 s11 ([(⟨s16.1, s16.2⟩ : Pair)] : List Pair)) fun x148 =>
  some (.inr (.inr (x148 : (List Pair))))) q15
def i_joinedDet_b4 (p0 : Det) (p1 : Det) (s3 : (List (Int × Int)) × Int × (List (List Int))) (v99 : Int) (s8 : (List Pair)) : Option ((Det × Bool) ⊕ (((List Pair)) ⊕ ((List Pair)))) :=
 Option.bind (idx ([p0, p1] : List Det) v99) fun x102 =>
 Option.bind (cntM (i_joinedDet_b6 s3 v99 x102) x102.Pairs.length 0 (s8 : (List Pair))) fun q12 =>
 aft (fun r => some (.inl r)) (fun s13 =>
  some (.inr (.inr (s13 : (List Pair))))) q12
def i_joinedDet (p0 : Det) (p1 : Det) : Option (Det × Bool) :=
 bif decide (4 < (IntKind.i64.wrap ((p0.Pairs.length : Int) + (p1.Pairs.length : Int)))) then
  some (((⟨([] : List (List Int)), ([] : List Pair)⟩ : Det) : Det), (false : Bool))
 else
  Option.bind (whileM (i_joinedDet_b0 p0 p1) (2 ^ 64) ((([(0, 0)] : List (Int × Int)) : (List (Int × Int))), (0 : Int), (([] : List (List Int)) : (List (List Int))))) fun q2 =>
  aft (fun r => some r) (fun s3 =>
   Option.bind (cntM (i_joinedDet_b4 p0 p1 s3) ([p0, p1] : List Det).length 0 (([] : List Pair) : (List Pair))) fun q9 =>
   aft (fun r => some r) (fun s10 =>
    some (((⟨s3.2.2, s10⟩ : Det) : Det), (true : Bool))) q9) q2
def i_ProductOf_b0 (p0 : Sig) (p1 : (List Clause)) (v28 : Int) (s1 : (List (List Int)) × (List Pair)) : Option ((Det × Bool) ⊕ (((List (List Int)) × (List Pair)) ⊕ ((List (List Int)) × (List Pair)))) :=
 Option.bind (idx p1 v28) fun x30 =>
 Option.bind (i_monitorOf p0 x30) fun x36 =>
 Option.bind (i_joinedDet (⟨s1.1, s1.2⟩ : Det) x36) fun x37 =>
 bif (!x37.2) then
  some (.inl (((⟨([] : List (List Int)), ([] : List Pair)⟩ : Det) : Det), (false : Bool)))
 else
  some (.inr (.inr ((x37.1.Next : (List (List Int))), (x37.1.Pairs : (List Pair)))))
def i_ProductOf (p0 : Sig) (p1 : (List Clause)) : Option (Det × Bool) :=
 Option.bind (i_isSig p0) fun x12 =>
 Option.bind (bif (!x12) then
 some true
 else
 Option.bind (i_areClauses p0 p1) fun x17 =>
 some (!x17)) fun p19 =>
 bif p19 then
  some (((⟨([] : List (List Int)), ([] : List Pair)⟩ : Det) : Det), (false : Bool))
 else
  Option.bind (i_lettersOf p0) fun x22 =>
  Option.bind (mkS 8 x22 (0 : Int)) fun x23 =>
  Option.bind (cntM (i_ProductOf_b0 p0 p1) p1.length 0 ((([x23] : List (List Int)) : (List (List Int))), (([] : List Pair) : (List Pair)))) fun q2 =>
  aft (fun r => some r) (fun s3 =>
   some (((⟨s3.1, s3.2⟩ : Det) : Det), (true : Bool))) q2
def i_AllOf_b0  (v4 : Int) (s1 : (List Int)) : Option ((List Int) ⊕ (((List Int)) ⊕ ((List Int)))) :=
 Option.bind (appS 8 s1 ([v4] : List Int)) fun x20 =>
 some (.inr (.inr (x20 : (List Int))))
def i_AllOf (p0 : Int) : Option ((List Int)) :=
 Option.bind (bif decide (p0 < 0) then
 some true
 else
 some (decide (256 < p0))) fun p10 =>
 bif p10 then
  some (([] : List Int) : (List Int))
 else
  Option.bind (rng p0) fun _ =>
  Option.bind (cntM i_AllOf_b0 (Int.toNat (p0 - 0)) 0 (([] : List Int) : (List Int))) fun q2 =>
  aft (fun r => some r) (fun s3 =>
   some (s3 : (List Int))) q2
def i_markAll_b0 (p1 : (List Int)) (v8 : Int) (s1 : (List Bool)) : Option ((List Bool) ⊕ (((List Bool)) ⊕ ((List Bool)))) :=
 Option.bind (idx p1 v8) fun x10 =>
 Option.bind (idx s1 x10) fun x14 =>
 Option.bind (setI s1 x10 true) fun y256 =>
 some (.inr (.inr (y256 : (List Bool))))
def i_markAll (p0 : (List Bool)) (p1 : (List Int)) : Option ((List Bool)) :=
 Option.bind (cntM (i_markAll_b0 p1) p1.length 0 (p0 : (List Bool))) fun q2 =>
 aft (fun r => some r) (fun s3 =>
  some (s3 : (List Bool))) q2
def i_loopsIn_2 (p0 : Int) (c0 : (List Int)) : Option ((List Int)) :=
 Option.bind (appS 8 c0 ([p0] : List Int)) fun x6 =>
 some (x6 : (List Int))
def i_loopsIn_1__i_loopsIn_2__i_loopsIn_1_b0 (rc : Int → (List (List Int)) → (List Int) → (List Bool) → (List Bool) → Option ((List Int) × (List Bool))) (p1 : (List (List Int))) (c1 : (List Bool)) (x16 : (List Int)) (v19 : Int) (s1 : (List Int) × (List Bool)) : Option (((List Int) × (List Bool)) ⊕ (((List Int) × (List Bool)) ⊕ ((List Int) × (List Bool)))) :=
 Option.bind (idx x16 v19) fun x21 =>
 Option.bind (idx c1 x21) fun x25 =>
 Option.bind (bif x25 then
 Option.bind (idx s1.2 x21) fun x30 =>
 some (!x30)
 else
 some false) fun p33 =>
 Option.bind (bif p33 then
  Option.bind (rc x21 p1 s1.1 s1.2 c1) fun x38 =>
  some ((x38.1 : (List Int)), (x38.2 : (List Bool)))
 else
  some ((s1.1 : (List Int)), (s1.2 : (List Bool)))) fun q4 =>
 some (.inr (.inr ((q4.1 : (List Int)), (q4.2 : (List Bool)))))
def i_loopsIn_1__i_loopsIn_2__i_loopsIn_1_s (rc : Int → (List (List Int)) → (List Int) → (List Bool) → (List Bool) → Option ((List Int) × (List Bool))) (p0 : Int) (p1 : (List (List Int))) (c2_0 : (List Int)) (c0 : (List Bool)) (c1 : (List Bool)) : Option ((List Int) × (List Bool)) :=
 Option.bind (idx c0 p0) fun x13 =>
 Option.bind (setI c0 p0 true) fun y264 =>
 Option.bind (idx p1 p0) fun x16 =>
 Option.bind (cntM (i_loopsIn_1__i_loopsIn_2__i_loopsIn_1_b0 rc p1 c1 x16) x16.length 0 ((c2_0 : (List Int)), (y264 : (List Bool)))) fun q2 =>
 aft (fun r => some r) (fun s3 =>
  Option.bind (i_loopsIn_2 p0 s3.1) fun x42 =>
  some ((x42 : (List Int)), (s3.2 : (List Bool)))) q2
def i_loopsIn_1__i_loopsIn_2__i_loopsIn_1 : Nat → Int → (List (List Int)) → (List Int) → (List Bool) → (List Bool) → Option ((List Int) × (List Bool))
 | 0 => fun _ _ _ _ _ => none
 | n + 1 => i_loopsIn_1__i_loopsIn_2__i_loopsIn_1_s (i_loopsIn_1__i_loopsIn_2__i_loopsIn_1 n)
def i_loopsIn_3 (p0 : Int) (c0 : (List Int)) : Option ((List Int)) :=
 Option.bind (appS 8 c0 ([p0] : List Int)) fun x6 =>
 some (x6 : (List Int))
def i_loopsIn_1__i_loopsIn_3__i_loopsIn_1_b0 (rc : Int → (List (List Int)) → (List Int) → (List Bool) → (List Bool) → Option ((List Int) × (List Bool))) (p1 : (List (List Int))) (c1 : (List Bool)) (x16 : (List Int)) (v19 : Int) (s1 : (List Int) × (List Bool)) : Option (((List Int) × (List Bool)) ⊕ (((List Int) × (List Bool)) ⊕ ((List Int) × (List Bool)))) :=
 Option.bind (idx x16 v19) fun x21 =>
 Option.bind (idx c1 x21) fun x25 =>
 Option.bind (bif x25 then
 Option.bind (idx s1.2 x21) fun x30 =>
 some (!x30)
 else
 some false) fun p33 =>
 Option.bind (bif p33 then
  Option.bind (rc x21 p1 s1.1 s1.2 c1) fun x38 =>
  some ((x38.1 : (List Int)), (x38.2 : (List Bool)))
 else
  some ((s1.1 : (List Int)), (s1.2 : (List Bool)))) fun q4 =>
 some (.inr (.inr ((q4.1 : (List Int)), (q4.2 : (List Bool)))))
def i_loopsIn_1__i_loopsIn_3__i_loopsIn_1_s (rc : Int → (List (List Int)) → (List Int) → (List Bool) → (List Bool) → Option ((List Int) × (List Bool))) (p0 : Int) (p1 : (List (List Int))) (c2_0 : (List Int)) (c0 : (List Bool)) (c1 : (List Bool)) : Option ((List Int) × (List Bool)) :=
 Option.bind (idx c0 p0) fun x13 =>
 Option.bind (setI c0 p0 true) fun y264 =>
 Option.bind (idx p1 p0) fun x16 =>
 Option.bind (cntM (i_loopsIn_1__i_loopsIn_3__i_loopsIn_1_b0 rc p1 c1 x16) x16.length 0 ((c2_0 : (List Int)), (y264 : (List Bool)))) fun q2 =>
 aft (fun r => some r) (fun s3 =>
  Option.bind (i_loopsIn_3 p0 s3.1) fun x42 =>
  some ((x42 : (List Int)), (s3.2 : (List Bool)))) q2
def i_loopsIn_1__i_loopsIn_3__i_loopsIn_1 : Nat → Int → (List (List Int)) → (List Int) → (List Bool) → (List Bool) → Option ((List Int) × (List Bool))
 | 0 => fun _ _ _ _ _ => none
 | n + 1 => i_loopsIn_1__i_loopsIn_3__i_loopsIn_1_s (i_loopsIn_1__i_loopsIn_3__i_loopsIn_1 n)
def slices_Sort_I_int64 (p0 : (List Int)) : Option (List Int) :=
 if 0 < p0.length ∧ p0.length < 4611686018427387904 then some (p0.mergeSort fun x y => decide (x ≤ y)) else if p0.length = 0 then some p0 else none
def slices_SortFunc_I_I (p0 : (List (List Int))) : Option (List (List Int)) :=
 if p0.length < 4611686018427387904 ∧ (p0.all fun l => !l.isEmpty) = true then some (p0.mergeSort leI) else none
def i_loopsIn_b2 (p1 : (List Bool)) (v23 : Int) (x26 : (List Int)) (v30 : Int) (s4 : (List (List Int))) : Option ((List (List Int)) ⊕ (((List (List Int))) ⊕ ((List (List Int))))) :=
 Option.bind (idx x26 v30) fun x32 =>
 Option.bind (idx p1 v23) fun x36 =>
 Option.bind (bif x36 then
 Option.bind (idx p1 x32) fun x41 =>
 some x41
 else
 some false) fun p43 =>
 Option.bind (bif p43 then
  Option.bind (idx s4 x32) fun x48 =>
  Option.bind (appS 8 x48 ([v23] : List Int)) fun x52 =>
  Option.bind (idx s4 x32) fun x53 =>
  Option.bind (setI s4 x32 (x52 : (List Int))) fun y260 =>
  some (y260 : (List (List Int)))
 else
  some (s4 : (List (List Int)))) fun q7 =>
 some (.inr (.inr (q7 : (List (List Int)))))
def i_loopsIn_b0 (p0 : (List (List Int))) (p1 : (List Bool)) (v23 : Int) (s1 : (List (List Int))) : Option ((List (List Int)) ⊕ (((List (List Int))) ⊕ ((List (List Int))))) :=
 Option.bind (idx p0 v23) fun x26 =>
 Option.bind (cntM (i_loopsIn_b2 p1 v23 x26) x26.length 0 (s1 : (List (List Int)))) fun q5 =>
 aft (fun r => some (.inl r)) (fun s6 =>
  some (.inr (.inr (s6 : (List (List Int)))))) q5
def i_loopsIn_b4 (p0 : (List (List Int))) (p1 : (List Bool)) (v63 : Int) (s8 : (List Int) × (List Bool)) : Option ((List (List Int)) ⊕ (((List Int) × (List Bool)) ⊕ ((List Int) × (List Bool)))) :=
 Option.bind (idx p1 v63) fun x68 =>
 Option.bind (bif x68 then
 Option.bind (idx s8.2 v63) fun x73 =>
 some (!x73)
 else
 some false) fun p76 =>
 Option.bind (bif p76 then
  Option.bind (i_loopsIn_1__i_loopsIn_2__i_loopsIn_1 (2 ^ 64) v63 p0 s8.1 s8.2 p1) fun x81 =>
  some ((x81.1 : (List Int)), (x81.2 : (List Bool)))
 else
  some ((s8.1 : (List Int)), (s8.2 : (List Bool)))) fun q11 =>
 some (.inr (.inr ((q11.1 : (List Int)), (q11.2 : (List Bool)))))
def i_loopsIn_b6 (p0 : (List (List Int))) (p1 : (List Bool)) (s3 : (List (List Int))) (s10 : (List Int) × (List Bool)) (s12 : (List (List Int)) × Int × (List Bool)) : Option ((List (List Int)) ⊕ (((List (List Int)) × Int × (List Bool)) ⊕ ((List (List Int)) × Int × (List Bool)))) :=
 bif decide (0 ≤ s12.2.1) then
  Option.bind (idx s10.1 s12.2.1) fun x96 =>
  Option.bind (idx s12.2.2 x96) fun x100 =>
  bif x100 then
   some (.inr (.inr ((s12.1 : (List (List Int))), ((IntKind.i64.wrap (s12.2.1 - 1)) : Int), (s12.2.2 : (List Bool)))))
  else
   Option.bind (i_loopsIn_1__i_loopsIn_3__i_loopsIn_1 (2 ^ 64) x96 s3 ([] : List Int) s12.2.2 p1) fun x107 =>
   Option.bind (slices_Sort_I_int64 x107.1) fun x109 =>
   Option.bind (bif decide (1 < (x107.1.length : Int)) then
   some true
   else
   Option.bind (idx p0 x96) fun x116 =>
   Option.bind (slices_Contains_I_int64 x116 x96) fun x119 =>
   some x119) fun p120 =>
   Option.bind (bif p120 then
    Option.bind (appS 24 s12.1 ([x109] : List (List Int))) fun x124 =>
    some (x124 : (List (List Int)))
   else
    some (s12.1 : (List (List Int)))) fun q15 =>
   some (.inr (.inr ((q15 : (List (List Int))), ((IntKind.i64.wrap (s12.2.1 - 1)) : Int), (x107.2 : (List Bool)))))
 else
  some (.inr (.inl ((s12.1 : (List (List Int))), (s12.2.1 : Int), (s12.2.2 : (List Bool)))))
def i_loopsIn (p0 : (List (List Int))) (p1 : (List Bool)) : Option ((List (List Int))) :=
 Option.bind (mkS 24 (p0.length : Int) (([] : List Int) : (List Int))) fun x20 =>
 Option.bind (cntM (i_loopsIn_b0 p0 p1) p0.length 0 (x20 : (List (List Int)))) fun q2 =>
 aft (fun r => some r) (fun s3 =>
  Option.bind (mkS 1 (p0.length : Int) (false : Bool)) fun x58 =>
  Option.bind (cntM (i_loopsIn_b4 p0 p1) p0.length 0 ((([] : List Int) : (List Int)), (x58 : (List Bool)))) fun q9 =>
  aft (fun r => some r) (fun s10 =>
   Option.bind (mkS 1 (p0.length : Int) (false : Bool)) fun x85 =>
   Option.bind (whileM (i_loopsIn_b6 p0 p1 s3 s10) (2 ^ 64) ((([] : List (List Int)) : (List (List Int))), ((IntKind.i64.wrap ((s10.1.length : Int) - 1)) : Int), (x85 : (List Bool)))) fun q13 =>
   aft (fun r => some r) (fun s14 =>
    Option.bind (slices_SortFunc_I_I s14.1) fun x126 =>
    some (x126 : (List (List Int)))) q13) q9) q2
def cmp_isNaN_int64 (p0 : Int) : Option (Bool) :=
 some ((p0 != p0) : Bool)
def cmp_Less_int64 (p0 : Int) (p1 : Int) : Option (Bool) :=
 Option.bind (cmp_isNaN_int64 p0) fun x6 =>
 Option.bind (bif x6 then
 Option.bind (cmp_isNaN_int64 p1) fun x9 =>
 some (!x9)
 else
 some false) fun p11 =>
 Option.bind (bif p11 then
 some true
 else
 some (decide (p0 < p1))) fun p16 =>
 some (p16 : Bool)
def slices_isNaN_int64 (p0 : Int) : Option (Bool) :=
 some ((p0 != p0) : Bool)
def slices_BinarySearch_I_int64_b0 (p0 : (List Int)) (p1 : Int) (s1 : Int × Int) : Option ((Int × Bool) ⊕ ((Int × Int) ⊕ (Int × Int))) :=
 bif decide (s1.1 < s1.2) then
  Option.bind (idx p0 (IntKind.i64.wrap (Int.fdiv (IntKind.u64.wrap (IntKind.i64.wrap (s1.1 + s1.2))) (2 ^ (min (Int.toNat 1) (IntKind.bits IntKind.u64)))))) fun x24 =>
  Option.bind (cmp_Less_int64 x24 p1) fun x27 =>
  Option.bind (bif x27 then
   some (((IntKind.i64.wrap ((IntKind.i64.wrap (Int.fdiv (IntKind.u64.wrap (IntKind.i64.wrap (s1.1 + s1.2))) (2 ^ (min (Int.toNat 1) (IntKind.bits IntKind.u64))))) + 1)) : Int), (s1.2 : Int))
  else
   some ((s1.1 : Int), ((IntKind.i64.wrap (Int.fdiv (IntKind.u64.wrap (IntKind.i64.wrap (s1.1 + s1.2))) (2 ^ (min (Int.toNat 1) (IntKind.bits IntKind.u64))))) : Int))) fun q4 =>
  some (.inr (.inr ((q4.1 : Int), (q4.2 : Int))))
 else
  some (.inr (.inl ((s1.1 : Int), (s1.2 : Int))))
def slices_BinarySearch_I_int64 (p0 : (List Int)) (p1 : Int) : Option (Int × Bool) :=
 Option.bind (whileM (slices_BinarySearch_I_int64_b0 p0 p1) (2 ^ 64) ((0 : Int), ((p0.length : Int) : Int))) fun q2 =>
 aft (fun r => some r) (fun s3 =>
  Option.bind (bif decide (s3.1 < (p0.length : Int)) then
  Option.bind (idx p0 s3.1) fun x38 =>
  Option.bind (bif (x38 == p1) then
  some true
  else
  Option.bind (idx p0 s3.1) fun x45 =>
  Option.bind (slices_isNaN_int64 x45) fun x47 =>
  Option.bind (bif x47 then
  Option.bind (slices_isNaN_int64 p1) fun x50 =>
  some x50
  else
  some false) fun p51 =>
  some p51) fun p52 =>
  some p52
  else
  some false) fun p53 =>
  some ((s3.1 : Int), (p53 : Bool))) q2
def i_lessOf_b0 (p0 : (List Int)) (p1 : (List Int)) (v13 : Int) (s1 : (List Int)) : Option ((List Int) ⊕ (((List Int)) ⊕ ((List Int)))) :=
 Option.bind (idx p0 v13) fun x15 =>
 Option.bind (slices_BinarySearch_I_int64 p1 x15) fun x20 =>
 Option.bind (bif (!x20.2) then
  Option.bind (appS 8 s1 ([x15] : List Int)) fun x28 =>
  some (x28 : (List Int))
 else
  some (s1 : (List Int))) fun q4 =>
 some (.inr (.inr (q4 : (List Int))))
def i_lessOf (p0 : (List Int)) (p1 : (List Int)) : Option ((List Int)) :=
 Option.bind (cntM (i_lessOf_b0 p0 p1) p0.length 0 (([] : List Int) : (List Int))) fun q2 =>
 aft (fun r => some r) (fun s3 =>
  some (s3 : (List Int))) q2
def i_meets (p0 : (List Int)) (p1 : (List Int)) : Option (Bool) :=
 Option.bind (i_lessOf p0 p1) fun x7 =>
 some (decide ((x7.length : Int) < (p0.length : Int)) : Bool)
def i_brokenBy_b0 (p0 : (List Pair)) (p1 : (List Int)) (v11 : Int) (s1 : (List Int)) : Option ((List Int) ⊕ (((List Int)) ⊕ ((List Int)))) :=
 Option.bind (idx p0 v11) fun x14 =>
 Option.bind (i_meets p1 x14.Ask) fun x19 =>
 Option.bind (bif x19 then
 Option.bind (i_meets p1 x14.Give) fun x24 =>
 some (!x24)
 else
 some false) fun p26 =>
 Option.bind (bif p26 then
  Option.bind (appS 8 s1 ([v11] : List Int)) fun x30 =>
  some (x30 : (List Int))
 else
  some (s1 : (List Int))) fun q4 =>
 some (.inr (.inr (q4 : (List Int))))
def i_brokenBy (p0 : (List Pair)) (p1 : (List Int)) : Option ((List Int)) :=
 Option.bind (cntM (i_brokenBy_b0 p0 p1) p0.length 0 (([] : List Int) : (List Int))) fun q2 =>
 aft (fun r => some r) (fun s3 =>
  some (s3 : (List Int))) q2
def i_fairIn_b2 (p1 : (List Pair)) (x30 : (List Int)) (v32 : Int) (s4 : (List Int)) : Option (Bool ⊕ (((List Int)) ⊕ ((List Int)))) :=
 Option.bind (idx x30 v32) fun x34 =>
 Option.bind (idx p1 x34) fun x39 =>
 Option.bind (i_lessOf s4 x39.Ask) fun x42 =>
 some (.inr (.inr (x42 : (List Int))))
def i_fairIn_b0 (rc : (List (List Int)) → (List Pair) → (List Int) → Option (Bool)) (p0 : (List (List Int))) (p1 : (List Pair)) (x21 : (List (List Int))) (v23 : Int) (s1 : Unit) : Option (Bool ⊕ ((Unit) ⊕ (Unit))) :=
 Option.bind (idx x21 v23) fun x25 =>
 Option.bind (i_brokenBy p1 x25) fun x30 =>
 Option.bind (cntM (i_fairIn_b2 p1 x30) x30.length 0 (x25 : (List Int))) fun q5 =>
 aft (fun r => some (.inl r)) (fun s6 =>
  Option.bind (bif ((s6.length : Int) == (x25.length : Int)) then
  some true
  else
  Option.bind (rc p0 p1 s6) fun x53 =>
  some x53) fun p54 =>
  bif p54 then
   some (.inl (true : Bool))
  else
   some (.inr (.inr ()))) q5
def i_fairIn_s (rc : (List (List Int)) → (List Pair) → (List Int) → Option (Bool)) (p0 : (List (List Int))) (p1 : (List Pair)) (p2 : (List Int)) : Option (Bool) :=
 Option.bind (mkS 1 (p0.length : Int) (false : Bool)) fun x15 =>
 Option.bind (i_markAll x15 p2) fun x18 =>
 Option.bind (i_loopsIn p0 x18) fun x21 =>
 Option.bind (cntM (i_fairIn_b0 rc p0 p1 x21) x21.length 0 ()) fun q2 =>
 aft (fun r => some r) (fun s3 =>
  some (false : Bool)) q2
def i_fairIn : Nat → (List (List Int)) → (List Pair) → (List Int) → Option (Bool)
 | 0 => fun _ _ _ => none
 | n + 1 => i_fairIn_s (i_fairIn n)
def i_BeatsAll_b2 (p0 : Sig) (p1 : Rival) (x39 : Det × Bool) (x58 : (Int × Int)) (x63 : (Int × Int)) (x70 : (List Int)) (v73 : Int) (s4 : (List (Int × Int)) × (List Int) × (List ((Int × Int) × Int))) : Option (Bool ⊕ (((List (Int × Int)) × (List Int) × (List ((Int × Int) × Int))) ⊕ ((List (Int × Int)) × (List Int) × (List ((Int × Int) × Int))))) :=
 Option.bind (idx x70 v73) fun x76 =>
 Option.bind (idx x39.1.Next x63.2) fun x82 =>
 Option.bind (idx p1.In x58.1) fun x91 =>
 Option.bind (i_inputsOf p0) fun x86 =>
 Option.bind (idx x82 (IntKind.i64.wrap ((IntKind.i64.wrap (v73 * x86)) + x91))) fun x94 =>
 Option.bind (mget kwI2 s4.2.2 ((x76, x94) : (Int × Int)) (0 : Int)) fun x100 =>
 Option.bind (bif (!x100.2) then
  Option.bind (mset kwI2 s4.2.2 ((x76, x94) : (Int × Int)) (s4.1.length : Int)) fun y240 =>
  Option.bind (appS 16 s4.1 ([(x76, x94)] : List (Int × Int))) fun x113 =>
  some ((x113 : (List (Int × Int))), ((s4.1.length : Int) : Int), (y240 : (List ((Int × Int) × Int))))
 else
  some ((s4.1 : (List (Int × Int))), (x100.1 : Int), (s4.2.2 : (List ((Int × Int) × Int))))) fun q7 =>
 Option.bind (appS 8 s4.2.1 ([q7.2.1] : List Int)) fun x117 =>
 some (.inr (.inr ((q7.1 : (List (Int × Int))), (x117 : (List Int)), (q7.2.2 : (List ((Int × Int) × Int))))))
def i_BeatsAll_b0 (p0 : Sig) (p1 : Rival) (x39 : Det × Bool) (s1 : (List (Int × Int)) × (List (List Int)) × Int × (List ((Int × Int) × Int))) : Option (Bool ⊕ (((List (Int × Int)) × (List (List Int)) × Int × (List ((Int × Int) × Int))) ⊕ ((List (Int × Int)) × (List (List Int)) × Int × (List ((Int × Int) × Int))))) :=
 bif decide (s1.2.2.1 < (s1.1.length : Int)) then
  Option.bind (idx s1.1 s1.2.2.1) fun x58 =>
  Option.bind (idx s1.1 s1.2.2.1) fun x63 =>
  Option.bind (idx p1.Next x58.1) fun x70 =>
  Option.bind (cntM (i_BeatsAll_b2 p0 p1 x39 x58 x63 x70) x70.length 0 ((s1.1 : (List (Int × Int))), (([] : List Int) : (List Int)), (s1.2.2.2 : (List ((Int × Int) × Int))))) fun q5 =>
  aft (fun r => some (.inl r)) (fun s6 =>
   bif decide (256 < (s6.1.length : Int)) then
    some (.inl (false : Bool))
   else
    Option.bind (appS 24 s1.2.1 ([s6.2.1] : List (List Int))) fun x125 =>
    some (.inr (.inr ((s6.1 : (List (Int × Int))), (x125 : (List (List Int))), ((IntKind.i64.wrap (s1.2.2.1 + 1)) : Int), (s6.2.2 : (List ((Int × Int) × Int))))))) q5
 else
  some (.inr (.inl ((s1.1 : (List (Int × Int))), (s1.2.1 : (List (List Int))), (s1.2.2.1 : Int), (s1.2.2.2 : (List ((Int × Int) × Int))))))
def i_BeatsAll_b6 (s3 : (List (Int × Int)) × (List (List Int)) × Int × (List ((Int × Int) × Int))) (x132 : Pair) (v137 : Int) (s11 : (List Int) × (List Int)) : Option (Bool ⊕ (((List Int) × (List Int)) ⊕ ((List Int) × (List Int)))) :=
 Option.bind (idx s3.1 v137) fun x140 =>
 Option.bind (slices_Contains_I_int64 x132.Ask x140.2) fun x146 =>
 Option.bind (bif x146 then
  Option.bind (appS 8 s11.1 ([v137] : List Int)) fun x151 =>
  some (x151 : (List Int))
 else
  some (s11.1 : (List Int))) fun q14 =>
 Option.bind (slices_Contains_I_int64 x132.Give x140.2) fun x157 =>
 Option.bind (bif x157 then
  Option.bind (appS 8 s11.2 ([v137] : List Int)) fun x162 =>
  some (x162 : (List Int))
 else
  some (s11.2 : (List Int))) fun q15 =>
 some (.inr (.inr ((q14 : (List Int)), (q15 : (List Int)))))
def i_BeatsAll_b4 (x39 : Det × Bool) (s3 : (List (Int × Int)) × (List (List Int)) × Int × (List ((Int × Int) × Int))) (v130 : Int) (s8 : (List Pair)) : Option (Bool ⊕ (((List Pair)) ⊕ ((List Pair)))) :=
 Option.bind (idx x39.1.Pairs v130) fun x132 =>
 Option.bind (cntM (i_BeatsAll_b6 s3 x132) s3.1.length 0 ((([] : List Int) : (List Int)), (([] : List Int) : (List Int)))) fun q12 =>
 aft (fun r => some (.inl r)) (fun s13 =>
  Option.bind (appS 48 s8 ([(⟨s13.1, s13.2⟩ : Pair)] : List Pair)) fun x168 =>
  some (.inr (.inr (x168 : (List Pair))))) q12
def i_BeatsAll (p0 : Sig) (p1 : Rival) (p2 : (List Clause)) : Option (Bool) :=
 Option.bind (i_isSig p0) fun x28 =>
 Option.bind (bif (!x28) then
 some true
 else
 Option.bind (i_isRival p0 p1) fun x33 =>
 some (!x33)) fun p35 =>
 bif p35 then
  some (false : Bool)
 else
  Option.bind (i_ProductOf p0 p2) fun x39 =>
  bif (!x39.2) then
   some (false : Bool)
  else
   Option.bind (mset kwI2 ([] : List ((Int × Int) × Int)) ((0, 0) : (Int × Int)) 0) fun y236 =>
   Option.bind (whileM (i_BeatsAll_b0 p0 p1 x39) (2 ^ 64) ((([(0, 0)] : List (Int × Int)) : (List (Int × Int))), (([] : List (List Int)) : (List (List Int))), (0 : Int), (y236 : (List ((Int × Int) × Int))))) fun q2 =>
   aft (fun r => some r) (fun s3 =>
    Option.bind (cntM (i_BeatsAll_b4 x39 s3) x39.1.Pairs.length 0 (([] : List Pair) : (List Pair))) fun q9 =>
    aft (fun r => some r) (fun s10 =>
     Option.bind (i_AllOf (s3.2.1.length : Int)) fun x174 =>
     Option.bind (i_fairIn (2 ^ 64) s3.2.1 s10 x174) fun x175 =>
     some ((!x175) : Bool)) q9) q2
def l_eqInt64S_b0 (p0 : (List Int)) (p1 : (List Int)) (v5 : Int) (s1 : Unit) : Option (Bool ⊕ ((Unit) ⊕ (Unit))) :=
 Option.bind (idx p0 v5) fun x19 =>
 Option.bind (idx p1 v5) fun x23 =>
 bif (x19 != x23) then
  some (.inl (false : Bool))
 else
  some (.inr (.inr ()))
def l_eqInt64S (p0 : (List Int)) (p1 : (List Int)) : Option (Bool) :=
 bif ((p0.length : Int) != (p1.length : Int)) then
  some (false : Bool)
 else
  Option.bind (cntM (l_eqInt64S_b0 p0 p1) p0.length 0 ()) fun q2 =>
  aft (fun r => some r) (fun s3 =>
   some (true : Bool)) q2
def l_eqInt64SS_b0 (p0 : (List (List Int))) (p1 : (List (List Int))) (v5 : Int) (s1 : Unit) : Option (Bool ⊕ ((Unit) ⊕ (Unit))) :=
 Option.bind (idx p0 v5) fun x19 =>
 Option.bind (idx p1 v5) fun x23 =>
 Option.bind (l_eqInt64S x19 x23) fun x25 =>
 bif (!x25) then
  some (.inl (false : Bool))
 else
  some (.inr (.inr ()))
def l_eqInt64SS (p0 : (List (List Int))) (p1 : (List (List Int))) : Option (Bool) :=
 bif ((p0.length : Int) != (p1.length : Int)) then
  some (false : Bool)
 else
  Option.bind (cntM (l_eqInt64SS_b0 p0 p1) p0.length 0 ()) fun q2 =>
  aft (fun r => some r) (fun s3 =>
   some (true : Bool)) q2
def l_eqRival (p0 : Rival) (p1 : Rival) : Option (Bool) :=
 Option.bind (l_eqInt64S p0.In p1.In) fun x9 =>
 bif (!x9) then
  some (false : Bool)
 else
  Option.bind (l_eqInt64SS p0.Next p1.Next) fun x15 =>
  bif (!x15) then
   some (false : Bool)
  else
   some (true : Bool)
def l_eqClause (p0 : Clause) (p1 : Clause) : Option (Bool) :=
 bif (p0.Kind != p1.Kind) then
  some (false : Bool)
 else
  Option.bind (l_eqInt64S p0.A p1.A) fun x14 =>
  bif (!x14) then
   some (false : Bool)
  else
   Option.bind (l_eqInt64S p0.B p1.B) fun x20 =>
   bif (!x20) then
    some (false : Bool)
   else
    some (true : Bool)
def l_eqClauseS_b0 (p0 : (List Clause)) (p1 : (List Clause)) (v5 : Int) (s1 : Unit) : Option (Bool ⊕ ((Unit) ⊕ (Unit))) :=
 Option.bind (idx p0 v5) fun x19 =>
 Option.bind (idx p1 v5) fun x23 =>
 Option.bind (l_eqClause x19 x23) fun x25 =>
 bif (!x25) then
  some (.inl (false : Bool))
 else
  some (.inr (.inr ()))
def l_eqClauseS (p0 : (List Clause)) (p1 : (List Clause)) : Option (Bool) :=
 bif ((p0.length : Int) != (p1.length : Int)) then
  some (false : Bool)
 else
  Option.bind (cntM (l_eqClauseS_b0 p0 p1) p0.length 0 ()) fun q2 =>
  aft (fun r => some r) (fun s3 =>
   some (true : Bool)) q2
def l_FnExactBeatsAll (p0 : Sig) (p1 : Rival) (p2 : (List Clause)) : Option (Bool) :=
 Option.bind (l_szRival p1 1048576) fun x14 =>
 bif decide (x14 < 0) then
  some (true : Bool)
 else
  Option.bind (l_szClauseS p2 x14) fun x19 =>
  bif decide (x19 < 0) then
   some (true : Bool)
  else
   Option.bind (l_toSig p0) fun x23 =>
   Option.bind (l_toRival p1) fun x25 =>
   Option.bind (l_toClauseS p2) fun x27 =>
   Option.bind (s_BeatsAll x23 x25 x27) fun x28 =>
   Option.bind (l_toRival p1) fun x30 =>
   Option.bind (l_toClauseS p2) fun x32 =>
   Option.bind (l_toSig p0) fun x34 =>
   Option.bind (i_BeatsAll x34 x30 x32) fun x37 =>
   bif (x37 != x28) then
    some (false : Bool)
   else
    Option.bind (l_toRival p1) fun x43 =>
    Option.bind (l_eqRival x30 x43) fun x44 =>
    bif (!x44) then
     some (false : Bool)
    else
     Option.bind (l_toClauseS p2) fun x48 =>
     Option.bind (l_eqClauseS x32 x48) fun x49 =>
     bif (!x49) then
      some (false : Bool)
     else
      some (true : Bool)
end Go.Proofs.YtcmamhmpoinmnaaGreat
