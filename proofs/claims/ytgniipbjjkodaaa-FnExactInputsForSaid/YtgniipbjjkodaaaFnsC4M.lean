/- The functions on data. By program. -/
import Derived.Test.YtgniipbjjkodaaaTypes
set_option linter.unusedVariables false
set_option linter.unusedSimpArgs false
namespace Go.Proofs.Ytgniipbjjkodaaa
open Go Go.Wk Go.Proofs
set_option maxRecDepth 100000
set_option maxHeartbeats 1000000

/- loop.example/g00869/laws.szInt64S -/

def l_szInt64S (p0 : (List Int)) (p1 : Int) : Option (Int) :=
  bif decide ((IntKind.i64.wrap (p1 - (p0.length : Int))) < 0) then
    some ((-1) : Int)
  else
    some ((IntKind.i64.wrap (p1 - (p0.length : Int))) : Int)

/- loop.example/g00869/laws.szInt64SS -/
def l_szInt64SS_b0 (p0 : (List (List Int))) (v5 : Int) (s1 : Int) : Option (Int ⊕ ((Int) ⊕ (Int))) :=
  Option.bind (idx p0 v5) fun x20 =>
  Option.bind (l_szInt64S x20 s1) fun x23 =>
  bif decide (x23 < 0) then
    some (.inl ((-1) : Int))
  else
    some (.inr (.inr (x23 : Int)))
def l_szInt64SS (p0 : (List (List Int))) (p1 : Int) : Option (Int) :=
  bif decide ((IntKind.i64.wrap (p1 - (p0.length : Int))) < 0) then
    some ((-1) : Int)
  else
    Option.bind (cntM (l_szInt64SS_b0 p0) p0.length 0 ((IntKind.i64.wrap (p1 - (p0.length : Int))) : Int)) fun q2 =>
    aft (fun r => some r) (fun s3 =>
      some (s3 : Int)) q2

/- loop.example/g00869/laws.szRival -/

def l_szRival (p0 : Rival) (p1 : Int) : Option (Int) :=
  Option.bind (l_szInt64S p0.In p1) fun x8 =>
  bif decide (x8 < 0) then
    some ((-1) : Int)
  else
    Option.bind (l_szInt64SS p0.Next x8) fun x14 =>
    bif decide (x14 < 0) then
      some ((-1) : Int)
    else
      some (x14 : Int)

/- loop.example/g00869/laws.toSig -/

def l_toSig (p0 : Sig) : Option (Sig) :=
  some ((⟨p0.In, p0.Out⟩ : Sig) : Sig)

/- loop.example/g00869/laws.toInt64S -/
def l_toInt64S_b0 (p0 : (List Int)) (v4 : Int) (s1 : (List Int)) : Option ((List Int) ⊕ (((List Int)) ⊕ ((List Int)))) :=
  Option.bind (idx p0 v4) fun x18 =>
  Option.bind (idx s1 v4) fun x20 =>
  Option.bind (setI s1 v4 x18) fun y1 =>
  some (.inr (.inr (y1 : (List Int))))
def l_toInt64S (p0 : (List Int)) : Option ((List Int)) :=
  Option.bind (mkS 8 (p0.length : Int) (0 : Int)) fun x7 =>
  Option.bind (cntM (l_toInt64S_b0 p0) p0.length 0 (x7 : (List Int))) fun q2 =>
  aft (fun r => some r) (fun s3 =>
    some (s3 : (List Int))) q2

/- loop.example/g00869/laws.toInt64SS -/
def l_toInt64SS_b0 (p0 : (List (List Int))) (v4 : Int) (s1 : (List (List Int))) : Option ((List (List Int)) ⊕ (((List (List Int))) ⊕ ((List (List Int))))) :=
  Option.bind (idx p0 v4) fun x18 =>
  Option.bind (l_toInt64S x18) fun x20 =>
  Option.bind (idx s1 v4) fun x21 =>
  Option.bind (setI s1 v4 (x20 : (List Int))) fun y3 =>
  some (.inr (.inr (y3 : (List (List Int)))))
def l_toInt64SS (p0 : (List (List Int))) : Option ((List (List Int))) :=
  Option.bind (mkS 24 (p0.length : Int) (([] : List Int) : (List Int))) fun x7 =>
  Option.bind (cntM (l_toInt64SS_b0 p0) p0.length 0 (x7 : (List (List Int)))) fun q2 =>
  aft (fun r => some r) (fun s3 =>
    some (s3 : (List (List Int)))) q2

/- loop.example/g00869/laws.toRival -/

def l_toRival (p0 : Rival) : Option (Rival) :=
  Option.bind (l_toInt64S p0.In) fun x6 =>
  Option.bind (l_toInt64SS p0.Next) fun x10 =>
  some ((⟨x6, x10⟩ : Rival) : Rival)

/- loop.example/g00869/spec.l1In -/

def s_l1In (p0 : Int) (p1 : Int) (p2 : Int) : Option (Bool) :=
  Option.bind (bif decide (p1 ≤ p0) then
  some (decide (p0 ≤ p2))
  else
  some false) fun p14 =>
  some (p14 : Bool)

/- loop.example/g00869/spec.SigOk -/

def s_SigOk (p0 : Sig) : Option (Bool) :=
  Option.bind (s_l1In p0.In 1 2) fun x5 =>
  Option.bind (bif x5 then
  Option.bind (s_l1In p0.Out 1 2) fun x9 =>
  some x9
  else
  some false) fun p10 =>
  some (p10 : Bool)

/- loop.example/g00869/spec.l23Power -/
def s_l23Power_b0  (s1 : Int × Int) : Option (Int ⊕ ((Int × Int) ⊕ (Int × Int))) :=
  bif decide (0 < s1.1) then
    some (.inr (.inr (((IntKind.i64.wrap (s1.1 - 1)) : Int), ((IntKind.i64.wrap (s1.2 * 2)) : Int))))
  else
    some (.inr (.inl ((s1.1 : Int), (s1.2 : Int))))
def s_l23Power (p0 : Int) : Option (Int) :=
  Option.bind (whileM s_l23Power_b0 (2 ^ 64) ((p0 : Int), (1 : Int))) fun q2 =>
  aft (fun r => some r) (fun s3 =>
    some (s3.2 : Int)) q2

/- loop.example/g00869/spec.l27Inputs -/

def s_l27Inputs (p0 : Sig) : Option (Int) :=
  Option.bind (s_l23Power p0.In) fun x5 =>
  some (x5 : Int)

/- loop.example/g00869/spec.l23Below -/
def s_l23Below_b0 (p0 : (List Int)) (p1 : Int) (v5 : Int) (s1 : Unit) : Option (Bool ⊕ ((Unit) ⊕ (Unit))) :=
  Option.bind (idx p0 v5) fun x14 =>
  Option.bind (s_l1In x14 0 (IntKind.i64.wrap (p1 - 1))) fun x18 =>
  bif (!x18) then
    some (.inl (false : Bool))
  else
    some (.inr (.inr ()))
def s_l23Below (p0 : (List Int)) (p1 : Int) : Option (Bool) :=
  Option.bind (cntM (s_l23Below_b0 p0 p1) p0.length 0 ()) fun q2 =>
  aft (fun r => some r) (fun s3 =>
    some (true : Bool)) q2

/- loop.example/g00869/spec.l33Outputs -/

def s_l33Outputs (p0 : Sig) : Option (Int) :=
  Option.bind (s_l23Power p0.Out) fun x5 =>
  some (x5 : Int)

/- loop.example/g00869/spec.RivalOk -/
def s_RivalOk_b0 (p0 : Sig) (p1 : Rival) (v6 : Int) (s1 : Unit) : Option (Bool ⊕ ((Unit) ⊕ (Unit))) :=
  Option.bind (idx p1.Next v6) fun x45 =>
  Option.bind (s_l33Outputs p0) fun x49 =>
  Option.bind (bif ((x45.length : Int) != x49) then
  some true
  else
  Option.bind (idx p1.Next v6) fun x55 =>
  Option.bind (s_l23Below x55 (p1.In.length : Int)) fun x58 =>
  some (!x58)) fun p60 =>
  bif p60 then
    some (.inl (false : Bool))
  else
    some (.inr (.inr ()))
def s_RivalOk (p0 : Sig) (p1 : Rival) : Option (Bool) :=
  Option.bind (s_SigOk p0) fun x11 =>
  Option.bind (bif (!x11) then
  some true
  else
  Option.bind (s_l1In (p1.In.length : Int) 1 256) fun x15 =>
  some (!x15)) fun p17 =>
  Option.bind (bif p17 then
  some true
  else
  some ((p1.Next.length : Int) != (p1.In.length : Int))) fun p26 =>
  Option.bind (bif p26 then
  some true
  else
  Option.bind (s_l27Inputs p0) fun x31 =>
  Option.bind (s_l23Below p1.In x31) fun x32 =>
  some (!x32)) fun p34 =>
  bif p34 then
    some (false : Bool)
  else
    Option.bind (cntM (s_RivalOk_b0 p0 p1) p1.Next.length 0 ()) fun q2 =>
    aft (fun r => some r) (fun s3 =>
      some (true : Bool)) q2

/- loop.example/g00869/spec.InputsFor -/
def s_InputsFor_b0 (p1 : Rival) (p2 : (List Int)) (v9 : Int) (s1 : Int × (List Int)) : Option ((List Int) ⊕ ((Int × (List Int)) ⊕ (Int × (List Int)))) :=
  Option.bind (idx p2 v9) fun x45 =>
  Option.bind (idx p1.Next s1.1) fun x41 =>
  Option.bind (idx x41 x45) fun x47 =>
  Option.bind (idx p1.In x47) fun x53 =>
  Option.bind (appS 8 s1.2 ([x53] : List Int)) fun x56 =>
  some (.inr (.inr ((x47 : Int), (x56 : (List Int)))))
def s_InputsFor (p0 : Sig) (p1 : Rival) (p2 : (List Int)) : Option ((List Int)) :=
  Option.bind (s_RivalOk p0 p1) fun x12 =>
  Option.bind (bif (!x12) then
  some true
  else
  some (decide (600 < (p2.length : Int)))) fun p18 =>
  Option.bind (bif p18 then
  some true
  else
  Option.bind (s_l33Outputs p0) fun x22 =>
  Option.bind (s_l23Below p2 x22) fun x23 =>
  some (!x23)) fun p25 =>
  bif p25 then
    some (([] : List Int) : (List Int))
  else
    Option.bind (idx p1.In 0) fun x29 =>
    Option.bind (cntM (s_InputsFor_b0 p1 p2) p2.length 0 ((0 : Int), (([x29] : List Int) : (List Int)))) fun q2 =>
    aft (fun r => some r) (fun s3 =>
      some (s3.2 : (List Int))) q2

/- loop.example/g00869/impl.isSig -/

def i_isSig (p0 : Sig) : Option (Bool) :=
  Option.bind (bif decide (1 ≤ p0.In) then
  some (decide (p0.In ≤ 2))
  else
  some false) fun p10 =>
  Option.bind (bif p10 then
  some (decide (1 ≤ p0.Out))
  else
  some false) fun p15 =>
  Option.bind (bif p15 then
  some (decide (p0.Out ≤ 2))
  else
  some false) fun p20 =>
  some (p20 : Bool)

/- loop.example/g00869/impl.inputsOf -/

def i_inputsOf (p0 : Sig) : Option (Int) :=
  Option.bind (nn p0.In) fun _z5 =>
  some ((IntKind.i64.wrap (1 * 2 ^ (min (Int.toNat p0.In) (IntKind.bits IntKind.i64)))) : Int)

/- loop.example/g00869/impl.areLetters$1 -/

def i_areLetters_1 (p0 : Int) (c0 : Int) : Option (Bool) :=
  Option.bind (bif decide (p0 < 0) then
  some true
  else
  some (decide (c0 ≤ p0))) fun p10 =>
  some (p10 : Bool)

/- slices.IndexFunc[[]int64,int64] -/
def slices_IndexFunc_I_int64__i_areLetters_1_b0 (p0 : (List Int)) (c1_0 : Int) (v8 : Int) (s1 : Unit) : Option (Int ⊕ ((Unit) ⊕ (Unit))) :=
  Option.bind (idx p0 v8) fun x14 =>
  Option.bind (i_areLetters_1 x14 c1_0) fun x16 =>
  bif x16 then
    some (.inl (v8 : Int))
  else
    some (.inr (.inr ()))
def slices_IndexFunc_I_int64__i_areLetters_1 (p0 : (List Int)) (c1_0 : Int) : Option (Int) :=
  Option.bind (cntM (slices_IndexFunc_I_int64__i_areLetters_1_b0 p0 c1_0) p0.length 0 ()) fun q2 =>
  aft (fun r => some r) (fun s3 =>
    some ((-1) : Int)) q2

/- slices.ContainsFunc[[]int64,int64] -/

def slices_ContainsFunc_I_int64__i_areLetters_1 (p0 : (List Int)) (c1_0 : Int) : Option (Bool) :=
  Option.bind (slices_IndexFunc_I_int64__i_areLetters_1 p0 c1_0) fun x7 =>
  some (decide (0 ≤ x7) : Bool)

/- loop.example/g00869/impl.areLetters -/

def i_areLetters (p0 : (List Int)) (p1 : Int) : Option (Bool) :=
  Option.bind (slices_ContainsFunc_I_int64__i_areLetters_1 p0 p1) fun x7 =>
  some ((!x7) : Bool)

/- loop.example/g00869/impl.isRival -/
def i_isRival_b0 (p0 : Sig) (p1 : Rival) (v37 : Int) (s1 : Unit) : Option (Bool ⊕ ((Unit) ⊕ (Unit))) :=
  Option.bind (idx p1.Next v37) fun x39 =>
  Option.bind (nn p0.Out) fun _z45 =>
  Option.bind (bif ((x39.length : Int) != (IntKind.i64.wrap (1 * 2 ^ (min (Int.toNat p0.Out) (IntKind.bits IntKind.i64))))) then
  some true
  else
  Option.bind (i_areLetters x39 (p1.In.length : Int)) fun x50 =>
  some (!x50)) fun p52 =>
  bif p52 then
    some (.inl (false : Bool))
  else
    some (.inr (.inr ()))
def i_isRival (p0 : Sig) (p1 : Rival) : Option (Bool) :=
  Option.bind (bif decide ((p1.In.length : Int) < 1) then
  some true
  else
  some (decide (256 < (p1.In.length : Int)))) fun p16 =>
  Option.bind (bif p16 then
  some true
  else
  some ((p1.Next.length : Int) != (p1.In.length : Int))) fun p25 =>
  Option.bind (bif p25 then
  some true
  else
  Option.bind (i_inputsOf p0) fun x30 =>
  Option.bind (i_areLetters p1.In x30) fun x31 =>
  some (!x31)) fun p33 =>
  bif p33 then
    some (false : Bool)
  else
    Option.bind (cntM (i_isRival_b0 p0 p1) p1.Next.length 0 ()) fun q2 =>
    aft (fun r => some r) (fun s3 =>
      some (true : Bool)) q2

/- loop.example/g00869/impl.InputsFor -/
def i_InputsFor_b0 (p1 : Rival) (p2 : (List Int)) (v40 : Int) (s1 : Int × (List Int)) : Option ((List Int) ⊕ ((Int × (List Int)) ⊕ (Int × (List Int)))) :=
  Option.bind (idx p2 v40) fun x42 =>
  Option.bind (idx p1.Next s1.1) fun x47 =>
  Option.bind (idx x47 x42) fun x50 =>
  Option.bind (idx p1.In x50) fun x56 =>
  Option.bind (appS 8 s1.2 ([x56] : List Int)) fun x59 =>
  some (.inr (.inr ((x50 : Int), (x59 : (List Int)))))
def i_InputsFor (p0 : Sig) (p1 : Rival) (p2 : (List Int)) : Option ((List Int)) :=
  Option.bind (i_isSig p0) fun x12 =>
  Option.bind (bif (!x12) then
  some true
  else
  Option.bind (i_isRival p0 p1) fun x17 =>
  some (!x17)) fun p19 =>
  Option.bind (bif p19 then
  some true
  else
  some (decide (600 < (p2.length : Int)))) fun p24 =>
  Option.bind (bif p24 then
  some true
  else
  Option.bind (nn p0.Out) fun _z29 =>
  Option.bind (i_areLetters p2 (IntKind.i64.wrap (1 * 2 ^ (min (Int.toNat p0.Out) (IntKind.bits IntKind.i64))))) fun x30 =>
  some (!x30)) fun p32 =>
  bif p32 then
    some (([] : List Int) : (List Int))
  else
    Option.bind (idx p1.In 0) fun x35 =>
    Option.bind (cntM (i_InputsFor_b0 p1 p2) p2.length 0 ((0 : Int), (([x35] : List Int) : (List Int)))) fun q2 =>
    aft (fun r => some r) (fun s3 =>
      some (s3.2 : (List Int))) q2

/- loop.example/g00869/laws.eqInt64S -/
def l_eqInt64S_b0 (p0 : (List Int)) (p1 : (List Int)) (v5 : Int) (s1 : Unit) : Option (Bool ⊕ ((Unit) ⊕ (Unit))) :=
  Option.bind (idx p0 v5) fun x19 =>
  Option.bind (idx p1 v5) fun x23 =>
  bif (x19 != x23) then
    some (.inl (false : Bool))
  else
    some (.inr (.inr ()))
def l_eqInt64S (p0 : (List Int)) (p1 : (List Int)) : Option (Bool) :=
  bif ((p0.length : Int) != (p1.length : Int)) then
    some (false : Bool)
  else
    Option.bind (cntM (l_eqInt64S_b0 p0 p1) p0.length 0 ()) fun q2 =>
    aft (fun r => some r) (fun s3 =>
      some (true : Bool)) q2

/- loop.example/g00869/laws.eqInt64SS -/
def l_eqInt64SS_b0 (p0 : (List (List Int))) (p1 : (List (List Int))) (v5 : Int) (s1 : Unit) : Option (Bool ⊕ ((Unit) ⊕ (Unit))) :=
  Option.bind (idx p0 v5) fun x19 =>
  Option.bind (idx p1 v5) fun x23 =>
  Option.bind (l_eqInt64S x19 x23) fun x25 =>
  bif (!x25) then
    some (.inl (false : Bool))
  else
    some (.inr (.inr ()))
def l_eqInt64SS (p0 : (List (List Int))) (p1 : (List (List Int))) : Option (Bool) :=
  bif ((p0.length : Int) != (p1.length : Int)) then
    some (false : Bool)
  else
    Option.bind (cntM (l_eqInt64SS_b0 p0 p1) p0.length 0 ()) fun q2 =>
    aft (fun r => some r) (fun s3 =>
      some (true : Bool)) q2

/- loop.example/g00869/laws.eqRival -/

def l_eqRival (p0 : Rival) (p1 : Rival) : Option (Bool) :=
  Option.bind (l_eqInt64S p0.In p1.In) fun x9 =>
  bif (!x9) then
    some (false : Bool)
  else
    Option.bind (l_eqInt64SS p0.Next p1.Next) fun x15 =>
    bif (!x15) then
      some (false : Bool)
    else
      some (true : Bool)

/- loop.example/g00869/laws.markInt64S -/
def l_markInt64S_b0  (v5 : Int) (s1 : Int × (List Int)) : Option ((Int × (List Int)) ⊕ ((Int × (List Int)) ⊕ (Int × (List Int)))) :=
  Option.bind (idx s1.2 v5) fun x15 =>
  Option.bind (setI s1.2 v5 s1.1) fun y9 =>
  some (.inr (.inr (((IntKind.i64.wrap (s1.1 + 1)) : Int), (y9 : (List Int)))))
def l_markInt64S (p0 : (List Int)) (p1 : Int) : Option (Int × (List Int)) :=
  Option.bind (cntM l_markInt64S_b0 p0.length 0 ((p1 : Int), (p0 : (List Int)))) fun q2 =>
  aft (fun r => some r) (fun s3 =>
    some ((s3.1 : Int), (s3.2 : (List Int)))) q2

/- loop.example/g00869/laws.markInt64SS -/
def l_markInt64SS_b0  (v5 : Int) (s1 : Int × (List (List Int))) : Option ((Int × (List (List Int))) ⊕ ((Int × (List (List Int))) ⊕ (Int × (List (List Int))))) :=
  Option.bind (idx s1.2 v5) fun x14 =>
  Option.bind (l_markInt64S x14 s1.1) fun x17 =>
  Option.bind (setI s1.2 v5 x17.2) fun yb10 =>
  some (.inr (.inr ((x17.1 : Int), (yb10 : (List (List Int))))))
def l_markInt64SS (p0 : (List (List Int))) (p1 : Int) : Option (Int × (List (List Int))) :=
  Option.bind (cntM l_markInt64SS_b0 p0.length 0 ((p1 : Int), (p0 : (List (List Int))))) fun q2 =>
  aft (fun r => some r) (fun s3 =>
    some ((s3.1 : Int), (s3.2 : (List (List Int))))) q2

/- loop.example/g00869/laws.markRival -/

def l_markRival (p0 : Rival) (p1 : Int) : Option (Int × (List Int) × (List (List Int))) :=
  Option.bind (l_markInt64S p0.In p1) fun x8 =>
  Option.bind (l_markInt64SS p0.Next x8.1) fun x12 =>
  some ((x12.1 : Int), (x8.2 : (List Int)), (x12.2 : (List (List Int))))

/- loop.example/g00869/laws.heldInt64S -/
def l_heldInt64S_b0 (p0 : (List Int)) (v5 : Int) (s1 : Int) : Option (Int ⊕ ((Int) ⊕ (Int))) :=
  Option.bind (idx p0 v5) fun x14 =>
  bif (x14 != s1) then
    some (.inl ((-1) : Int))
  else
    some (.inr (.inr ((IntKind.i64.wrap (s1 + 1)) : Int)))
def l_heldInt64S (p0 : (List Int)) (p1 : Int) : Option (Int) :=
  Option.bind (cntM (l_heldInt64S_b0 p0) p0.length 0 (p1 : Int)) fun q2 =>
  aft (fun r => some r) (fun s3 =>
    some (s3 : Int)) q2

/- loop.example/g00869/laws.FnExactInputsFor -/

def l_FnExactInputsFor (p0 : Sig) (p1 : Rival) (p2 : (List Int)) : Option (Bool) :=
  bif decide (1048576 < (p2.length : Int)) then
    some (true : Bool)
  else
    Option.bind (l_szRival p1 1048576) fun x21 =>
    bif decide (x21 < 0) then
      some (true : Bool)
    else
      Option.bind (l_toSig p0) fun x25 =>
      Option.bind (l_toRival p1) fun x27 =>
      Option.bind (l_toInt64S p2) fun x29 =>
      Option.bind (s_InputsFor x25 x27 x29) fun x30 =>
      Option.bind (l_toRival p1) fun x32 =>
      Option.bind (l_toInt64S p2) fun x34 =>
      Option.bind (l_toSig p0) fun x36 =>
      Option.bind (i_InputsFor x36 x32 x34) fun x39 =>
      Option.bind (l_eqInt64S x39 x30) fun x42 =>
      bif (!x42) then
        some (false : Bool)
      else
        Option.bind (l_toRival p1) fun x46 =>
        Option.bind (l_eqRival x32 x46) fun x47 =>
        bif (!x47) then
          some (false : Bool)
        else
          Option.bind (l_toInt64S p2) fun x51 =>
          Option.bind (l_eqInt64S x34 x51) fun x52 =>
          bif (!x52) then
            some (false : Bool)
          else
            Option.bind (l_markRival x32 1) fun x56 =>
            Option.bind (l_markInt64S x34 x56.1) fun x59 =>
            Option.bind (bif decide (x59.1 < 0) then
            some true
            else
            Option.bind (l_eqInt64S x39 x30) fun x65 =>
            some (!x65)) fun p67 =>
            bif p67 then
              some (false : Bool)
            else
              Option.bind (l_markInt64S x39 1) fun x70 =>
              Option.bind (l_heldInt64S x70.2 1) fun x73 =>
              bif decide (x73 < 0) then
                some (false : Bool)
              else
                bif (x73 != x70.1) then
                  some (false : Bool)
                else
                  Option.bind (l_toSig p0) fun x80 =>
                  Option.bind (l_toRival p1) fun x82 =>
                  Option.bind (l_toInt64S p2) fun x84 =>
                  Option.bind (i_InputsFor x80 x82 x84) fun x85 =>
                  Option.bind (l_eqInt64S x85 x30) fun x88 =>
                  bif (!x88) then
                    some (false : Bool)
                  else
                    Option.bind (l_heldInt64S x70.2 1) fun x92 =>
                    bif decide (x92 < 0) then
                      some (false : Bool)
                    else
                      bif (x92 != x70.1) then
                        some (false : Bool)
                      else
                        some (true : Bool)

end Go.Proofs.Ytgniipbjjkodaaa
