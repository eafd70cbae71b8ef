/- The functions on data. By program. -/
import Derived.Test.YtgniipbjjkodaaaTypes
set_option linter.unusedVariables false
set_option linter.unusedSimpArgs false
namespace Go.Proofs.Ytgniipbjjkodaaa
open Go Go.Wk Go.Proofs
set_option maxRecDepth 100000
set_option maxHeartbeats 1000000

/- loop.example/g00869/laws.szInt64S -/

def l_szInt64S (p0 : (List Int)) (p1 : Int) : Option (Int) :=
  bif decide ((IntKind.i64.wrap (p1 - (p0.length : Int))) < 0) then
    some ((-1) : Int)
  else
    some ((IntKind.i64.wrap (p1 - (p0.length : Int))) : Int)

/- loop.example/g00869/laws.szGateS -/

def l_szGateS (p0 : (List Gate)) (p1 : Int) : Option (Int) :=
  bif decide ((IntKind.i64.wrap (p1 - (p0.length : Int))) < 0) then
    some ((-1) : Int)
  else
    some ((IntKind.i64.wrap (p1 - (p0.length : Int))) : Int)

/- loop.example/g00869/laws.szCircuit -/

def l_szCircuit (p0 : Circuit) (p1 : Int) : Option (Int) :=
  Option.bind (l_szInt64S p0.Next p1) fun x8 =>
  bif decide (x8 < 0) then
    some ((-1) : Int)
  else
    Option.bind (l_szGateS p0.Gates x8) fun x14 =>
    bif decide (x14 < 0) then
      some ((-1) : Int)
    else
      Option.bind (l_szInt64S p0.Outs x14) fun x20 =>
      bif decide (x20 < 0) then
        some ((-1) : Int)
      else
        some (x20 : Int)

/- loop.example/g00869/laws.toInt64S -/
def l_toInt64S_b0 (p0 : (List Int)) (v4 : Int) (s1 : (List Int)) : Option ((List Int) ⊕ (((List Int)) ⊕ ((List Int)))) :=
  Option.bind (idx p0 v4) fun x18 =>
  Option.bind (idx s1 v4) fun x20 =>
  Option.bind (setI s1 v4 x18) fun y1 =>
  some (.inr (.inr (y1 : (List Int))))
def l_toInt64S (p0 : (List Int)) : Option ((List Int)) :=
  Option.bind (mkS 8 (p0.length : Int) (0 : Int)) fun x7 =>
  Option.bind (cntM (l_toInt64S_b0 p0) p0.length 0 (x7 : (List Int))) fun q2 =>
  aft (fun r => some r) (fun s3 =>
    some (s3 : (List Int))) q2

/- loop.example/g00869/laws.toGate -/

def l_toGate (p0 : Gate) : Option (Gate) :=
  some ((⟨p0.A, p0.B⟩ : Gate) : Gate)

/- loop.example/g00869/laws.toGateS -/
def l_toGateS_b0 (p0 : (List Gate)) (v4 : Int) (s1 : (List Gate)) : Option ((List Gate) ⊕ (((List Gate)) ⊕ ((List Gate)))) :=
  Option.bind (idx p0 v4) fun x18 =>
  Option.bind (l_toGate x18) fun x20 =>
  Option.bind (idx s1 v4) fun x21 =>
  Option.bind (setI s1 v4 (x20 : Gate)) fun y3 =>
  some (.inr (.inr (y3 : (List Gate))))
def l_toGateS (p0 : (List Gate)) : Option ((List Gate)) :=
  Option.bind (mkS 16 (p0.length : Int) ((⟨0, 0⟩ : Gate) : Gate)) fun x7 =>
  Option.bind (cntM (l_toGateS_b0 p0) p0.length 0 (x7 : (List Gate))) fun q2 =>
  aft (fun r => some r) (fun s3 =>
    some (s3 : (List Gate))) q2

/- loop.example/g00869/laws.toCircuit -/

def l_toCircuit (p0 : Circuit) : Option (Circuit) :=
  Option.bind (l_toInt64S p0.Next) fun x12 =>
  Option.bind (l_toGateS p0.Gates) fun x16 =>
  Option.bind (l_toInt64S p0.Outs) fun x20 =>
  some ((⟨p0.Inputs, p0.Latches, x12, x16, x20⟩ : Circuit) : Circuit)

/- loop.example/g00869/spec.l1In -/

def s_l1In (p0 : Int) (p1 : Int) (p2 : Int) : Option (Bool) :=
  Option.bind (bif decide (p1 ≤ p0) then
  some (decide (p0 ≤ p2))
  else
  some false) fun p14 =>
  some (p14 : Bool)

/- loop.example/g00869/spec.l31Signals -/

def s_l31Signals (p0 : Circuit) : Option (Int) :=
  some ((IntKind.i64.wrap ((IntKind.i64.wrap ((IntKind.i64.wrap (1 + p0.Inputs)) + p0.Latches)) + (p0.Gates.length : Int))) : Int)

/- loop.example/g00869/spec.l31Literals -/
def s_l31Literals_b0 (p0 : (List Int)) (p1 : Int) (v5 : Int) (s1 : Unit) : Option (Bool ⊕ ((Unit) ⊕ (Unit))) :=
  Option.bind (idx p0 v5) fun x14 =>
  Option.bind (s_l1In x14 0 (IntKind.i64.wrap ((IntKind.i64.wrap (2 * p1)) - 1))) fun x19 =>
  bif (!x19) then
    some (.inl (false : Bool))
  else
    some (.inr (.inr ()))
def s_l31Literals (p0 : (List Int)) (p1 : Int) : Option (Bool) :=
  Option.bind (cntM (s_l31Literals_b0 p0 p1) p0.length 0 ()) fun q2 =>
  aft (fun r => some r) (fun s3 =>
    some (true : Bool)) q2

/- loop.example/g00869/spec.CircuitOk -/
def s_CircuitOk_b0 (p0 : Circuit) (v3 : Int) (s1 : Unit) : Option (Bool ⊕ ((Unit) ⊕ (Unit))) :=
  Option.bind (idx p0.Gates v3) fun x55 =>
  Option.bind (s_l1In x55.A 0 (IntKind.i64.wrap ((IntKind.i64.wrap (2 * (IntKind.i64.wrap ((IntKind.i64.wrap ((IntKind.i64.wrap (1 + p0.Inputs)) + p0.Latches)) + v3)))) - 1))) fun x59 =>
  Option.bind (bif (!x59) then
  some true
  else
  Option.bind (idx p0.Gates v3) fun x65 =>
  Option.bind (s_l1In x65.B 0 (IntKind.i64.wrap ((IntKind.i64.wrap (2 * (IntKind.i64.wrap ((IntKind.i64.wrap ((IntKind.i64.wrap (1 + p0.Inputs)) + p0.Latches)) + v3)))) - 1))) fun x69 =>
  some (!x69)) fun p71 =>
  bif p71 then
    some (.inl (false : Bool))
  else
    some (.inr (.inr ()))
def s_CircuitOk (p0 : Circuit) : Option (Bool) :=
  Option.bind (s_l1In p0.Inputs 0 4) fun x7 =>
  Option.bind (bif (!x7) then
  some true
  else
  Option.bind (s_l1In p0.Latches 0 6) fun x12 =>
  some (!x12)) fun p14 =>
  Option.bind (bif p14 then
  some true
  else
  some (decide (8000 < (p0.Gates.length : Int)))) fun p20 =>
  Option.bind (bif p20 then
  some true
  else
  some (decide (4 < (p0.Outs.length : Int)))) fun p26 =>
  Option.bind (bif p26 then
  some true
  else
  some ((p0.Next.length : Int) != p0.Latches)) fun p34 =>
  bif p34 then
    some (false : Bool)
  else
    Option.bind (cntM (s_CircuitOk_b0 p0) p0.Gates.length 0 ()) fun q2 =>
    aft (fun r => some r) (fun s3 =>
      Option.bind (s_l31Signals p0) fun x75 =>
      Option.bind (s_l31Literals p0.Next x75) fun x76 =>
      Option.bind (bif x76 then
      Option.bind (s_l31Signals p0) fun x81 =>
      Option.bind (s_l31Literals p0.Outs x81) fun x82 =>
      some x82
      else
      some false) fun p83 =>
      some (p83 : Bool)) q2

/- loop.example/g00869/spec.l31Pow -/

def s_l31Pow (p0 : Int) : Option (Int) :=
  Option.bind (nn (IntKind.u64.wrap p0)) fun _z5 =>
  some ((IntKind.i64.wrap (1 * 2 ^ (min (Int.toNat (IntKind.u64.wrap p0)) (IntKind.bits IntKind.i64)))) : Int)

/- loop.example/g00869/spec.l31True -/

def s_l31True (p0 : (List Bool)) (p1 : Int) : Option (Bool) :=
  Option.bind (idx p0 (IntKind.i64.wrap (Int.tdiv p1 2))) fun x8 =>
  some ((x8 != ((Int.tmod p1 2) == 1)) : Bool)

/- loop.example/g00869/spec.l31Number -/
def s_l31Number_b0 (p0 : (List Bool)) (p1 : (List Int)) (v6 : Int) (s1 : Int) : Option (Int ⊕ ((Int) ⊕ (Int))) :=
  Option.bind (idx p1 v6) fun x16 =>
  Option.bind (s_l31True p0 x16) fun x18 =>
  Option.bind (bif x18 then
    Option.bind (s_l31Pow v6) fun x21 =>
    some ((IntKind.i64.wrap (s1 + x21)) : Int)
  else
    some (s1 : Int)) fun q4 =>
  some (.inr (.inr (q4 : Int)))
def s_l31Number (p0 : (List Bool)) (p1 : (List Int)) : Option (Int) :=
  Option.bind (cntM (s_l31Number_b0 p0 p1) p1.length 0 (0 : Int)) fun q2 =>
  aft (fun r => some r) (fun s3 =>
    some (s3 : Int)) q2

/- loop.example/g00869/spec.l31Step -/
def s_l31Step_b0 (p2 : Int) (v9 : Int) (s1 : (List Bool)) : Option ((Int × Int) ⊕ (((List Bool)) ⊕ ((List Bool)))) :=
  Option.bind (s_l31Pow v9) fun x22 =>
  Option.bind (nz x22) fun _z23 =>
  Option.bind (appS 1 s1 ([((Int.tmod (IntKind.i64.wrap (Int.tdiv p2 x22)) 2) == 1)] : List Bool)) fun x27 =>
  some (.inr (.inr (x27 : (List Bool))))
def s_l31Step_b2 (p1 : Int) (v10 : Int) (s4 : (List Bool)) : Option ((Int × Int) ⊕ (((List Bool)) ⊕ ((List Bool)))) :=
  Option.bind (s_l31Pow v10) fun x37 =>
  Option.bind (nz x37) fun _z38 =>
  Option.bind (appS 1 s4 ([((Int.tmod (IntKind.i64.wrap (Int.tdiv p1 x37)) 2) == 1)] : List Bool)) fun x42 =>
  some (.inr (.inr (x42 : (List Bool))))
def s_l31Step_b4 (p0 : Circuit) (v11 : Int) (s7 : (List Bool)) : Option ((Int × Int) ⊕ (((List Bool)) ⊕ ((List Bool)))) :=
  Option.bind (idx p0.Gates v11) fun x55 =>
  Option.bind (s_l31True s7 x55.A) fun x58 =>
  Option.bind (bif x58 then
  Option.bind (idx p0.Gates v11) fun x64 =>
  Option.bind (s_l31True s7 x64.B) fun x67 =>
  some x67
  else
  some false) fun p68 =>
  Option.bind (appS 1 s7 ([p68] : List Bool)) fun x70 =>
  some (.inr (.inr (x70 : (List Bool))))
def s_l31Step (p0 : Circuit) (p1 : Int) (p2 : Int) : Option (Int × Int) :=
  Option.bind (rng p0.Inputs) fun _ =>
  Option.bind (cntM (s_l31Step_b0 p2) (Int.toNat (p0.Inputs - 0)) 0 (([false] : List Bool) : (List Bool))) fun q2 =>
  aft (fun r => some r) (fun s3 =>
    Option.bind (rng p0.Latches) fun _ =>
    Option.bind (cntM (s_l31Step_b2 p1) (Int.toNat (p0.Latches - 0)) 0 (s3 : (List Bool))) fun q5 =>
    aft (fun r => some r) (fun s6 =>
      Option.bind (cntM (s_l31Step_b4 p0) p0.Gates.length 0 (s6 : (List Bool))) fun q8 =>
      aft (fun r => some r) (fun s9 =>
        Option.bind (s_l31Number s9 p0.Next) fun x74 =>
        Option.bind (s_l31Number s9 p0.Outs) fun x78 =>
        some ((x74 : Int), (x78 : Int))) q8) q5) q2

/- loop.example/g00869/spec.OutsOver -/
def s_OutsOver_b0 (p0 : Circuit) (p1 : (List Int)) (v6 : Int) (s1 : Unit) : Option ((List Int) ⊕ ((Unit) ⊕ (Unit))) :=
  Option.bind (idx p1 v6) fun x29 =>
  Option.bind (s_l31Pow p0.Inputs) fun x33 =>
  Option.bind (s_l1In x29 0 (IntKind.i64.wrap (x33 - 1))) fun x35 =>
  bif (!x35) then
    some (.inl (([] : List Int) : (List Int)))
  else
    some (.inr (.inr ()))
def s_OutsOver_b2 (p0 : Circuit) (p1 : (List Int)) (v8 : Int) (s4 : (List Int) × Int) : Option ((List Int) ⊕ (((List Int) × Int) ⊕ ((List Int) × Int))) :=
  Option.bind (idx p1 v8) fun x49 =>
  Option.bind (s_l31Step p0 s4.2 x49) fun x51 =>
  Option.bind (appS 8 s4.1 ([x51.2] : List Int)) fun x58 =>
  some (.inr (.inr ((x58 : (List Int)), (x51.1 : Int))))
def s_OutsOver (p0 : Circuit) (p1 : (List Int)) : Option ((List Int)) :=
  Option.bind (bif decide (64 < (p1.length : Int)) then
  some true
  else
  Option.bind (s_CircuitOk p0) fun x17 =>
  some (!x17)) fun p19 =>
  bif p19 then
    some (([] : List Int) : (List Int))
  else
    Option.bind (cntM (s_OutsOver_b0 p0 p1) p1.length 0 ()) fun q2 =>
    aft (fun r => some r) (fun s3 =>
      Option.bind (cntM (s_OutsOver_b2 p0 p1) p1.length 0 ((([] : List Int) : (List Int)), (0 : Int))) fun q5 =>
      aft (fun r => some r) (fun s6 =>
        some (s6.1 : (List Int))) q5) q2

/- loop.example/g00869/impl.areLetters$1 -/

def i_areLetters_1 (p0 : Int) (c0 : Int) : Option (Bool) :=
  Option.bind (bif decide (p0 < 0) then
  some true
  else
  some (decide (c0 ≤ p0))) fun p10 =>
  some (p10 : Bool)

/- slices.IndexFunc[[]int64,int64] -/
def slices_IndexFunc_I_int64__i_areLetters_1_b0 (p0 : (List Int)) (c1_0 : Int) (v8 : Int) (s1 : Unit) : Option (Int ⊕ ((Unit) ⊕ (Unit))) :=
  Option.bind (idx p0 v8) fun x14 =>
  Option.bind (i_areLetters_1 x14 c1_0) fun x16 =>
  bif x16 then
    some (.inl (v8 : Int))
  else
    some (.inr (.inr ()))
def slices_IndexFunc_I_int64__i_areLetters_1 (p0 : (List Int)) (c1_0 : Int) : Option (Int) :=
  Option.bind (cntM (slices_IndexFunc_I_int64__i_areLetters_1_b0 p0 c1_0) p0.length 0 ()) fun q2 =>
  aft (fun r => some r) (fun s3 =>
    some ((-1) : Int)) q2

/- slices.ContainsFunc[[]int64,int64] -/

def slices_ContainsFunc_I_int64__i_areLetters_1 (p0 : (List Int)) (c1_0 : Int) : Option (Bool) :=
  Option.bind (slices_IndexFunc_I_int64__i_areLetters_1 p0 c1_0) fun x7 =>
  some (decide (0 ≤ x7) : Bool)

/- loop.example/g00869/impl.areLetters -/

def i_areLetters (p0 : (List Int)) (p1 : Int) : Option (Bool) :=
  Option.bind (slices_ContainsFunc_I_int64__i_areLetters_1 p0 p1) fun x7 =>
  some ((!x7) : Bool)

/- loop.example/g00869/impl.signalsOf -/

def i_signalsOf (p0 : Circuit) : Option (Int) :=
  some ((IntKind.i64.wrap ((IntKind.i64.wrap ((IntKind.i64.wrap (1 + p0.Inputs)) + p0.Latches)) + (p0.Gates.length : Int))) : Int)

/- loop.example/g00869/impl.isCircuit -/
def i_isCircuit_b0 (p0 : Circuit) (v53 : Int) (s1 : Unit) : Option (Bool ⊕ ((Unit) ⊕ (Unit))) :=
  Option.bind (idx p0.Gates v53) fun x56 =>
  Option.bind (i_areLetters ([x56.A, x56.B] : List Int) (IntKind.i64.wrap (2 * (IntKind.i64.wrap ((IntKind.i64.wrap ((IntKind.i64.wrap (1 + p0.Inputs)) + p0.Latches)) + v53))))) fun x67 =>
  bif (!x67) then
    some (.inl (false : Bool))
  else
    some (.inr (.inr ()))
def i_isCircuit (p0 : Circuit) : Option (Bool) :=
  Option.bind (bif decide (p0.Inputs < 0) then
  some true
  else
  some (decide (4 < p0.Inputs))) fun p13 =>
  Option.bind (bif p13 then
  some true
  else
  some (decide (p0.Latches < 0))) fun p18 =>
  Option.bind (bif p18 then
  some true
  else
  some (decide (6 < p0.Latches))) fun p23 =>
  Option.bind (bif p23 then
  some true
  else
  some ((p0.Next.length : Int) != p0.Latches)) fun p31 =>
  Option.bind (bif p31 then
  some true
  else
  some (decide (8000 < (p0.Gates.length : Int)))) fun p37 =>
  Option.bind (bif p37 then
  some true
  else
  some (decide (4 < (p0.Outs.length : Int)))) fun p43 =>
  bif p43 then
    some (false : Bool)
  else
    Option.bind (cntM (i_isCircuit_b0 p0) p0.Gates.length 0 ()) fun q2 =>
    aft (fun r => some r) (fun s3 =>
      Option.bind (i_signalsOf p0) fun x73 =>
      Option.bind (i_areLetters p0.Next (IntKind.i64.wrap (2 * x73))) fun x75 =>
      Option.bind (bif x75 then
      Option.bind (i_signalsOf p0) fun x80 =>
      Option.bind (i_areLetters p0.Outs (IntKind.i64.wrap (2 * x80))) fun x82 =>
      some x82
      else
      some false) fun p83 =>
      some (p83 : Bool)) q2

/- loop.example/g00869/impl.stepOf$1 -/

def i_stepOf_1 (p0 : Int) (c0 : (List Int)) : Option (Int) :=
  Option.bind (idx c0 (IntKind.i64.wrap (Int.tdiv p0 2))) fun x7 =>
  some ((IntKind.i64.wrap (BitVec.toNat (BitVec.ofInt (IntKind.bits IntKind.i64) x7 ^^^ BitVec.ofInt (IntKind.bits IntKind.i64) (IntKind.i64.wrap (BitVec.toNat (BitVec.ofInt (IntKind.bits IntKind.i64) p0 &&& BitVec.ofInt (IntKind.bits IntKind.i64) 1)))))) : Int)

/- loop.example/g00869/impl.stepOf -/
def i_stepOf_b0 (p2 : Int) (v25 : Int) (s1 : (List Int)) : Option ((Int × Int) ⊕ (((List Int)) ⊕ ((List Int)))) :=
  Option.bind (nn v25) fun _z31 =>
  Option.bind (appS 8 s1 ([(IntKind.i64.wrap (BitVec.toNat (BitVec.ofInt (IntKind.bits IntKind.i64) (Int.fdiv p2 (2 ^ (min (Int.toNat v25) (IntKind.bits IntKind.i64)))) &&& BitVec.ofInt (IntKind.bits IntKind.i64) 1)))] : List Int)) fun x34 =>
  some (.inr (.inr (x34 : (List Int))))
def i_stepOf_b2 (p1 : Int) (v38 : Int) (s4 : (List Int)) : Option ((Int × Int) ⊕ (((List Int)) ⊕ ((List Int)))) :=
  Option.bind (nn v38) fun _z44 =>
  Option.bind (appS 8 s4 ([(IntKind.i64.wrap (BitVec.toNat (BitVec.ofInt (IntKind.bits IntKind.i64) (Int.fdiv p1 (2 ^ (min (Int.toNat v38) (IntKind.bits IntKind.i64)))) &&& BitVec.ofInt (IntKind.bits IntKind.i64) 1)))] : List Int)) fun x47 =>
  some (.inr (.inr (x47 : (List Int))))
def i_stepOf_b4 (p0 : Circuit) (v53 : Int) (s7 : (List Int)) : Option ((Int × Int) ⊕ (((List Int)) ⊕ ((List Int)))) :=
  Option.bind (idx p0.Gates v53) fun x55 =>
  Option.bind (i_stepOf_1 x55.A s7) fun x61 =>
  Option.bind (i_stepOf_1 x55.B s7) fun x65 =>
  Option.bind (appS 8 s7 ([(IntKind.i64.wrap (BitVec.toNat (BitVec.ofInt (IntKind.bits IntKind.i64) x61 &&& BitVec.ofInt (IntKind.bits IntKind.i64) x65)))] : List Int)) fun x68 =>
  some (.inr (.inr (x68 : (List Int))))
def i_stepOf_b6 (p0 : Circuit) (s9 : (List Int)) (v73 : Int) (s10 : Int) : Option ((Int × Int) ⊕ ((Int) ⊕ (Int))) :=
  Option.bind (idx p0.Next v73) fun x76 =>
  Option.bind (i_stepOf_1 x76 s9) fun x81 =>
  Option.bind (nn v73) fun _z83 =>
  some (.inr (.inr ((IntKind.i64.wrap (BitVec.toNat (BitVec.ofInt (IntKind.bits IntKind.i64) s10 ||| BitVec.ofInt (IntKind.bits IntKind.i64) (IntKind.i64.wrap (x81 * 2 ^ (min (Int.toNat v73) (IntKind.bits IntKind.i64))))))) : Int)))
def i_stepOf_b8 (p0 : Circuit) (s9 : (List Int)) (v89 : Int) (s13 : Int) : Option ((Int × Int) ⊕ ((Int) ⊕ (Int))) :=
  Option.bind (idx p0.Outs v89) fun x92 =>
  Option.bind (i_stepOf_1 x92 s9) fun x97 =>
  Option.bind (nn v89) fun _z99 =>
  some (.inr (.inr ((IntKind.i64.wrap (BitVec.toNat (BitVec.ofInt (IntKind.bits IntKind.i64) s13 ||| BitVec.ofInt (IntKind.bits IntKind.i64) (IntKind.i64.wrap (x97 * 2 ^ (min (Int.toNat v89) (IntKind.bits IntKind.i64))))))) : Int)))
def i_stepOf (p0 : Circuit) (p1 : Int) (p2 : Int) : Option (Int × Int) :=
  Option.bind (i_signalsOf p0) fun x21 =>
  Option.bind (mkC 8 1 x21 (0 : Int)) fun x22 =>
  Option.bind (rng p0.Inputs) fun _ =>
  Option.bind (cntM (i_stepOf_b0 p2) (Int.toNat (p0.Inputs - 0)) 0 (x22 : (List Int))) fun q2 =>
  aft (fun r => some r) (fun s3 =>
    Option.bind (rng p0.Latches) fun _ =>
    Option.bind (cntM (i_stepOf_b2 p1) (Int.toNat (p0.Latches - 0)) 0 (s3 : (List Int))) fun q5 =>
    aft (fun r => some r) (fun s6 =>
      Option.bind (cntM (i_stepOf_b4 p0) p0.Gates.length 0 (s6 : (List Int))) fun q8 =>
      aft (fun r => some r) (fun s9 =>
        Option.bind (cntM (i_stepOf_b6 p0 s9) p0.Next.length 0 (0 : Int)) fun q11 =>
        aft (fun r => some r) (fun s12 =>
          Option.bind (cntM (i_stepOf_b8 p0 s9) p0.Outs.length 0 (0 : Int)) fun q14 =>
          aft (fun r => some r) (fun s15 =>
            some ((s12 : Int), (s15 : Int))) q14) q11) q8) q5) q2

/- loop.example/g00869/impl.OutsOver -/
def i_OutsOver_b0 (p0 : Circuit) (p1 : (List Int)) (v30 : Int) (s1 : (List Int) × Int) : Option ((List Int) ⊕ (((List Int) × Int) ⊕ ((List Int) × Int))) :=
  Option.bind (idx p1 v30) fun x32 =>
  Option.bind (i_stepOf p0 s1.2 x32) fun x38 =>
  Option.bind (appS 8 s1.1 ([x38.2] : List Int)) fun x44 =>
  some (.inr (.inr ((x44 : (List Int)), (x38.1 : Int))))
def i_OutsOver (p0 : Circuit) (p1 : (List Int)) : Option ((List Int)) :=
  Option.bind (i_isCircuit p0) fun x12 =>
  Option.bind (bif (!x12) then
  some true
  else
  some (decide (64 < (p1.length : Int)))) fun p18 =>
  Option.bind (bif p18 then
  some true
  else
  Option.bind (nn p0.Inputs) fun _z23 =>
  Option.bind (i_areLetters p1 (IntKind.i64.wrap (1 * 2 ^ (min (Int.toNat p0.Inputs) (IntKind.bits IntKind.i64))))) fun x24 =>
  some (!x24)) fun p26 =>
  bif p26 then
    some (([] : List Int) : (List Int))
  else
    Option.bind (cntM (i_OutsOver_b0 p0 p1) p1.length 0 ((([] : List Int) : (List Int)), (0 : Int))) fun q2 =>
    aft (fun r => some r) (fun s3 =>
      some (s3.1 : (List Int))) q2

/- loop.example/g00869/laws.eqInt64S -/
def l_eqInt64S_b0 (p0 : (List Int)) (p1 : (List Int)) (v5 : Int) (s1 : Unit) : Option (Bool ⊕ ((Unit) ⊕ (Unit))) :=
  Option.bind (idx p0 v5) fun x19 =>
  Option.bind (idx p1 v5) fun x23 =>
  bif (x19 != x23) then
    some (.inl (false : Bool))
  else
    some (.inr (.inr ()))
def l_eqInt64S (p0 : (List Int)) (p1 : (List Int)) : Option (Bool) :=
  bif ((p0.length : Int) != (p1.length : Int)) then
    some (false : Bool)
  else
    Option.bind (cntM (l_eqInt64S_b0 p0 p1) p0.length 0 ()) fun q2 =>
    aft (fun r => some r) (fun s3 =>
      some (true : Bool)) q2

/- loop.example/g00869/laws.eqGate -/

def l_eqGate (p0 : Gate) (p1 : Gate) : Option (Bool) :=
  bif (p0.A != p1.A) then
    some (false : Bool)
  else
    bif (p0.B != p1.B) then
      some (false : Bool)
    else
      some (true : Bool)

/- loop.example/g00869/laws.eqGateS -/
def l_eqGateS_b0 (p0 : (List Gate)) (p1 : (List Gate)) (v5 : Int) (s1 : Unit) : Option (Bool ⊕ ((Unit) ⊕ (Unit))) :=
  Option.bind (idx p0 v5) fun x19 =>
  Option.bind (idx p1 v5) fun x23 =>
  Option.bind (l_eqGate x19 x23) fun x25 =>
  bif (!x25) then
    some (.inl (false : Bool))
  else
    some (.inr (.inr ()))
def l_eqGateS (p0 : (List Gate)) (p1 : (List Gate)) : Option (Bool) :=
  bif ((p0.length : Int) != (p1.length : Int)) then
    some (false : Bool)
  else
    Option.bind (cntM (l_eqGateS_b0 p0 p1) p0.length 0 ()) fun q2 =>
    aft (fun r => some r) (fun s3 =>
      some (true : Bool)) q2

/- loop.example/g00869/laws.eqCircuit -/

def l_eqCircuit (p0 : Circuit) (p1 : Circuit) : Option (Bool) :=
  bif (p0.Inputs != p1.Inputs) then
    some (false : Bool)
  else
    bif (p0.Latches != p1.Latches) then
      some (false : Bool)
    else
      Option.bind (l_eqInt64S p0.Next p1.Next) fun x19 =>
      bif (!x19) then
        some (false : Bool)
      else
        Option.bind (l_eqGateS p0.Gates p1.Gates) fun x25 =>
        bif (!x25) then
          some (false : Bool)
        else
          Option.bind (l_eqInt64S p0.Outs p1.Outs) fun x31 =>
          bif (!x31) then
            some (false : Bool)
          else
            some (true : Bool)

/- loop.example/g00869/laws.markInt64S -/
def l_markInt64S_b0  (v5 : Int) (s1 : Int × (List Int)) : Option ((Int × (List Int)) ⊕ ((Int × (List Int)) ⊕ (Int × (List Int)))) :=
  Option.bind (idx s1.2 v5) fun x15 =>
  Option.bind (setI s1.2 v5 s1.1) fun y18 =>
  some (.inr (.inr (((IntKind.i64.wrap (s1.1 + 1)) : Int), (y18 : (List Int)))))
def l_markInt64S (p0 : (List Int)) (p1 : Int) : Option (Int × (List Int)) :=
  Option.bind (cntM l_markInt64S_b0 p0.length 0 ((p1 : Int), (p0 : (List Int)))) fun q2 =>
  aft (fun r => some r) (fun s3 =>
    some ((s3.1 : Int), (s3.2 : (List Int)))) q2

/- loop.example/g00869/laws.markGateS -/
def l_markGateS_b0  (v5 : Int) (s1 : Int × (List Gate)) : Option ((Int × (List Gate)) ⊕ ((Int × (List Gate)) ⊕ (Int × (List Gate)))) :=
  Option.bind (idx s1.2 v5) fun x15 =>
  Option.bind (setI s1.2 v5 ((⟨s1.1, x15.B⟩ : Gate) : Gate)) fun y19 =>
  Option.bind (idx y19 v5) fun x22 =>
  Option.bind (setI y19 v5 ((⟨x22.A, (IntKind.i64.wrap (s1.1 + 1))⟩ : Gate) : Gate)) fun y20 =>
  some (.inr (.inr (((IntKind.i64.wrap ((IntKind.i64.wrap (s1.1 + 1)) + 1)) : Int), (y20 : (List Gate)))))
def l_markGateS (p0 : (List Gate)) (p1 : Int) : Option (Int × (List Gate)) :=
  Option.bind (cntM l_markGateS_b0 p0.length 0 ((p1 : Int), (p0 : (List Gate)))) fun q2 =>
  aft (fun r => some r) (fun s3 =>
    some ((s3.1 : Int), (s3.2 : (List Gate)))) q2

/- loop.example/g00869/laws.markCircuit -/

def l_markCircuit (p0 : Circuit) (p1 : Int) : Option (Int × (List Int) × (List Gate) × (List Int)) :=
  Option.bind (l_markInt64S p0.Next p1) fun x8 =>
  Option.bind (l_markGateS p0.Gates x8.1) fun x12 =>
  Option.bind (l_markInt64S p0.Outs x12.1) fun x16 =>
  some ((x16.1 : Int), (x8.2 : (List Int)), (x12.2 : (List Gate)), (x16.2 : (List Int)))

/- loop.example/g00869/laws.heldInt64S -/
def l_heldInt64S_b0 (p0 : (List Int)) (v5 : Int) (s1 : Int) : Option (Int ⊕ ((Int) ⊕ (Int))) :=
  Option.bind (idx p0 v5) fun x14 =>
  bif (x14 != s1) then
    some (.inl ((-1) : Int))
  else
    some (.inr (.inr ((IntKind.i64.wrap (s1 + 1)) : Int)))
def l_heldInt64S (p0 : (List Int)) (p1 : Int) : Option (Int) :=
  Option.bind (cntM (l_heldInt64S_b0 p0) p0.length 0 (p1 : Int)) fun q2 =>
  aft (fun r => some r) (fun s3 =>
    some (s3 : Int)) q2

/- loop.example/g00869/laws.FnExactOutsOver -/

def l_FnExactOutsOver (p0 : Circuit) (p1 : (List Int)) : Option (Bool) :=
  bif decide (1048576 < (p1.length : Int)) then
    some (true : Bool)
  else
    Option.bind (l_szCircuit p0 1048576) fun x19 =>
    bif decide (x19 < 0) then
      some (true : Bool)
    else
      Option.bind (l_toCircuit p0) fun x23 =>
      Option.bind (l_toInt64S p1) fun x25 =>
      Option.bind (s_OutsOver x23 x25) fun x26 =>
      Option.bind (l_toCircuit p0) fun x28 =>
      Option.bind (l_toInt64S p1) fun x30 =>
      Option.bind (i_OutsOver x28 x30) fun x33 =>
      Option.bind (l_eqInt64S x33 x26) fun x36 =>
      bif (!x36) then
        some (false : Bool)
      else
        Option.bind (l_toCircuit p0) fun x40 =>
        Option.bind (l_eqCircuit x28 x40) fun x41 =>
        bif (!x41) then
          some (false : Bool)
        else
          Option.bind (l_toInt64S p1) fun x45 =>
          Option.bind (l_eqInt64S x30 x45) fun x46 =>
          bif (!x46) then
            some (false : Bool)
          else
            Option.bind (l_markCircuit x28 1) fun x50 =>
            Option.bind (l_markInt64S x30 x50.1) fun x53 =>
            Option.bind (bif decide (x53.1 < 0) then
            some true
            else
            Option.bind (l_eqInt64S x33 x26) fun x59 =>
            some (!x59)) fun p61 =>
            bif p61 then
              some (false : Bool)
            else
              Option.bind (l_markInt64S x33 1) fun x64 =>
              Option.bind (l_heldInt64S x64.2 1) fun x67 =>
              bif decide (x67 < 0) then
                some (false : Bool)
              else
                bif (x67 != x64.1) then
                  some (false : Bool)
                else
                  Option.bind (l_toCircuit p0) fun x74 =>
                  Option.bind (l_toInt64S p1) fun x76 =>
                  Option.bind (i_OutsOver x74 x76) fun x77 =>
                  Option.bind (l_eqInt64S x77 x26) fun x80 =>
                  bif (!x80) then
                    some (false : Bool)
                  else
                    Option.bind (l_heldInt64S x64.2 1) fun x84 =>
                    bif decide (x84 < 0) then
                      some (false : Bool)
                    else
                      bif (x84 != x64.1) then
                        some (false : Bool)
                      else
                        some (true : Bool)

/- loop.example/g00869/spec.StepOf -/

def s_StepOf (p0 : Circuit) (p1 : Int) (p2 : Int) : Option (Int × Int) :=
  Option.bind (s_CircuitOk p0) fun x9 =>
  Option.bind (bif (!x9) then
  some true
  else
  Option.bind (s_l31Pow p0.Latches) fun x15 =>
  Option.bind (s_l1In p1 0 (IntKind.i64.wrap (x15 - 1))) fun x17 =>
  some (!x17)) fun p19 =>
  Option.bind (bif p19 then
  some true
  else
  Option.bind (s_l31Pow p0.Inputs) fun x24 =>
  Option.bind (s_l1In p2 0 (IntKind.i64.wrap (x24 - 1))) fun x26 =>
  some (!x26)) fun p28 =>
  bif p28 then
    some (((-1) : Int), ((-1) : Int))
  else
    Option.bind (s_l31Step p0 p1 p2) fun x32 =>
    some ((x32.1 : Int), (x32.2 : Int))

/- loop.example/g00869/impl.StepOf -/

def i_StepOf (p0 : Circuit) (p1 : Int) (p2 : Int) : Option (Int × Int) :=
  Option.bind (i_isCircuit p0) fun x11 =>
  Option.bind (bif (!x11) then
  some true
  else
  some (decide (p1 < 0))) fun p16 =>
  Option.bind (bif p16 then
  some true
  else
  Option.bind (nn p0.Latches) fun _z21 =>
  some (decide ((IntKind.i64.wrap (1 * 2 ^ (min (Int.toNat p0.Latches) (IntKind.bits IntKind.i64)))) ≤ p1))) fun p23 =>
  Option.bind (bif p23 then
  some true
  else
  some (decide (p2 < 0))) fun p27 =>
  Option.bind (bif p27 then
  some true
  else
  Option.bind (nn p0.Inputs) fun _z32 =>
  some (decide ((IntKind.i64.wrap (1 * 2 ^ (min (Int.toNat p0.Inputs) (IntKind.bits IntKind.i64)))) ≤ p2))) fun p34 =>
  bif p34 then
    some (((-1) : Int), ((-1) : Int))
  else
    Option.bind (i_stepOf p0 p1 p2) fun x39 =>
    some ((x39.1 : Int), (x39.2 : Int))

/- loop.example/g00869/impl.isSig -/

def i_isSig (p0 : Sig) : Option (Bool) :=
  Option.bind (bif decide (1 ≤ p0.In) then
  some (decide (p0.In ≤ 2))
  else
  some false) fun p10 =>
  Option.bind (bif p10 then
  some (decide (1 ≤ p0.Out))
  else
  some false) fun p15 =>
  Option.bind (bif p15 then
  some (decide (p0.Out ≤ 2))
  else
  some false) fun p20 =>
  some (p20 : Bool)

/- loop.example/g00869/spec.l23Below -/
def s_l23Below_b0 (p0 : (List Int)) (p1 : Int) (v5 : Int) (s1 : Unit) : Option (Bool ⊕ ((Unit) ⊕ (Unit))) :=
  Option.bind (idx p0 v5) fun x14 =>
  Option.bind (s_l1In x14 0 (IntKind.i64.wrap (p1 - 1))) fun x18 =>
  bif (!x18) then
    some (.inl (false : Bool))
  else
    some (.inr (.inr ()))
def s_l23Below (p0 : (List Int)) (p1 : Int) : Option (Bool) :=
  Option.bind (cntM (s_l23Below_b0 p0 p1) p0.length 0 ()) fun q2 =>
  aft (fun r => some r) (fun s3 =>
    some (true : Bool)) q2

/- loop.example/g00869/spec.SigOk -/

def s_SigOk (p0 : Sig) : Option (Bool) :=
  Option.bind (s_l1In p0.In 1 2) fun x5 =>
  Option.bind (bif x5 then
  Option.bind (s_l1In p0.Out 1 2) fun x9 =>
  some x9
  else
  some false) fun p10 =>
  some (p10 : Bool)

/- loop.example/g00869/spec.l23Power -/
def s_l23Power_b0  (s1 : Int × Int) : Option (Int ⊕ ((Int × Int) ⊕ (Int × Int))) :=
  bif decide (0 < s1.1) then
    some (.inr (.inr (((IntKind.i64.wrap (s1.1 - 1)) : Int), ((IntKind.i64.wrap (s1.2 * 2)) : Int))))
  else
    some (.inr (.inl ((s1.1 : Int), (s1.2 : Int))))
def s_l23Power (p0 : Int) : Option (Int) :=
  Option.bind (whileM s_l23Power_b0 (2 ^ 64) ((p0 : Int), (1 : Int))) fun q2 =>
  aft (fun r => some r) (fun s3 =>
    some (s3.2 : Int)) q2

end Go.Proofs.Ytgniipbjjkodaaa
