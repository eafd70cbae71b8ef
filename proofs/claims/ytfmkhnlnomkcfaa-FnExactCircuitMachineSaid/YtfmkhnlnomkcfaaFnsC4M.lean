/- The functions on data. By program. -/
import Derived.Test.YtfmkhnlnomkcfaaTypes
set_option linter.unusedVariables false
set_option linter.unusedSimpArgs false
namespace Go.Proofs.Ytfmkhnlnomkcfaa
open Go Go.Wk Go.Proofs
set_option maxRecDepth 100000
set_option maxHeartbeats 1000000

/- loop.example/g00869/laws.szInt64S -/

def l_szInt64S (p0 : (List Int)) (p1 : Int) : Option (Int) :=
  bif decide ((IntKind.i64.wrap (p1 - (p0.length : Int))) < 0) then
    some ((-1) : Int)
  else
    some ((IntKind.i64.wrap (p1 - (p0.length : Int))) : Int)

/- loop.example/g00869/laws.szGateS -/

def l_szGateS (p0 : (List Gate)) (p1 : Int) : Option (Int) :=
  bif decide ((IntKind.i64.wrap (p1 - (p0.length : Int))) < 0) then
    some ((-1) : Int)
  else
    some ((IntKind.i64.wrap (p1 - (p0.length : Int))) : Int)

/- loop.example/g00869/laws.szCircuit -/

def l_szCircuit (p0 : Circuit) (p1 : Int) : Option (Int) :=
  Option.bind (l_szInt64S p0.Next p1) fun x8 =>
  bif decide (x8 < 0) then
    some ((-1) : Int)
  else
    Option.bind (l_szGateS p0.Gates x8) fun x14 =>
    bif decide (x14 < 0) then
      some ((-1) : Int)
    else
      Option.bind (l_szInt64S p0.Outs x14) fun x20 =>
      bif decide (x20 < 0) then
        some ((-1) : Int)
      else
        some (x20 : Int)

/- loop.example/g00869/laws.toSig -/

def l_toSig (p0 : Sig) : Option (Sig) :=
  some ((⟨p0.In, p0.Out⟩ : Sig) : Sig)

/- loop.example/g00869/laws.toInt64S -/
def l_toInt64S_b0 (p0 : (List Int)) (v4 : Int) (s1 : (List Int)) : Option ((List Int) ⊕ (((List Int)) ⊕ ((List Int)))) :=
  Option.bind (idx p0 v4) fun x18 =>
  Option.bind (idx s1 v4) fun x20 =>
  Option.bind (setI s1 v4 x18) fun y1 =>
  some (.inr (.inr (y1 : (List Int))))
def l_toInt64S (p0 : (List Int)) : Option ((List Int)) :=
  Option.bind (mkS 8 (p0.length : Int) (0 : Int)) fun x7 =>
  Option.bind (cntM (l_toInt64S_b0 p0) p0.length 0 (x7 : (List Int))) fun q2 =>
  aft (fun r => some r) (fun s3 =>
    some (s3 : (List Int))) q2

/- loop.example/g00869/laws.toGate -/

def l_toGate (p0 : Gate) : Option (Gate) :=
  some ((⟨p0.A, p0.B⟩ : Gate) : Gate)

/- loop.example/g00869/laws.toGateS -/
def l_toGateS_b0 (p0 : (List Gate)) (v4 : Int) (s1 : (List Gate)) : Option ((List Gate) ⊕ (((List Gate)) ⊕ ((List Gate)))) :=
  Option.bind (idx p0 v4) fun x18 =>
  Option.bind (l_toGate x18) fun x20 =>
  Option.bind (idx s1 v4) fun x21 =>
  Option.bind (setI s1 v4 (x20 : Gate)) fun y3 =>
  some (.inr (.inr (y3 : (List Gate))))
def l_toGateS (p0 : (List Gate)) : Option ((List Gate)) :=
  Option.bind (mkS 16 (p0.length : Int) ((⟨0, 0⟩ : Gate) : Gate)) fun x7 =>
  Option.bind (cntM (l_toGateS_b0 p0) p0.length 0 (x7 : (List Gate))) fun q2 =>
  aft (fun r => some r) (fun s3 =>
    some (s3 : (List Gate))) q2

/- loop.example/g00869/laws.toCircuit -/

def l_toCircuit (p0 : Circuit) : Option (Circuit) :=
  Option.bind (l_toInt64S p0.Next) fun x12 =>
  Option.bind (l_toGateS p0.Gates) fun x16 =>
  Option.bind (l_toInt64S p0.Outs) fun x20 =>
  some ((⟨p0.Inputs, p0.Latches, x12, x16, x20⟩ : Circuit) : Circuit)

/- loop.example/g00869/spec.l1In -/

def s_l1In (p0 : Int) (p1 : Int) (p2 : Int) : Option (Bool) :=
  Option.bind (bif decide (p1 ≤ p0) then
  some (decide (p0 ≤ p2))
  else
  some false) fun p14 =>
  some (p14 : Bool)

/- loop.example/g00869/spec.SigOk -/

def s_SigOk (p0 : Sig) : Option (Bool) :=
  Option.bind (s_l1In p0.In 1 2) fun x5 =>
  Option.bind (bif x5 then
  Option.bind (s_l1In p0.Out 1 2) fun x9 =>
  some x9
  else
  some false) fun p10 =>
  some (p10 : Bool)

/- loop.example/g00869/spec.l31Signals -/

def s_l31Signals (p0 : Circuit) : Option (Int) :=
  some ((IntKind.i64.wrap ((IntKind.i64.wrap ((IntKind.i64.wrap (1 + p0.Inputs)) + p0.Latches)) + (p0.Gates.length : Int))) : Int)

/- loop.example/g00869/spec.l31Literals -/
def s_l31Literals_b0 (p0 : (List Int)) (p1 : Int) (v5 : Int) (s1 : Unit) : Option (Bool ⊕ ((Unit) ⊕ (Unit))) :=
  Option.bind (idx p0 v5) fun x14 =>
  Option.bind (s_l1In x14 0 (IntKind.i64.wrap ((IntKind.i64.wrap (2 * p1)) - 1))) fun x19 =>
  bif (!x19) then
    some (.inl (false : Bool))
  else
    some (.inr (.inr ()))
def s_l31Literals (p0 : (List Int)) (p1 : Int) : Option (Bool) :=
  Option.bind (cntM (s_l31Literals_b0 p0 p1) p0.length 0 ()) fun q2 =>
  aft (fun r => some r) (fun s3 =>
    some (true : Bool)) q2

/- loop.example/g00869/spec.CircuitOk -/
def s_CircuitOk_b0 (p0 : Circuit) (v3 : Int) (s1 : Unit) : Option (Bool ⊕ ((Unit) ⊕ (Unit))) :=
  Option.bind (idx p0.Gates v3) fun x55 =>
  Option.bind (s_l1In x55.A 0 (IntKind.i64.wrap ((IntKind.i64.wrap (2 * (IntKind.i64.wrap ((IntKind.i64.wrap ((IntKind.i64.wrap (1 + p0.Inputs)) + p0.Latches)) + v3)))) - 1))) fun x59 =>
  Option.bind (bif (!x59) then
  some true
  else
  Option.bind (idx p0.Gates v3) fun x65 =>
  Option.bind (s_l1In x65.B 0 (IntKind.i64.wrap ((IntKind.i64.wrap (2 * (IntKind.i64.wrap ((IntKind.i64.wrap ((IntKind.i64.wrap (1 + p0.Inputs)) + p0.Latches)) + v3)))) - 1))) fun x69 =>
  some (!x69)) fun p71 =>
  bif p71 then
    some (.inl (false : Bool))
  else
    some (.inr (.inr ()))
def s_CircuitOk (p0 : Circuit) : Option (Bool) :=
  Option.bind (s_l1In p0.Inputs 0 4) fun x7 =>
  Option.bind (bif (!x7) then
  some true
  else
  Option.bind (s_l1In p0.Latches 0 6) fun x12 =>
  some (!x12)) fun p14 =>
  Option.bind (bif p14 then
  some true
  else
  some (decide (8000 < (p0.Gates.length : Int)))) fun p20 =>
  Option.bind (bif p20 then
  some true
  else
  some (decide (4 < (p0.Outs.length : Int)))) fun p26 =>
  Option.bind (bif p26 then
  some true
  else
  some ((p0.Next.length : Int) != p0.Latches)) fun p34 =>
  bif p34 then
    some (false : Bool)
  else
    Option.bind (cntM (s_CircuitOk_b0 p0) p0.Gates.length 0 ()) fun q2 =>
    aft (fun r => some r) (fun s3 =>
      Option.bind (s_l31Signals p0) fun x75 =>
      Option.bind (s_l31Literals p0.Next x75) fun x76 =>
      Option.bind (bif x76 then
      Option.bind (s_l31Signals p0) fun x81 =>
      Option.bind (s_l31Literals p0.Outs x81) fun x82 =>
      some x82
      else
      some false) fun p83 =>
      some (p83 : Bool)) q2

/- loop.example/g00869/spec.l31Fits -/

def s_l31Fits (p0 : Sig) (p1 : Circuit) : Option (Bool) :=
  Option.bind (s_CircuitOk p1) fun x6 =>
  Option.bind (bif x6 then
  some (p1.Inputs == p0.In)
  else
  some false) fun p13 =>
  Option.bind (bif p13 then
  some ((p1.Outs.length : Int) == p0.Out)
  else
  some false) fun p21 =>
  some (p21 : Bool)

/- loop.example/g00869/spec.l31Pow -/

def s_l31Pow (p0 : Int) : Option (Int) :=
  Option.bind (nn (IntKind.u64.wrap p0)) fun _z5 =>
  some ((IntKind.i64.wrap (1 * 2 ^ (min (Int.toNat (IntKind.u64.wrap p0)) (IntKind.bits IntKind.i64)))) : Int)

/- loop.example/g00869/spec.l31True -/

def s_l31True (p0 : (List Bool)) (p1 : Int) : Option (Bool) :=
  Option.bind (idx p0 (IntKind.i64.wrap (Int.tdiv p1 2))) fun x8 =>
  some ((x8 != ((Int.tmod p1 2) == 1)) : Bool)

/- loop.example/g00869/spec.l31Number -/
def s_l31Number_b0 (p0 : (List Bool)) (p1 : (List Int)) (v6 : Int) (s1 : Int) : Option (Int ⊕ ((Int) ⊕ (Int))) :=
  Option.bind (idx p1 v6) fun x16 =>
  Option.bind (s_l31True p0 x16) fun x18 =>
  Option.bind (bif x18 then
    Option.bind (s_l31Pow v6) fun x21 =>
    some ((IntKind.i64.wrap (s1 + x21)) : Int)
  else
    some (s1 : Int)) fun q4 =>
  some (.inr (.inr (q4 : Int)))
def s_l31Number (p0 : (List Bool)) (p1 : (List Int)) : Option (Int) :=
  Option.bind (cntM (s_l31Number_b0 p0 p1) p1.length 0 (0 : Int)) fun q2 =>
  aft (fun r => some r) (fun s3 =>
    some (s3 : Int)) q2

/- loop.example/g00869/spec.l31Step -/
def s_l31Step_b0 (p2 : Int) (v9 : Int) (s1 : (List Bool)) : Option ((Int × Int) ⊕ (((List Bool)) ⊕ ((List Bool)))) :=
  Option.bind (s_l31Pow v9) fun x22 =>
  Option.bind (nz x22) fun _z23 =>
  Option.bind (appS 1 s1 ([((Int.tmod (IntKind.i64.wrap (Int.tdiv p2 x22)) 2) == 1)] : List Bool)) fun x27 =>
  some (.inr (.inr (x27 : (List Bool))))
def s_l31Step_b2 (p1 : Int) (v10 : Int) (s4 : (List Bool)) : Option ((Int × Int) ⊕ (((List Bool)) ⊕ ((List Bool)))) :=
  Option.bind (s_l31Pow v10) fun x37 =>
  Option.bind (nz x37) fun _z38 =>
  Option.bind (appS 1 s4 ([((Int.tmod (IntKind.i64.wrap (Int.tdiv p1 x37)) 2) == 1)] : List Bool)) fun x42 =>
  some (.inr (.inr (x42 : (List Bool))))
def s_l31Step_b4 (p0 : Circuit) (v11 : Int) (s7 : (List Bool)) : Option ((Int × Int) ⊕ (((List Bool)) ⊕ ((List Bool)))) :=
  Option.bind (idx p0.Gates v11) fun x55 =>
  Option.bind (s_l31True s7 x55.A) fun x58 =>
  Option.bind (bif x58 then
  Option.bind (idx p0.Gates v11) fun x64 =>
  Option.bind (s_l31True s7 x64.B) fun x67 =>
  some x67
  else
  some false) fun p68 =>
  Option.bind (appS 1 s7 ([p68] : List Bool)) fun x70 =>
  some (.inr (.inr (x70 : (List Bool))))
def s_l31Step (p0 : Circuit) (p1 : Int) (p2 : Int) : Option (Int × Int) :=
  Option.bind (rng p0.Inputs) fun _ =>
  Option.bind (cntM (s_l31Step_b0 p2) (Int.toNat (p0.Inputs - 0)) 0 (([false] : List Bool) : (List Bool))) fun q2 =>
  aft (fun r => some r) (fun s3 =>
    Option.bind (rng p0.Latches) fun _ =>
    Option.bind (cntM (s_l31Step_b2 p1) (Int.toNat (p0.Latches - 0)) 0 (s3 : (List Bool))) fun q5 =>
    aft (fun r => some r) (fun s6 =>
      Option.bind (cntM (s_l31Step_b4 p0) p0.Gates.length 0 (s6 : (List Bool))) fun q8 =>
      aft (fun r => some r) (fun s9 =>
        Option.bind (s_l31Number s9 p0.Next) fun x74 =>
        Option.bind (s_l31Number s9 p0.Outs) fun x78 =>
        some ((x74 : Int), (x78 : Int))) q8) q5) q2

/- loop.example/g00869/spec.CircuitMachine -/
def s_CircuitMachine_b4 (s4 : (List Int) × (List Int) × (List Int) × Int) (x49 : Int × Int) (s7 : Int) : Option ((Machine × Bool) ⊕ ((Int) ⊕ (Int))) :=
  Option.bind (bif decide (s7 < (s4.1.length : Int)) then
  Option.bind (idx s4.1 s7) fun x59 =>
  some (x59 != x49.1)
  else
  some false) fun p63 =>
  bif p63 then
    some (.inr (.inr ((IntKind.i64.wrap (s7 + 1)) : Int)))
  else
    some (.inr (.inl (s7 : Int)))
def s_CircuitMachine_b2 (p0 : Sig) (p1 : Circuit) (s1 : (List Int) × Int × (List (List Int)) × (List (List Int))) (s4 : (List Int) × (List Int) × (List Int) × Int) : Option ((Machine × Bool) ⊕ (((List Int) × (List Int) × (List Int) × Int) ⊕ ((List Int) × (List Int) × (List Int) × Int))) :=
  Option.bind (s_l31Pow p0.In) fun x38 =>
  bif decide (s4.2.2.2 < x38) then
    Option.bind (idx s4.1 s1.2.1) fun x46 =>
    Option.bind (s_l31Step p1 x46 s4.2.2.2) fun x49 =>
    Option.bind (whileM (s_CircuitMachine_b4 s4 x49) (2 ^ 64) (0 : Int)) fun q8 =>
    aft (fun r => some (.inl r)) (fun s9 =>
      Option.bind (bif (s9 == (s4.1.length : Int)) then
        bif decide (48 ≤ s9) then
          some (.inl (((⟨([] : List (List Int)), ([] : List (List Int))⟩ : Machine) : Machine), (false : Bool)))
        else
          Option.bind (appS 8 s4.1 ([x49.1] : List Int)) fun x76 =>
          some (.inr (x76 : (List Int)))
      else
        some (.inr (s4.1 : (List Int))) : Option ((Machine × Bool) ⊕ ((List Int)))) fun q10 =>
      aft (fun r => some (.inl r)) (fun z10 =>
        Option.bind (appS 8 s4.2.1 ([s9] : List Int)) fun x80 =>
        Option.bind (appS 8 s4.2.2.1 ([x49.2] : List Int)) fun x84 =>
        some (.inr (.inr ((z10 : (List Int)), (x80 : (List Int)), (x84 : (List Int)), ((IntKind.i64.wrap (s4.2.2.2 + 1)) : Int))))) q10) q8
  else
    some (.inr (.inl ((s4.1 : (List Int)), (s4.2.1 : (List Int)), (s4.2.2.1 : (List Int)), (s4.2.2.2 : Int))))
def s_CircuitMachine_b0 (p0 : Sig) (p1 : Circuit) (s1 : (List Int) × Int × (List (List Int)) × (List (List Int))) : Option ((Machine × Bool) ⊕ (((List Int) × Int × (List (List Int)) × (List (List Int))) ⊕ ((List Int) × Int × (List (List Int)) × (List (List Int))))) :=
  bif decide (s1.2.1 < (s1.1.length : Int)) then
    Option.bind (whileM (s_CircuitMachine_b2 p0 p1 s1) (2 ^ 64) ((s1.1 : (List Int)), (([] : List Int) : (List Int)), (([] : List Int) : (List Int)), (0 : Int))) fun q5 =>
    aft (fun r => some (.inl r)) (fun s6 =>
      Option.bind (appS 24 s1.2.2.1 ([s6.2.1] : List (List Int))) fun x89 =>
      Option.bind (appS 24 s1.2.2.2 ([s6.2.2.1] : List (List Int))) fun x95 =>
      some (.inr (.inr ((s6.1 : (List Int)), ((IntKind.i64.wrap (s1.2.1 + 1)) : Int), (x89 : (List (List Int))), (x95 : (List (List Int))))))) q5
  else
    some (.inr (.inl ((s1.1 : (List Int)), (s1.2.1 : Int), (s1.2.2.1 : (List (List Int))), (s1.2.2.2 : (List (List Int))))))
def s_CircuitMachine (p0 : Sig) (p1 : Circuit) : Option (Machine × Bool) :=
  Option.bind (s_SigOk p0) fun x16 =>
  Option.bind (bif (!x16) then
  some true
  else
  Option.bind (s_l31Fits p0 p1) fun x21 =>
  some (!x21)) fun p23 =>
  bif p23 then
    some (((⟨([] : List (List Int)), ([] : List (List Int))⟩ : Machine) : Machine), (false : Bool))
  else
    Option.bind (whileM (s_CircuitMachine_b0 p0 p1) (2 ^ 64) ((([0] : List Int) : (List Int)), (0 : Int), (([] : List (List Int)) : (List (List Int))), (([] : List (List Int)) : (List (List Int))))) fun q2 =>
    aft (fun r => some r) (fun s3 =>
      some (((⟨s3.2.2.1, s3.2.2.2⟩ : Machine) : Machine), (true : Bool))) q2

/- loop.example/g00869/impl.isSig -/

def i_isSig (p0 : Sig) : Option (Bool) :=
  Option.bind (bif decide (1 ≤ p0.In) then
  some (decide (p0.In ≤ 2))
  else
  some false) fun p10 =>
  Option.bind (bif p10 then
  some (decide (1 ≤ p0.Out))
  else
  some false) fun p15 =>
  Option.bind (bif p15 then
  some (decide (p0.Out ≤ 2))
  else
  some false) fun p20 =>
  some (p20 : Bool)

/- loop.example/g00869/impl.areLetters$1 -/

def i_areLetters_1 (p0 : Int) (c0 : Int) : Option (Bool) :=
  Option.bind (bif decide (p0 < 0) then
  some true
  else
  some (decide (c0 ≤ p0))) fun p10 =>
  some (p10 : Bool)

/- slices.IndexFunc[[]int64,int64] -/
def slices_IndexFunc_I_int64__i_areLetters_1_b0 (p0 : (List Int)) (c1_0 : Int) (v8 : Int) (s1 : Unit) : Option (Int ⊕ ((Unit) ⊕ (Unit))) :=
  Option.bind (idx p0 v8) fun x14 =>
  Option.bind (i_areLetters_1 x14 c1_0) fun x16 =>
  bif x16 then
    some (.inl (v8 : Int))
  else
    some (.inr (.inr ()))
def slices_IndexFunc_I_int64__i_areLetters_1 (p0 : (List Int)) (c1_0 : Int) : Option (Int) :=
  Option.bind (cntM (slices_IndexFunc_I_int64__i_areLetters_1_b0 p0 c1_0) p0.length 0 ()) fun q2 =>
  aft (fun r => some r) (fun s3 =>
    some ((-1) : Int)) q2

/- slices.ContainsFunc[[]int64,int64] -/

def slices_ContainsFunc_I_int64__i_areLetters_1 (p0 : (List Int)) (c1_0 : Int) : Option (Bool) :=
  Option.bind (slices_IndexFunc_I_int64__i_areLetters_1 p0 c1_0) fun x7 =>
  some (decide (0 ≤ x7) : Bool)

/- loop.example/g00869/impl.areLetters -/

def i_areLetters (p0 : (List Int)) (p1 : Int) : Option (Bool) :=
  Option.bind (slices_ContainsFunc_I_int64__i_areLetters_1 p0 p1) fun x7 =>
  some ((!x7) : Bool)

/- loop.example/g00869/impl.signalsOf -/

def i_signalsOf (p0 : Circuit) : Option (Int) :=
  some ((IntKind.i64.wrap ((IntKind.i64.wrap ((IntKind.i64.wrap (1 + p0.Inputs)) + p0.Latches)) + (p0.Gates.length : Int))) : Int)

/- loop.example/g00869/impl.isCircuit -/
def i_isCircuit_b0 (p0 : Circuit) (v53 : Int) (s1 : Unit) : Option (Bool ⊕ ((Unit) ⊕ (Unit))) :=
  Option.bind (idx p0.Gates v53) fun x56 =>
  Option.bind (i_areLetters ([x56.A, x56.B] : List Int) (IntKind.i64.wrap (2 * (IntKind.i64.wrap ((IntKind.i64.wrap ((IntKind.i64.wrap (1 + p0.Inputs)) + p0.Latches)) + v53))))) fun x67 =>
  bif (!x67) then
    some (.inl (false : Bool))
  else
    some (.inr (.inr ()))
def i_isCircuit (p0 : Circuit) : Option (Bool) :=
  Option.bind (bif decide (p0.Inputs < 0) then
  some true
  else
  some (decide (4 < p0.Inputs))) fun p13 =>
  Option.bind (bif p13 then
  some true
  else
  some (decide (p0.Latches < 0))) fun p18 =>
  Option.bind (bif p18 then
  some true
  else
  some (decide (6 < p0.Latches))) fun p23 =>
  Option.bind (bif p23 then
  some true
  else
  some ((p0.Next.length : Int) != p0.Latches)) fun p31 =>
  Option.bind (bif p31 then
  some true
  else
  some (decide (8000 < (p0.Gates.length : Int)))) fun p37 =>
  Option.bind (bif p37 then
  some true
  else
  some (decide (4 < (p0.Outs.length : Int)))) fun p43 =>
  bif p43 then
    some (false : Bool)
  else
    Option.bind (cntM (i_isCircuit_b0 p0) p0.Gates.length 0 ()) fun q2 =>
    aft (fun r => some r) (fun s3 =>
      Option.bind (i_signalsOf p0) fun x73 =>
      Option.bind (i_areLetters p0.Next (IntKind.i64.wrap (2 * x73))) fun x75 =>
      Option.bind (bif x75 then
      Option.bind (i_signalsOf p0) fun x80 =>
      Option.bind (i_areLetters p0.Outs (IntKind.i64.wrap (2 * x80))) fun x82 =>
      some x82
      else
      some false) fun p83 =>
      some (p83 : Bool)) q2

/- loop.example/g00869/impl.inputsOf -/

def i_inputsOf (p0 : Sig) : Option (Int) :=
  Option.bind (nn p0.In) fun _z5 =>
  some ((IntKind.i64.wrap (1 * 2 ^ (min (Int.toNat p0.In) (IntKind.bits IntKind.i64)))) : Int)

/- loop.example/g00869/impl.stepOf$1 -/

def i_stepOf_1 (p0 : Int) (c0 : (List Int)) : Option (Int) :=
  Option.bind (idx c0 (IntKind.i64.wrap (Int.tdiv p0 2))) fun x7 =>
  some ((IntKind.i64.wrap (BitVec.toNat (BitVec.ofInt (IntKind.bits IntKind.i64) x7 ^^^ BitVec.ofInt (IntKind.bits IntKind.i64) (IntKind.i64.wrap (BitVec.toNat (BitVec.ofInt (IntKind.bits IntKind.i64) p0 &&& BitVec.ofInt (IntKind.bits IntKind.i64) 1)))))) : Int)

/- loop.example/g00869/impl.stepOf -/
def i_stepOf_b0 (p2 : Int) (v25 : Int) (s1 : (List Int)) : Option ((Int × Int) ⊕ (((List Int)) ⊕ ((List Int)))) :=
  Option.bind (nn v25) fun _z31 =>
  Option.bind (appS 8 s1 ([(IntKind.i64.wrap (BitVec.toNat (BitVec.ofInt (IntKind.bits IntKind.i64) (Int.fdiv p2 (2 ^ (min (Int.toNat v25) (IntKind.bits IntKind.i64)))) &&& BitVec.ofInt (IntKind.bits IntKind.i64) 1)))] : List Int)) fun x34 =>
  some (.inr (.inr (x34 : (List Int))))
def i_stepOf_b2 (p1 : Int) (v38 : Int) (s4 : (List Int)) : Option ((Int × Int) ⊕ (((List Int)) ⊕ ((List Int)))) :=
  Option.bind (nn v38) fun _z44 =>
  Option.bind (appS 8 s4 ([(IntKind.i64.wrap (BitVec.toNat (BitVec.ofInt (IntKind.bits IntKind.i64) (Int.fdiv p1 (2 ^ (min (Int.toNat v38) (IntKind.bits IntKind.i64)))) &&& BitVec.ofInt (IntKind.bits IntKind.i64) 1)))] : List Int)) fun x47 =>
  some (.inr (.inr (x47 : (List Int))))
def i_stepOf_b4 (p0 : Circuit) (v53 : Int) (s7 : (List Int)) : Option ((Int × Int) ⊕ (((List Int)) ⊕ ((List Int)))) :=
  Option.bind (idx p0.Gates v53) fun x55 =>
  Option.bind (i_stepOf_1 x55.A s7) fun x61 =>
  Option.bind (i_stepOf_1 x55.B s7) fun x65 =>
  Option.bind (appS 8 s7 ([(IntKind.i64.wrap (BitVec.toNat (BitVec.ofInt (IntKind.bits IntKind.i64) x61 &&& BitVec.ofInt (IntKind.bits IntKind.i64) x65)))] : List Int)) fun x68 =>
  some (.inr (.inr (x68 : (List Int))))
def i_stepOf_b6 (p0 : Circuit) (s9 : (List Int)) (v73 : Int) (s10 : Int) : Option ((Int × Int) ⊕ ((Int) ⊕ (Int))) :=
  Option.bind (idx p0.Next v73) fun x76 =>
  Option.bind (i_stepOf_1 x76 s9) fun x81 =>
  Option.bind (nn v73) fun _z83 =>
  some (.inr (.inr ((IntKind.i64.wrap (BitVec.toNat (BitVec.ofInt (IntKind.bits IntKind.i64) s10 ||| BitVec.ofInt (IntKind.bits IntKind.i64) (IntKind.i64.wrap (x81 * 2 ^ (min (Int.toNat v73) (IntKind.bits IntKind.i64))))))) : Int)))
def i_stepOf_b8 (p0 : Circuit) (s9 : (List Int)) (v89 : Int) (s13 : Int) : Option ((Int × Int) ⊕ ((Int) ⊕ (Int))) :=
  Option.bind (idx p0.Outs v89) fun x92 =>
  Option.bind (i_stepOf_1 x92 s9) fun x97 =>
  Option.bind (nn v89) fun _z99 =>
  some (.inr (.inr ((IntKind.i64.wrap (BitVec.toNat (BitVec.ofInt (IntKind.bits IntKind.i64) s13 ||| BitVec.ofInt (IntKind.bits IntKind.i64) (IntKind.i64.wrap (x97 * 2 ^ (min (Int.toNat v89) (IntKind.bits IntKind.i64))))))) : Int)))
def i_stepOf (p0 : Circuit) (p1 : Int) (p2 : Int) : Option (Int × Int) :=
  Option.bind (i_signalsOf p0) fun x21 =>
  Option.bind (mkC 8 1 x21 (0 : Int)) fun x22 =>
  Option.bind (rng p0.Inputs) fun _ =>
  Option.bind (cntM (i_stepOf_b0 p2) (Int.toNat (p0.Inputs - 0)) 0 (x22 : (List Int))) fun q2 =>
  aft (fun r => some r) (fun s3 =>
    Option.bind (rng p0.Latches) fun _ =>
    Option.bind (cntM (i_stepOf_b2 p1) (Int.toNat (p0.Latches - 0)) 0 (s3 : (List Int))) fun q5 =>
    aft (fun r => some r) (fun s6 =>
      Option.bind (cntM (i_stepOf_b4 p0) p0.Gates.length 0 (s6 : (List Int))) fun q8 =>
      aft (fun r => some r) (fun s9 =>
        Option.bind (cntM (i_stepOf_b6 p0 s9) p0.Next.length 0 (0 : Int)) fun q11 =>
        aft (fun r => some r) (fun s12 =>
          Option.bind (cntM (i_stepOf_b8 p0 s9) p0.Outs.length 0 (0 : Int)) fun q14 =>
          aft (fun r => some r) (fun s15 =>
            some ((s12 : Int), (s15 : Int))) q14) q11) q8) q5) q2

/- slices.Index[[]int64,int64] -/
def slices_Index_I_int64_b0 (p0 : (List Int)) (p1 : Int) (v8 : Int) (s1 : Unit) : Option (Int ⊕ ((Unit) ⊕ (Unit))) :=
  Option.bind (idx p0 v8) fun x14 =>
  bif (p1 == x14) then
    some (.inl (v8 : Int))
  else
    some (.inr (.inr ()))
def slices_Index_I_int64 (p0 : (List Int)) (p1 : Int) : Option (Int) :=
  Option.bind (cntM (slices_Index_I_int64_b0 p0 p1) p0.length 0 ()) fun q2 =>
  aft (fun r => some r) (fun s3 =>
    some ((-1) : Int)) q2

/- loop.example/g00869/impl.CircuitMachine -/
def i_CircuitMachine_b2 (p1 : Circuit) (s1 : (List Int) × Int × (List (List Int)) × (List (List Int))) (v51 : Int) (s4 : (List Int) × (List Int) × (List Int)) : Option ((Machine × Bool) ⊕ (((List Int) × (List Int) × (List Int)) ⊕ ((List Int) × (List Int) × (List Int)))) :=
  Option.bind (idx s4.1 s1.2.1) fun x58 =>
  Option.bind (i_stepOf p1 x58 v51) fun x61 =>
  Option.bind (slices_Index_I_int64 s4.1 x61.1) fun x66 =>
  Option.bind (bif decide (x66 < 0) then
    Option.bind (appS 8 s4.1 ([x61.1] : List Int)) fun x74 =>
    some ((x74 : (List Int)), ((s4.1.length : Int) : Int))
  else
    some ((s4.1 : (List Int)), (x66 : Int))) fun q7 =>
  Option.bind (appS 8 s4.2.1 ([q7.2] : List Int)) fun x78 =>
  Option.bind (appS 8 s4.2.2 ([x61.2] : List Int)) fun x82 =>
  some (.inr (.inr ((q7.1 : (List Int)), (x78 : (List Int)), (x82 : (List Int)))))
def i_CircuitMachine_b0 (p0 : Sig) (p1 : Circuit) (s1 : (List Int) × Int × (List (List Int)) × (List (List Int))) : Option ((Machine × Bool) ⊕ (((List Int) × Int × (List (List Int)) × (List (List Int))) ⊕ ((List Int) × Int × (List (List Int)) × (List (List Int))))) :=
  bif decide (s1.2.1 < (s1.1.length : Int)) then
    Option.bind (i_inputsOf p0) fun x50 =>
    Option.bind (rng x50) fun _ =>
    Option.bind (cntM (i_CircuitMachine_b2 p1 s1) (Int.toNat (x50 - 0)) 0 ((s1.1 : (List Int)), (([] : List Int) : (List Int)), (([] : List Int) : (List Int)))) fun q5 =>
    aft (fun r => some (.inl r)) (fun s6 =>
      Option.bind (appS 24 s1.2.2.1 ([s6.2.1] : List (List Int))) fun x88 =>
      Option.bind (appS 24 s1.2.2.2 ([s6.2.2] : List (List Int))) fun x93 =>
      some (.inr (.inr ((s6.1 : (List Int)), ((IntKind.i64.wrap (s1.2.1 + 1)) : Int), (x88 : (List (List Int))), (x93 : (List (List Int))))))) q5
  else
    some (.inr (.inl ((s1.1 : (List Int)), (s1.2.1 : Int), (s1.2.2.1 : (List (List Int))), (s1.2.2.2 : (List (List Int))))))
def i_CircuitMachine (p0 : Sig) (p1 : Circuit) : Option (Machine × Bool) :=
  Option.bind (i_isSig p0) fun x16 =>
  Option.bind (bif (!x16) then
  some true
  else
  Option.bind (i_isCircuit p1) fun x20 =>
  some (!x20)) fun p22 =>
  Option.bind (bif p22 then
  some true
  else
  some (p1.Inputs != p0.In)) fun p29 =>
  Option.bind (bif p29 then
  some true
  else
  some ((p1.Outs.length : Int) != p0.Out)) fun p37 =>
  bif p37 then
    some (((⟨([] : List (List Int)), ([] : List (List Int))⟩ : Machine) : Machine), (false : Bool))
  else
    Option.bind (whileM (i_CircuitMachine_b0 p0 p1) (2 ^ 64) ((([0] : List Int) : (List Int)), (0 : Int), (([] : List (List Int)) : (List (List Int))), (([] : List (List Int)) : (List (List Int))))) fun q2 =>
    aft (fun r => some r) (fun s3 =>
      bif decide (48 < (s3.1.length : Int)) then
        some (((⟨([] : List (List Int)), ([] : List (List Int))⟩ : Machine) : Machine), (false : Bool))
      else
        some (((⟨s3.2.2.1, s3.2.2.2⟩ : Machine) : Machine), (true : Bool))) q2

/- loop.example/g00869/laws.eqInt64S -/
def l_eqInt64S_b0 (p0 : (List Int)) (p1 : (List Int)) (v5 : Int) (s1 : Unit) : Option (Bool ⊕ ((Unit) ⊕ (Unit))) :=
  Option.bind (idx p0 v5) fun x19 =>
  Option.bind (idx p1 v5) fun x23 =>
  bif (x19 != x23) then
    some (.inl (false : Bool))
  else
    some (.inr (.inr ()))
def l_eqInt64S (p0 : (List Int)) (p1 : (List Int)) : Option (Bool) :=
  bif ((p0.length : Int) != (p1.length : Int)) then
    some (false : Bool)
  else
    Option.bind (cntM (l_eqInt64S_b0 p0 p1) p0.length 0 ()) fun q2 =>
    aft (fun r => some r) (fun s3 =>
      some (true : Bool)) q2

/- loop.example/g00869/laws.eqInt64SS -/
def l_eqInt64SS_b0 (p0 : (List (List Int))) (p1 : (List (List Int))) (v5 : Int) (s1 : Unit) : Option (Bool ⊕ ((Unit) ⊕ (Unit))) :=
  Option.bind (idx p0 v5) fun x19 =>
  Option.bind (idx p1 v5) fun x23 =>
  Option.bind (l_eqInt64S x19 x23) fun x25 =>
  bif (!x25) then
    some (.inl (false : Bool))
  else
    some (.inr (.inr ()))
def l_eqInt64SS (p0 : (List (List Int))) (p1 : (List (List Int))) : Option (Bool) :=
  bif ((p0.length : Int) != (p1.length : Int)) then
    some (false : Bool)
  else
    Option.bind (cntM (l_eqInt64SS_b0 p0 p1) p0.length 0 ()) fun q2 =>
    aft (fun r => some r) (fun s3 =>
      some (true : Bool)) q2

/- loop.example/g00869/laws.eqMachine -/

def l_eqMachine (p0 : Machine) (p1 : Machine) : Option (Bool) :=
  Option.bind (l_eqInt64SS p0.Next p1.Next) fun x9 =>
  bif (!x9) then
    some (false : Bool)
  else
    Option.bind (l_eqInt64SS p0.Out p1.Out) fun x15 =>
    bif (!x15) then
      some (false : Bool)
    else
      some (true : Bool)

/- loop.example/g00869/laws.eqGate -/

def l_eqGate (p0 : Gate) (p1 : Gate) : Option (Bool) :=
  bif (p0.A != p1.A) then
    some (false : Bool)
  else
    bif (p0.B != p1.B) then
      some (false : Bool)
    else
      some (true : Bool)

/- loop.example/g00869/laws.eqGateS -/
def l_eqGateS_b0 (p0 : (List Gate)) (p1 : (List Gate)) (v5 : Int) (s1 : Unit) : Option (Bool ⊕ ((Unit) ⊕ (Unit))) :=
  Option.bind (idx p0 v5) fun x19 =>
  Option.bind (idx p1 v5) fun x23 =>
  Option.bind (l_eqGate x19 x23) fun x25 =>
  bif (!x25) then
    some (.inl (false : Bool))
  else
    some (.inr (.inr ()))
def l_eqGateS (p0 : (List Gate)) (p1 : (List Gate)) : Option (Bool) :=
  bif ((p0.length : Int) != (p1.length : Int)) then
    some (false : Bool)
  else
    Option.bind (cntM (l_eqGateS_b0 p0 p1) p0.length 0 ()) fun q2 =>
    aft (fun r => some r) (fun s3 =>
      some (true : Bool)) q2

/- loop.example/g00869/laws.eqCircuit -/

def l_eqCircuit (p0 : Circuit) (p1 : Circuit) : Option (Bool) :=
  bif (p0.Inputs != p1.Inputs) then
    some (false : Bool)
  else
    bif (p0.Latches != p1.Latches) then
      some (false : Bool)
    else
      Option.bind (l_eqInt64S p0.Next p1.Next) fun x19 =>
      bif (!x19) then
        some (false : Bool)
      else
        Option.bind (l_eqGateS p0.Gates p1.Gates) fun x25 =>
        bif (!x25) then
          some (false : Bool)
        else
          Option.bind (l_eqInt64S p0.Outs p1.Outs) fun x31 =>
          bif (!x31) then
            some (false : Bool)
          else
            some (true : Bool)

/- loop.example/g00869/laws.markInt64S -/
def l_markInt64S_b0  (v5 : Int) (s1 : Int × (List Int)) : Option ((Int × (List Int)) ⊕ ((Int × (List Int)) ⊕ (Int × (List Int)))) :=
  Option.bind (idx s1.2 v5) fun x15 =>
  Option.bind (setI s1.2 v5 s1.1) fun y29 =>
  some (.inr (.inr (((IntKind.i64.wrap (s1.1 + 1)) : Int), (y29 : (List Int)))))
def l_markInt64S (p0 : (List Int)) (p1 : Int) : Option (Int × (List Int)) :=
  Option.bind (cntM l_markInt64S_b0 p0.length 0 ((p1 : Int), (p0 : (List Int)))) fun q2 =>
  aft (fun r => some r) (fun s3 =>
    some ((s3.1 : Int), (s3.2 : (List Int)))) q2

/- loop.example/g00869/laws.markGateS -/
def l_markGateS_b0  (v5 : Int) (s1 : Int × (List Gate)) : Option ((Int × (List Gate)) ⊕ ((Int × (List Gate)) ⊕ (Int × (List Gate)))) :=
  Option.bind (idx s1.2 v5) fun x15 =>
  Option.bind (setI s1.2 v5 ((⟨s1.1, x15.B⟩ : Gate) : Gate)) fun y30 =>
  Option.bind (idx y30 v5) fun x22 =>
  Option.bind (setI y30 v5 ((⟨x22.A, (IntKind.i64.wrap (s1.1 + 1))⟩ : Gate) : Gate)) fun y31 =>
  some (.inr (.inr (((IntKind.i64.wrap ((IntKind.i64.wrap (s1.1 + 1)) + 1)) : Int), (y31 : (List Gate)))))
def l_markGateS (p0 : (List Gate)) (p1 : Int) : Option (Int × (List Gate)) :=
  Option.bind (cntM l_markGateS_b0 p0.length 0 ((p1 : Int), (p0 : (List Gate)))) fun q2 =>
  aft (fun r => some r) (fun s3 =>
    some ((s3.1 : Int), (s3.2 : (List Gate)))) q2

/- loop.example/g00869/laws.markCircuit -/

def l_markCircuit (p0 : Circuit) (p1 : Int) : Option (Int × (List Int) × (List Gate) × (List Int)) :=
  Option.bind (l_markInt64S p0.Next p1) fun x8 =>
  Option.bind (l_markGateS p0.Gates x8.1) fun x12 =>
  Option.bind (l_markInt64S p0.Outs x12.1) fun x16 =>
  some ((x16.1 : Int), (x8.2 : (List Int)), (x12.2 : (List Gate)), (x16.2 : (List Int)))

/- loop.example/g00869/laws.markInt64SS -/
def l_markInt64SS_b0  (v5 : Int) (s1 : Int × (List (List Int))) : Option ((Int × (List (List Int))) ⊕ ((Int × (List (List Int))) ⊕ (Int × (List (List Int))))) :=
  Option.bind (idx s1.2 v5) fun x14 =>
  Option.bind (l_markInt64S x14 s1.1) fun x17 =>
  Option.bind (setI s1.2 v5 x17.2) fun yb32 =>
  some (.inr (.inr ((x17.1 : Int), (yb32 : (List (List Int))))))
def l_markInt64SS (p0 : (List (List Int))) (p1 : Int) : Option (Int × (List (List Int))) :=
  Option.bind (cntM l_markInt64SS_b0 p0.length 0 ((p1 : Int), (p0 : (List (List Int))))) fun q2 =>
  aft (fun r => some r) (fun s3 =>
    some ((s3.1 : Int), (s3.2 : (List (List Int))))) q2

/- loop.example/g00869/laws.markMachine -/

def l_markMachine (p0 : Machine) (p1 : Int) : Option (Int × (List (List Int)) × (List (List Int))) :=
  Option.bind (l_markInt64SS p0.Next p1) fun x8 =>
  Option.bind (l_markInt64SS p0.Out x8.1) fun x12 =>
  some ((x12.1 : Int), (x8.2 : (List (List Int))), (x12.2 : (List (List Int))))

/- loop.example/g00869/laws.heldInt64S -/
def l_heldInt64S_b0 (p0 : (List Int)) (v5 : Int) (s1 : Int) : Option (Int ⊕ ((Int) ⊕ (Int))) :=
  Option.bind (idx p0 v5) fun x14 =>
  bif (x14 != s1) then
    some (.inl ((-1) : Int))
  else
    some (.inr (.inr ((IntKind.i64.wrap (s1 + 1)) : Int)))
def l_heldInt64S (p0 : (List Int)) (p1 : Int) : Option (Int) :=
  Option.bind (cntM (l_heldInt64S_b0 p0) p0.length 0 (p1 : Int)) fun q2 =>
  aft (fun r => some r) (fun s3 =>
    some (s3 : Int)) q2

/- loop.example/g00869/laws.heldInt64SS -/
def l_heldInt64SS_b0 (p0 : (List (List Int))) (v5 : Int) (s1 : Int) : Option (Int ⊕ ((Int) ⊕ (Int))) :=
  Option.bind (idx p0 v5) fun x14 =>
  Option.bind (l_heldInt64S x14 s1) fun x17 =>
  bif decide (x17 < 0) then
    some (.inl ((-1) : Int))
  else
    some (.inr (.inr (x17 : Int)))
def l_heldInt64SS (p0 : (List (List Int))) (p1 : Int) : Option (Int) :=
  Option.bind (cntM (l_heldInt64SS_b0 p0) p0.length 0 (p1 : Int)) fun q2 =>
  aft (fun r => some r) (fun s3 =>
    some (s3 : Int)) q2

/- loop.example/g00869/laws.heldMachine -/

def l_heldMachine (p0 : Machine) (p1 : Int) : Option (Int) :=
  Option.bind (l_heldInt64SS p0.Next p1) fun x8 =>
  bif decide (x8 < 0) then
    some ((-1) : Int)
  else
    Option.bind (l_heldInt64SS p0.Out x8) fun x14 =>
    bif decide (x14 < 0) then
      some ((-1) : Int)
    else
      some (x14 : Int)

/- loop.example/g00869/laws.FnExactCircuitMachine -/

def l_FnExactCircuitMachine (p0 : Sig) (p1 : Circuit) : Option (Bool) :=
  Option.bind (l_szCircuit p1 1048576) fun x18 =>
  bif decide (x18 < 0) then
    some (true : Bool)
  else
    Option.bind (l_toSig p0) fun x23 =>
    Option.bind (l_toCircuit p1) fun x25 =>
    Option.bind (s_CircuitMachine x23 x25) fun x26 =>
    Option.bind (l_toCircuit p1) fun x30 =>
    Option.bind (l_toSig p0) fun x33 =>
    Option.bind (i_CircuitMachine x33 x30) fun x35 =>
    Option.bind (l_eqMachine x35.1 x26.1) fun x40 =>
    Option.bind (bif (!x40) then
    some true
    else
    some (x35.2 != x26.2)) fun p46 =>
    bif p46 then
      some (false : Bool)
    else
      Option.bind (l_toCircuit p1) fun x49 =>
      Option.bind (l_eqCircuit x30 x49) fun x50 =>
      bif (!x50) then
        some (false : Bool)
      else
        Option.bind (l_markCircuit x30 1) fun x54 =>
        Option.bind (bif decide (x54.1 < 0) then
        some true
        else
        Option.bind (l_eqMachine x35.1 x26.1) fun x60 =>
        some (!x60)) fun p62 =>
        Option.bind (bif p62 then
        some true
        else
        some (x35.2 != x26.2)) fun p67 =>
        bif p67 then
          some (false : Bool)
        else
          Option.bind (l_markMachine x35.1 1) fun x70 =>
          Option.bind (l_heldMachine (⟨x70.2.1, x70.2.2⟩ : Machine) 1) fun x73 =>
          bif decide (x73 < 0) then
            some (false : Bool)
          else
            bif (x73 != x70.1) then
              some (false : Bool)
            else
              Option.bind (l_toSig p0) fun x81 =>
              Option.bind (l_toCircuit p1) fun x83 =>
              Option.bind (i_CircuitMachine x81 x83) fun x84 =>
              Option.bind (l_eqMachine x84.1 x26.1) fun x89 =>
              Option.bind (bif (!x89) then
              some true
              else
              some (x84.2 != x26.2)) fun p95 =>
              bif p95 then
                some (false : Bool)
              else
                Option.bind (l_heldMachine (⟨x70.2.1, x70.2.2⟩ : Machine) 1) fun x98 =>
                bif decide (x98 < 0) then
                  some (false : Bool)
                else
                  bif (x98 != x70.1) then
                    some (false : Bool)
                  else
                    some (true : Bool)

/- loop.example/g00869/spec.l23Below -/
def s_l23Below_b0 (p0 : (List Int)) (p1 : Int) (v5 : Int) (s1 : Unit) : Option (Bool ⊕ ((Unit) ⊕ (Unit))) :=
  Option.bind (idx p0 v5) fun x14 =>
  Option.bind (s_l1In x14 0 (IntKind.i64.wrap (p1 - 1))) fun x18 =>
  bif (!x18) then
    some (.inl (false : Bool))
  else
    some (.inr (.inr ()))
def s_l23Below (p0 : (List Int)) (p1 : Int) : Option (Bool) :=
  Option.bind (cntM (s_l23Below_b0 p0 p1) p0.length 0 ()) fun q2 =>
  aft (fun r => some r) (fun s3 =>
    some (true : Bool)) q2

/- loop.example/g00869/spec.l23Power -/
def s_l23Power_b0  (s1 : Int × Int) : Option (Int ⊕ ((Int × Int) ⊕ (Int × Int))) :=
  bif decide (0 < s1.1) then
    some (.inr (.inr (((IntKind.i64.wrap (s1.1 - 1)) : Int), ((IntKind.i64.wrap (s1.2 * 2)) : Int))))
  else
    some (.inr (.inl ((s1.1 : Int), (s1.2 : Int))))
def s_l23Power (p0 : Int) : Option (Int) :=
  Option.bind (whileM s_l23Power_b0 (2 ^ 64) ((p0 : Int), (1 : Int))) fun q2 =>
  aft (fun r => some r) (fun s3 =>
    some (s3.2 : Int)) q2

end Go.Proofs.Ytfmkhnlnomkcfaa
