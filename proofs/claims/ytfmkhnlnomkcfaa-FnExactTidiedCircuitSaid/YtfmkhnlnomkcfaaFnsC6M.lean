/- The functions on data. By program. -/
import Derived.Test.YtfmkhnlnomkcfaaTypes
set_option linter.unusedVariables false
set_option linter.unusedSimpArgs false
namespace Go.Proofs.Ytfmkhnlnomkcfaa
open Go Go.Wk Go.Proofs
set_option maxRecDepth 100000
set_option maxHeartbeats 1000000

/- loop.example/g00869/laws.szInt64S -/

def l_szInt64S (p0 : (List Int)) (p1 : Int) : Option (Int) :=
  bif decide ((IntKind.i64.wrap (p1 - (p0.length : Int))) < 0) then
    some ((-1) : Int)
  else
    some ((IntKind.i64.wrap (p1 - (p0.length : Int))) : Int)

/- loop.example/g00869/laws.szGateS -/

def l_szGateS (p0 : (List Gate)) (p1 : Int) : Option (Int) :=
  bif decide ((IntKind.i64.wrap (p1 - (p0.length : Int))) < 0) then
    some ((-1) : Int)
  else
    some ((IntKind.i64.wrap (p1 - (p0.length : Int))) : Int)

/- loop.example/g00869/laws.szCircuit -/

def l_szCircuit (p0 : Circuit) (p1 : Int) : Option (Int) :=
  Option.bind (l_szInt64S p0.Next p1) fun x8 =>
  bif decide (x8 < 0) then
    some ((-1) : Int)
  else
    Option.bind (l_szGateS p0.Gates x8) fun x14 =>
    bif decide (x14 < 0) then
      some ((-1) : Int)
    else
      Option.bind (l_szInt64S p0.Outs x14) fun x20 =>
      bif decide (x20 < 0) then
        some ((-1) : Int)
      else
        some (x20 : Int)

/- loop.example/g00869/laws.toInt64S -/
def l_toInt64S_b0 (p0 : (List Int)) (v4 : Int) (s1 : (List Int)) : Option ((List Int) ⊕ (((List Int)) ⊕ ((List Int)))) :=
  Option.bind (idx p0 v4) fun x18 =>
  Option.bind (idx s1 v4) fun x20 =>
  Option.bind (setI s1 v4 x18) fun y1 =>
  some (.inr (.inr (y1 : (List Int))))
def l_toInt64S (p0 : (List Int)) : Option ((List Int)) :=
  Option.bind (mkS 8 (p0.length : Int) (0 : Int)) fun x7 =>
  Option.bind (cntM (l_toInt64S_b0 p0) p0.length 0 (x7 : (List Int))) fun q2 =>
  aft (fun r => some r) (fun s3 =>
    some (s3 : (List Int))) q2

/- loop.example/g00869/laws.toGate -/

def l_toGate (p0 : Gate) : Option (Gate) :=
  some ((⟨p0.A, p0.B⟩ : Gate) : Gate)

/- loop.example/g00869/laws.toGateS -/
def l_toGateS_b0 (p0 : (List Gate)) (v4 : Int) (s1 : (List Gate)) : Option ((List Gate) ⊕ (((List Gate)) ⊕ ((List Gate)))) :=
  Option.bind (idx p0 v4) fun x18 =>
  Option.bind (l_toGate x18) fun x20 =>
  Option.bind (idx s1 v4) fun x21 =>
  Option.bind (setI s1 v4 (x20 : Gate)) fun y3 =>
  some (.inr (.inr (y3 : (List Gate))))
def l_toGateS (p0 : (List Gate)) : Option ((List Gate)) :=
  Option.bind (mkS 16 (p0.length : Int) ((⟨0, 0⟩ : Gate) : Gate)) fun x7 =>
  Option.bind (cntM (l_toGateS_b0 p0) p0.length 0 (x7 : (List Gate))) fun q2 =>
  aft (fun r => some r) (fun s3 =>
    some (s3 : (List Gate))) q2

/- loop.example/g00869/laws.toCircuit -/

def l_toCircuit (p0 : Circuit) : Option (Circuit) :=
  Option.bind (l_toInt64S p0.Next) fun x12 =>
  Option.bind (l_toGateS p0.Gates) fun x16 =>
  Option.bind (l_toInt64S p0.Outs) fun x20 =>
  some ((⟨p0.Inputs, p0.Latches, x12, x16, x20⟩ : Circuit) : Circuit)

/- loop.example/g00869/spec.l1In -/

def s_l1In (p0 : Int) (p1 : Int) (p2 : Int) : Option (Bool) :=
  Option.bind (bif decide (p1 ≤ p0) then
  some (decide (p0 ≤ p2))
  else
  some false) fun p14 =>
  some (p14 : Bool)

/- loop.example/g00869/spec.l31Signals -/

def s_l31Signals (p0 : Circuit) : Option (Int) :=
  some ((IntKind.i64.wrap ((IntKind.i64.wrap ((IntKind.i64.wrap (1 + p0.Inputs)) + p0.Latches)) + (p0.Gates.length : Int))) : Int)

/- loop.example/g00869/spec.l31Literals -/
def s_l31Literals_b0 (p0 : (List Int)) (p1 : Int) (v5 : Int) (s1 : Unit) : Option (Bool ⊕ ((Unit) ⊕ (Unit))) :=
  Option.bind (idx p0 v5) fun x14 =>
  Option.bind (s_l1In x14 0 (IntKind.i64.wrap ((IntKind.i64.wrap (2 * p1)) - 1))) fun x19 =>
  bif (!x19) then
    some (.inl (false : Bool))
  else
    some (.inr (.inr ()))
def s_l31Literals (p0 : (List Int)) (p1 : Int) : Option (Bool) :=
  Option.bind (cntM (s_l31Literals_b0 p0 p1) p0.length 0 ()) fun q2 =>
  aft (fun r => some r) (fun s3 =>
    some (true : Bool)) q2

/- loop.example/g00869/spec.CircuitOk -/
def s_CircuitOk_b0 (p0 : Circuit) (v3 : Int) (s1 : Unit) : Option (Bool ⊕ ((Unit) ⊕ (Unit))) :=
  Option.bind (idx p0.Gates v3) fun x55 =>
  Option.bind (s_l1In x55.A 0 (IntKind.i64.wrap ((IntKind.i64.wrap (2 * (IntKind.i64.wrap ((IntKind.i64.wrap ((IntKind.i64.wrap (1 + p0.Inputs)) + p0.Latches)) + v3)))) - 1))) fun x59 =>
  Option.bind (bif (!x59) then
  some true
  else
  Option.bind (idx p0.Gates v3) fun x65 =>
  Option.bind (s_l1In x65.B 0 (IntKind.i64.wrap ((IntKind.i64.wrap (2 * (IntKind.i64.wrap ((IntKind.i64.wrap ((IntKind.i64.wrap (1 + p0.Inputs)) + p0.Latches)) + v3)))) - 1))) fun x69 =>
  some (!x69)) fun p71 =>
  bif p71 then
    some (.inl (false : Bool))
  else
    some (.inr (.inr ()))
def s_CircuitOk (p0 : Circuit) : Option (Bool) :=
  Option.bind (s_l1In p0.Inputs 0 4) fun x7 =>
  Option.bind (bif (!x7) then
  some true
  else
  Option.bind (s_l1In p0.Latches 0 6) fun x12 =>
  some (!x12)) fun p14 =>
  Option.bind (bif p14 then
  some true
  else
  some (decide (8000 < (p0.Gates.length : Int)))) fun p20 =>
  Option.bind (bif p20 then
  some true
  else
  some (decide (4 < (p0.Outs.length : Int)))) fun p26 =>
  Option.bind (bif p26 then
  some true
  else
  some ((p0.Next.length : Int) != p0.Latches)) fun p34 =>
  bif p34 then
    some (false : Bool)
  else
    Option.bind (cntM (s_CircuitOk_b0 p0) p0.Gates.length 0 ()) fun q2 =>
    aft (fun r => some r) (fun s3 =>
      Option.bind (s_l31Signals p0) fun x75 =>
      Option.bind (s_l31Literals p0.Next x75) fun x76 =>
      Option.bind (bif x76 then
      Option.bind (s_l31Signals p0) fun x81 =>
      Option.bind (s_l31Literals p0.Outs x81) fun x82 =>
      some x82
      else
      some false) fun p83 =>
      some (p83 : Bool)) q2

/- loop.example/g00869/spec.l31Turn -/

def s_l31Turn (p0 : Int) : Option (Int) :=
  bif ((Int.tmod p0 2) == 1) then
    some ((IntKind.i64.wrap (p0 - 1)) : Int)
  else
    some ((IntKind.i64.wrap (p0 + 1)) : Int)

/- loop.example/g00869/spec.l31Became -/

def s_l31Became (p0 : (List Int)) (p1 : Int) : Option (Int) :=
  bif ((Int.tmod p1 2) == 1) then
    Option.bind (idx p0 (IntKind.i64.wrap (Int.tdiv p1 2))) fun x11 =>
    Option.bind (s_l31Turn x11) fun x13 =>
    some (x13 : Int)
  else
    Option.bind (idx p0 (IntKind.i64.wrap (Int.tdiv p1 2))) fun x17 =>
    some (x17 : Int)

/- loop.example/g00869/spec.l1Min -/

def s_l1Min (p0 : Int) (p1 : Int) : Option (Int) :=
  bif decide (p0 < p1) then
    some (p0 : Int)
  else
    some (p1 : Int)

/- loop.example/g00869/spec.l1Max -/

def s_l1Max (p0 : Int) (p1 : Int) : Option (Int) :=
  bif decide (p1 < p0) then
    some (p0 : Int)
  else
    some (p1 : Int)

/- loop.example/g00869/spec.l31Ends -/
def s_l31Ends_b0 (p0 : Circuit) (p2 : (List Int)) (v7 : Int) (s1 : (List Int)) : Option (Circuit ⊕ (((List Int)) ⊕ ((List Int)))) :=
  Option.bind (idx p0.Next v7) fun x22 =>
  Option.bind (s_l31Became p2 x22) fun x24 =>
  Option.bind (appS 8 s1 ([x24] : List Int)) fun x26 =>
  some (.inr (.inr (x26 : (List Int))))
def s_l31Ends_b2 (p0 : Circuit) (p2 : (List Int)) (v8 : Int) (s4 : (List Int)) : Option (Circuit ⊕ (((List Int)) ⊕ ((List Int)))) :=
  Option.bind (idx p0.Outs v8) fun x41 =>
  Option.bind (s_l31Became p2 x41) fun x43 =>
  Option.bind (appS 8 s4 ([x43] : List Int)) fun x45 =>
  some (.inr (.inr (x45 : (List Int))))
def s_l31Ends (p0 : Circuit) (p1 : Circuit) (p2 : (List Int)) : Option (Circuit) :=
  Option.bind (cntM (s_l31Ends_b0 p0 p2) p0.Next.length 0 (p1.Next : (List Int))) fun q2 =>
  aft (fun r => some r) (fun s3 =>
    Option.bind (cntM (s_l31Ends_b2 p0 p2) p0.Outs.length 0 (p1.Outs : (List Int))) fun q5 =>
    aft (fun r => some r) (fun s6 =>
      some ((⟨p1.Inputs, p1.Latches, s3, p1.Gates, s6⟩ : Circuit) : Circuit)) q5) q2

/- loop.example/g00869/spec.l31Join -/
def s_l31Join_b1 (p0 : Circuit) (x41 : Int) (x44 : Int) (v9 : Int) (s1 : Unit) : Option ((Circuit × Int) ⊕ ((Unit) ⊕ (Unit))) :=
  Option.bind (idx p0.Gates v9) fun x56 =>
  Option.bind (bif ((x56.A == x41) && (x56.B == x44)) then
  some true
  else
  Option.bind (idx p0.Gates v9) fun x64 =>
  Option.bind (bif (x64.A == x44) then
  Option.bind (idx p0.Gates v9) fun x74 =>
  some (x74.B == x41)
  else
  some false) fun p80 =>
  some p80) fun p81 =>
  bif p81 then
    some (.inl ((p0 : Circuit), ((IntKind.i64.wrap (2 * (IntKind.i64.wrap ((IntKind.i64.wrap ((IntKind.i64.wrap (1 + p0.Inputs)) + p0.Latches)) + v9)))) : Int)))
  else
    some (.inr (.inr ()))
def s_l31Join (p0 : Circuit) (p1 : Int) (p2 : Int) : Option (Circuit × Int) :=
  Option.bind (bif (p1 == 0) then
  some true
  else
  some (p2 == 0)) fun p16 =>
  Option.bind (bif p16 then
  some true
  else
  Option.bind (s_l31Turn p2) fun x20 =>
  some (p1 == x20)) fun p22 =>
  bif p22 then
    some ((p0 : Circuit), (0 : Int))
  else
    bif (p1 == 1) then
      some ((p0 : Circuit), (p2 : Int))
    else
      Option.bind (bif (p2 == 1) then
      some true
      else
      some (p1 == p2)) fun p36 =>
      bif p36 then
        some ((p0 : Circuit), (p1 : Int))
      else
        Option.bind (s_l1Min p1 p2) fun x41 =>
        Option.bind (s_l1Max p1 p2) fun x44 =>
        Option.bind (cntM (s_l31Join_b1 p0 x41 x44) p0.Gates.length 0 ()) fun q2 =>
        aft (fun r => some r) (fun s3 =>
          bif decide (8000 ≤ (p0.Gates.length : Int)) then
            some (((⟨0, 0, ([] : List Int), ([] : List Gate), ([] : List Int)⟩ : Circuit) : Circuit), ((-1) : Int))
          else
            Option.bind (appS 16 p0.Gates ([(⟨x41, x44⟩ : Gate)] : List Gate)) fun x101 =>
            Option.bind (s_l31Signals (⟨p0.Inputs, p0.Latches, p0.Next, x101, p0.Outs⟩ : Circuit)) fun x105 =>
            some (((⟨p0.Inputs, p0.Latches, p0.Next, x101, p0.Outs⟩ : Circuit) : Circuit), ((IntKind.i64.wrap (2 * (IntKind.i64.wrap (x105 - 1)))) : Int))) q2

/- loop.example/g00869/spec.l31Needed -/
def s_l31Needed_b0 (p0 : Circuit) (v4 : Int) (s1 : (List Bool)) : Option ((List Bool) ⊕ (((List Bool)) ⊕ ((List Bool)))) :=
  Option.bind (idx p0.Next v4) fun x22 =>
  Option.bind (idx s1 (IntKind.i64.wrap (Int.tdiv x22 2))) fun x25 =>
  Option.bind (setI s1 (IntKind.i64.wrap (Int.tdiv x22 2)) true) fun y11 =>
  some (.inr (.inr (y11 : (List Bool))))
def s_l31Needed_b2 (p0 : Circuit) (v5 : Int) (s4 : (List Bool)) : Option ((List Bool) ⊕ (((List Bool)) ⊕ ((List Bool)))) :=
  Option.bind (idx p0.Outs v5) fun x37 =>
  Option.bind (idx s4 (IntKind.i64.wrap (Int.tdiv x37 2))) fun x40 =>
  Option.bind (setI s4 (IntKind.i64.wrap (Int.tdiv x37 2)) true) fun y12 =>
  some (.inr (.inr (y12 : (List Bool))))
def s_l31Needed_b4 (p0 : Circuit) (s7 : Int × (List Bool)) : Option ((List Bool) ⊕ ((Int × (List Bool)) ⊕ (Int × (List Bool)))) :=
  bif decide (0 ≤ s7.1) then
    Option.bind (idx s7.2 (IntKind.i64.wrap ((IntKind.i64.wrap ((IntKind.i64.wrap (1 + p0.Inputs)) + p0.Latches)) + s7.1))) fun x59 =>
    Option.bind (bif x59 then
      Option.bind (idx p0.Gates s7.1) fun x65 =>
      Option.bind (idx s7.2 (IntKind.i64.wrap (Int.tdiv x65.A 2))) fun x69 =>
      Option.bind (setI s7.2 (IntKind.i64.wrap (Int.tdiv x65.A 2)) true) fun y13 =>
      Option.bind (idx p0.Gates s7.1) fun x74 =>
      Option.bind (idx y13 (IntKind.i64.wrap (Int.tdiv x74.B 2))) fun x78 =>
      Option.bind (setI y13 (IntKind.i64.wrap (Int.tdiv x74.B 2)) true) fun y14 =>
      some (y14 : (List Bool))
    else
      some (s7.2 : (List Bool))) fun q10 =>
    some (.inr (.inr (((IntKind.i64.wrap (s7.1 - 1)) : Int), (q10 : (List Bool)))))
  else
    some (.inr (.inl ((s7.1 : Int), (s7.2 : (List Bool)))))
def s_l31Needed (p0 : Circuit) : Option ((List Bool)) :=
  Option.bind (s_l31Signals p0) fun x9 =>
  Option.bind (mkS 1 x9 (false : Bool)) fun x10 =>
  Option.bind (cntM (s_l31Needed_b0 p0) p0.Next.length 0 (x10 : (List Bool))) fun q2 =>
  aft (fun r => some r) (fun s3 =>
    Option.bind (cntM (s_l31Needed_b2 p0) p0.Outs.length 0 (s3 : (List Bool))) fun q5 =>
    aft (fun r => some r) (fun s6 =>
      Option.bind (whileM (s_l31Needed_b4 p0) (2 ^ 64) (((IntKind.i64.wrap ((p0.Gates.length : Int) - 1)) : Int), (s6 : (List Bool)))) fun q8 =>
      aft (fun r => some r) (fun s9 =>
        some (s9.2 : (List Bool))) q8) q5) q2

/- loop.example/g00869/spec.TidiedCircuit -/
def s_TidiedCircuit_b0 (p0 : Circuit) (s1 : (List Int) × Int) : Option (Circuit ⊕ (((List Int) × Int) ⊕ ((List Int) × Int))) :=
  bif decide (s1.2 ≤ (IntKind.i64.wrap (p0.Inputs + p0.Latches))) then
    Option.bind (appS 8 s1.1 ([(IntKind.i64.wrap (2 * s1.2))] : List Int)) fun x38 =>
    some (.inr (.inr ((x38 : (List Int)), ((IntKind.i64.wrap (s1.2 + 1)) : Int))))
  else
    some (.inr (.inl ((s1.1 : (List Int)), (s1.2 : Int))))
def s_TidiedCircuit_b2 (p0 : Circuit) (v7 : Int) (s4 : (List Int) × Int × Int × (List Int) × (List Gate) × (List Int)) : Option (Circuit ⊕ (((List Int) × Int × Int × (List Int) × (List Gate) × (List Int)) ⊕ ((List Int) × Int × Int × (List Int) × (List Gate) × (List Int)))) :=
  Option.bind (idx p0.Gates v7) fun x53 =>
  Option.bind (idx p0.Gates v7) fun x61 =>
  Option.bind (s_l31Became s4.1 x53.A) fun x56 =>
  Option.bind (s_l31Became s4.1 x61.B) fun x64 =>
  Option.bind (s_l31Join (⟨s4.2.1, s4.2.2.1, s4.2.2.2.1, s4.2.2.2.2.1, s4.2.2.2.2.2⟩ : Circuit) x56 x64) fun x65 =>
  Option.bind (appS 8 s4.1 ([x65.2] : List Int)) fun x72 =>
  some (.inr (.inr ((x72 : (List Int)), (x65.1.Inputs : Int), (x65.1.Latches : Int), (x65.1.Next : (List Int)), (x65.1.Gates : (List Gate)), (x65.1.Outs : (List Int)))))
def s_TidiedCircuit_b4 (p0 : Circuit) (x76 : Circuit) (x78 : (List Bool)) (s7 : (List Int) × Int × (List Gate)) : Option (Circuit ⊕ (((List Int) × Int × (List Gate)) ⊕ ((List Int) × Int × (List Gate)))) :=
  Option.bind (s_l31Signals x76) fun x83 =>
  bif decide (s7.2.1 < x83) then
    bif decide ((IntKind.i64.wrap ((IntKind.i64.wrap ((IntKind.i64.wrap (s7.2.1 - 1)) - p0.Inputs)) - p0.Latches)) < 0) then
      Option.bind (appS 8 s7.1 ([(IntKind.i64.wrap (2 * s7.2.1))] : List Int)) fun x101 =>
      some (.inr (.inr ((x101 : (List Int)), ((IntKind.i64.wrap (s7.2.1 + 1)) : Int), (s7.2.2 : (List Gate)))))
    else
      Option.bind (s_l31Signals (⟨p0.Inputs, p0.Latches, ([] : List Int), s7.2.2, ([] : List Int)⟩ : Circuit)) fun x104 =>
      Option.bind (appS 8 s7.1 ([(IntKind.i64.wrap (2 * x104))] : List Int)) fun x107 =>
      Option.bind (idx x78 s7.2.1) fun x110 =>
      Option.bind (bif x110 then
        Option.bind (idx x76.Gates (IntKind.i64.wrap ((IntKind.i64.wrap ((IntKind.i64.wrap (s7.2.1 - 1)) - p0.Inputs)) - p0.Latches))) fun x118 =>
        Option.bind (idx x76.Gates (IntKind.i64.wrap ((IntKind.i64.wrap ((IntKind.i64.wrap (s7.2.1 - 1)) - p0.Inputs)) - p0.Latches))) fun x126 =>
        Option.bind (s_l31Became x107 x118.A) fun x121 =>
        Option.bind (s_l31Became x107 x126.B) fun x129 =>
        Option.bind (appS 16 s7.2.2 ([(⟨x121, x129⟩ : Gate)] : List Gate)) fun x132 =>
        some (x132 : (List Gate))
      else
        some (s7.2.2 : (List Gate))) fun q10 =>
      some (.inr (.inr ((x107 : (List Int)), ((IntKind.i64.wrap (s7.2.1 + 1)) : Int), (q10 : (List Gate)))))
  else
    some (.inr (.inl ((s7.1 : (List Int)), (s7.2.1 : Int), (s7.2.2 : (List Gate)))))
def s_TidiedCircuit (p0 : Circuit) : Option (Circuit) :=
  Option.bind (s_CircuitOk p0) fun x16 =>
  bif (!x16) then
    some ((⟨0, 0, ([] : List Int), ([] : List Gate), ([] : List Int)⟩ : Circuit) : Circuit)
  else
    Option.bind (whileM (s_TidiedCircuit_b0 p0) (2 ^ 64) ((([] : List Int) : (List Int)), (0 : Int))) fun q2 =>
    aft (fun r => some r) (fun s3 =>
      Option.bind (cntM (s_TidiedCircuit_b2 p0) p0.Gates.length 0 ((s3.1 : (List Int)), (p0.Inputs : Int), (p0.Latches : Int), (([] : List Int) : (List Int)), (([] : List Gate) : (List Gate)), (([] : List Int) : (List Int)))) fun q5 =>
      aft (fun r => some r) (fun s6 =>
        Option.bind (s_l31Ends p0 (⟨s6.2.1, s6.2.2.1, s6.2.2.2.1, s6.2.2.2.2.1, s6.2.2.2.2.2⟩ : Circuit) s6.1) fun x76 =>
        Option.bind (s_l31Needed x76) fun x78 =>
        Option.bind (whileM (s_TidiedCircuit_b4 p0 x76 x78) (2 ^ 64) ((([] : List Int) : (List Int)), (0 : Int), (([] : List Gate) : (List Gate)))) fun q8 =>
        aft (fun r => some r) (fun s9 =>
          Option.bind (s_l31Ends x76 (⟨p0.Inputs, p0.Latches, ([] : List Int), s9.2.2, ([] : List Int)⟩ : Circuit) s9.1) fun x137 =>
          some (x137 : Circuit)) q8) q5) q2

/- loop.example/g00869/impl.areLetters$1 -/

def i_areLetters_1 (p0 : Int) (c0 : Int) : Option (Bool) :=
  Option.bind (bif decide (p0 < 0) then
  some true
  else
  some (decide (c0 ≤ p0))) fun p10 =>
  some (p10 : Bool)

/- slices.IndexFunc[[]int64,int64] -/
def slices_IndexFunc_I_int64__i_areLetters_1_b0 (p0 : (List Int)) (c1_0 : Int) (v8 : Int) (s1 : Unit) : Option (Int ⊕ ((Unit) ⊕ (Unit))) :=
  Option.bind (idx p0 v8) fun x14 =>
  Option.bind (i_areLetters_1 x14 c1_0) fun x16 =>
  bif x16 then
    some (.inl (v8 : Int))
  else
    some (.inr (.inr ()))
def slices_IndexFunc_I_int64__i_areLetters_1 (p0 : (List Int)) (c1_0 : Int) : Option (Int) :=
  Option.bind (cntM (slices_IndexFunc_I_int64__i_areLetters_1_b0 p0 c1_0) p0.length 0 ()) fun q2 =>
  aft (fun r => some r) (fun s3 =>
    some ((-1) : Int)) q2

/- slices.ContainsFunc[[]int64,int64] -/

def slices_ContainsFunc_I_int64__i_areLetters_1 (p0 : (List Int)) (c1_0 : Int) : Option (Bool) :=
  Option.bind (slices_IndexFunc_I_int64__i_areLetters_1 p0 c1_0) fun x7 =>
  some (decide (0 ≤ x7) : Bool)

/- loop.example/g00869/impl.areLetters -/

def i_areLetters (p0 : (List Int)) (p1 : Int) : Option (Bool) :=
  Option.bind (slices_ContainsFunc_I_int64__i_areLetters_1 p0 p1) fun x7 =>
  some ((!x7) : Bool)

/- loop.example/g00869/impl.signalsOf -/

def i_signalsOf (p0 : Circuit) : Option (Int) :=
  some ((IntKind.i64.wrap ((IntKind.i64.wrap ((IntKind.i64.wrap (1 + p0.Inputs)) + p0.Latches)) + (p0.Gates.length : Int))) : Int)

/- loop.example/g00869/impl.isCircuit -/
def i_isCircuit_b0 (p0 : Circuit) (v53 : Int) (s1 : Unit) : Option (Bool ⊕ ((Unit) ⊕ (Unit))) :=
  Option.bind (idx p0.Gates v53) fun x56 =>
  Option.bind (i_areLetters ([x56.A, x56.B] : List Int) (IntKind.i64.wrap (2 * (IntKind.i64.wrap ((IntKind.i64.wrap ((IntKind.i64.wrap (1 + p0.Inputs)) + p0.Latches)) + v53))))) fun x67 =>
  bif (!x67) then
    some (.inl (false : Bool))
  else
    some (.inr (.inr ()))
def i_isCircuit (p0 : Circuit) : Option (Bool) :=
  Option.bind (bif decide (p0.Inputs < 0) then
  some true
  else
  some (decide (4 < p0.Inputs))) fun p13 =>
  Option.bind (bif p13 then
  some true
  else
  some (decide (p0.Latches < 0))) fun p18 =>
  Option.bind (bif p18 then
  some true
  else
  some (decide (6 < p0.Latches))) fun p23 =>
  Option.bind (bif p23 then
  some true
  else
  some ((p0.Next.length : Int) != p0.Latches)) fun p31 =>
  Option.bind (bif p31 then
  some true
  else
  some (decide (8000 < (p0.Gates.length : Int)))) fun p37 =>
  Option.bind (bif p37 then
  some true
  else
  some (decide (4 < (p0.Outs.length : Int)))) fun p43 =>
  bif p43 then
    some (false : Bool)
  else
    Option.bind (cntM (i_isCircuit_b0 p0) p0.Gates.length 0 ()) fun q2 =>
    aft (fun r => some r) (fun s3 =>
      Option.bind (i_signalsOf p0) fun x73 =>
      Option.bind (i_areLetters p0.Next (IntKind.i64.wrap (2 * x73))) fun x75 =>
      Option.bind (bif x75 then
      Option.bind (i_signalsOf p0) fun x80 =>
      Option.bind (i_areLetters p0.Outs (IntKind.i64.wrap (2 * x80))) fun x82 =>
      some x82
      else
      some false) fun p83 =>
      some (p83 : Bool)) q2

/- (*loop.example/g00869/impl.builder).learn -/

def i_builder_learn (p0 : builder) (p1 : Gate) (p2 : Int) : Option ((List (Gate × Int))) :=
  Option.bind (mget kwGate p0.known ((⟨(if p1.B < p1.A then p1.B else p1.A), (if p1.A < p1.B then p1.B else p1.A)⟩ : Gate) : Gate) (0 : Int)) fun x25 =>
  Option.bind (bif (!x25.2) then
    Option.bind (mset kwGate p0.known ((⟨(if p1.B < p1.A then p1.B else p1.A), (if p1.A < p1.B then p1.B else p1.A)⟩ : Gate) : Gate) p2) fun y23 =>
    some (y23 : (List (Gate × Int)))
  else
    some (p0.known : (List (Gate × Int)))) fun q1 =>
  some (q1 : (List (Gate × Int)))

/- loop.example/g00869/impl.newBuilder -/
def i_newBuilder_b0 (p0 : Circuit) (x10 : (List Int)) (x15 : (List Gate)) (x20 : (List Int)) (v35 : Int) (s1 : (List (Gate × Int))) : Option (builder ⊕ (((List (Gate × Int))) ⊕ ((List (Gate × Int))))) :=
  Option.bind (idx x15 v35) fun x38 =>
  Option.bind (i_builder_learn (⟨(⟨p0.Inputs, p0.Latches, x10, x15, x20⟩ : Circuit), false, s1⟩ : builder) x38 (IntKind.i64.wrap (2 * (IntKind.i64.wrap ((IntKind.i64.wrap ((IntKind.i64.wrap (1 + p0.Inputs)) + p0.Latches)) + v35))))) fun x46 =>
  some (.inr (.inr (x46 : (List (Gate × Int)))))
def i_newBuilder (p0 : Circuit) : Option (builder) :=
  Option.bind (appS 8 ([] : List Int) p0.Next) fun x10 =>
  Option.bind (appS 16 ([] : List Gate) p0.Gates) fun x15 =>
  Option.bind (appS 8 ([] : List Int) p0.Outs) fun x20 =>
  Option.bind (cntM (i_newBuilder_b0 p0 x10 x15 x20) x15.length 0 (([] : List (Gate × Int)) : (List (Gate × Int)))) fun q2 =>
  aft (fun r => some r) (fun s3 =>
    some ((⟨(⟨p0.Inputs, p0.Latches, x10, x15, x20⟩ : Circuit), false, s3⟩ : builder) : builder)) q2

/- loop.example/g00869/impl.tidied$1 -/

def i_tidied_1 (p0 : Int) (c0 : (List Int)) : Option (Int) :=
  Option.bind (idx c0 (IntKind.i64.wrap (Int.tdiv p0 2))) fun x7 =>
  some ((IntKind.i64.wrap (BitVec.toNat (BitVec.ofInt (IntKind.bits IntKind.i64) x7 ^^^ BitVec.ofInt (IntKind.bits IntKind.i64) (IntKind.i64.wrap (BitVec.toNat (BitVec.ofInt (IntKind.bits IntKind.i64) p0 &&& BitVec.ofInt (IntKind.bits IntKind.i64) 1)))))) : Int)

/- (*loop.example/g00869/impl.builder).join -/

def i_builder_join (p0 : builder) (p1 : Int) (p2 : Int) : Option (Int × (List Gate) × Bool × (List (Gate × Int))) :=
  Option.bind (bif (p1 == 0) then
  some true
  else
  some (p2 == 0)) fun p17 =>
  Option.bind (bif p17 then
  some true
  else
  some (p1 == (IntKind.i64.wrap (BitVec.toNat (BitVec.ofInt (IntKind.bits IntKind.i64) p2 ^^^ BitVec.ofInt (IntKind.bits IntKind.i64) 1))))) fun p23 =>
  bif p23 then
    some ((0 : Int), (p0.c.Gates : (List Gate)), (p0.full : Bool), (p0.known : (List (Gate × Int))))
  else
    bif (p1 == 1) then
      some ((p2 : Int), (p0.c.Gates : (List Gate)), (p0.full : Bool), (p0.known : (List (Gate × Int))))
    else
      Option.bind (bif (p2 == 1) then
      some true
      else
      some (p1 == p2)) fun p35 =>
      bif p35 then
        some ((p1 : Int), (p0.c.Gates : (List Gate)), (p0.full : Bool), (p0.known : (List (Gate × Int))))
      else
        Option.bind (mget kwGate p0.known ((⟨(if p2 < p1 then p2 else p1), (if p1 < p2 then p2 else p1)⟩ : Gate) : Gate) (0 : Int)) fun x50 =>
        bif x50.2 then
          some ((x50.1 : Int), (p0.c.Gates : (List Gate)), (p0.full : Bool), (p0.known : (List (Gate × Int))))
        else
          bif decide (8000 ≤ (p0.c.Gates.length : Int)) then
            some ((0 : Int), (p0.c.Gates : (List Gate)), (true : Bool), (p0.known : (List (Gate × Int))))
          else
            Option.bind (i_signalsOf p0.c) fun x69 =>
            Option.bind (appS 16 p0.c.Gates ([(⟨(if p2 < p1 then p2 else p1), (if p1 < p2 then p2 else p1)⟩ : Gate)] : List Gate)) fun x79 =>
            Option.bind (i_builder_learn (⟨(⟨p0.c.Inputs, p0.c.Latches, p0.c.Next, x79, p0.c.Outs⟩ : Circuit), p0.full, p0.known⟩ : builder) (⟨(if p2 < p1 then p2 else p1), (if p1 < p2 then p2 else p1)⟩ : Gate) (IntKind.i64.wrap (2 * x69))) fun x86 =>
            some (((IntKind.i64.wrap (2 * x69)) : Int), (x79 : (List Gate)), (p0.full : Bool), (x86 : (List (Gate × Int))))

/- loop.example/g00869/impl.withoutUnused$1 -/

def i_withoutUnused_1 (p0 : Int) (c0 : (List Int)) : Option (Int) :=
  Option.bind (idx c0 (IntKind.i64.wrap (Int.tdiv p0 2))) fun x7 =>
  some ((IntKind.i64.wrap ((IntKind.i64.wrap (2 * x7)) + (IntKind.i64.wrap (BitVec.toNat (BitVec.ofInt (IntKind.bits IntKind.i64) p0 &&& BitVec.ofInt (IntKind.bits IntKind.i64) 1))))) : Int)

/- loop.example/g00869/impl.withoutUnused -/
def i_withoutUnused_b0  (v26 : Int) (s1 : (List Int)) : Option (Circuit ⊕ (((List Int)) ⊕ ((List Int)))) :=
  Option.bind (idx s1 v26) fun x32 =>
  Option.bind (setI s1 v26 v26) fun y38 =>
  some (.inr (.inr (y38 : (List Int))))
def i_withoutUnused_b2 (p0 : Circuit) (p1 : (List Bool)) (v43 : Int) (s4 : (List Gate) × (List Int)) : Option (Circuit ⊕ (((List Gate) × (List Int)) ⊕ ((List Gate) × (List Int)))) :=
  Option.bind (idx p0.Gates v43) fun x46 =>
  Option.bind (idx p1 (IntKind.i64.wrap ((IntKind.i64.wrap ((IntKind.i64.wrap (1 + p0.Inputs)) + p0.Latches)) + v43))) fun x52 =>
  Option.bind (bif x52 then
    Option.bind (i_signalsOf (⟨p0.Inputs, p0.Latches, ([] : List Int), s4.1, ([] : List Int)⟩ : Circuit)) fun x59 =>
    Option.bind (idx s4.2 (IntKind.i64.wrap ((IntKind.i64.wrap ((IntKind.i64.wrap (1 + p0.Inputs)) + p0.Latches)) + v43))) fun x60 =>
    Option.bind (setI s4.2 (IntKind.i64.wrap ((IntKind.i64.wrap ((IntKind.i64.wrap (1 + p0.Inputs)) + p0.Latches)) + v43)) x59) fun y39 =>
    Option.bind (i_withoutUnused_1 x46.A y39) fun x66 =>
    Option.bind (i_withoutUnused_1 x46.B y39) fun x70 =>
    Option.bind (appS 16 s4.1 ([(⟨x66, x70⟩ : Gate)] : List Gate)) fun x73 =>
    some ((x73 : (List Gate)), (y39 : (List Int)))
  else
    some ((s4.1 : (List Gate)), (s4.2 : (List Int)))) fun q7 =>
  some (.inr (.inr ((q7.1 : (List Gate)), (q7.2 : (List Int)))))
def i_withoutUnused_b4 (p0 : Circuit) (s6 : (List Gate) × (List Int)) (v79 : Int) (s8 : (List Int)) : Option (Circuit ⊕ (((List Int)) ⊕ ((List Int)))) :=
  Option.bind (idx p0.Next v79) fun x81 =>
  Option.bind (i_withoutUnused_1 x81 s6.2) fun x87 =>
  Option.bind (appS 8 s8 ([x87] : List Int)) fun x89 =>
  some (.inr (.inr (x89 : (List Int))))
def i_withoutUnused_b6 (p0 : Circuit) (s6 : (List Gate) × (List Int)) (v95 : Int) (s11 : (List Int)) : Option (Circuit ⊕ (((List Int)) ⊕ ((List Int)))) :=
  Option.bind (idx p0.Outs v95) fun x97 =>
  Option.bind (i_withoutUnused_1 x97 s6.2) fun x103 =>
  Option.bind (appS 8 s11 ([x103] : List Int)) fun x105 =>
  some (.inr (.inr (x105 : (List Int))))
def i_withoutUnused (p0 : Circuit) (p1 : (List Bool)) : Option (Circuit) :=
  Option.bind (i_signalsOf p0) fun x23 =>
  Option.bind (mkS 8 x23 (0 : Int)) fun x24 =>
  Option.bind (rng (IntKind.i64.wrap ((IntKind.i64.wrap (1 + p0.Inputs)) + p0.Latches))) fun _ =>
  Option.bind (cntM i_withoutUnused_b0 (Int.toNat ((IntKind.i64.wrap ((IntKind.i64.wrap (1 + p0.Inputs)) + p0.Latches)) - 0)) 0 (x24 : (List Int))) fun q2 =>
  aft (fun r => some r) (fun s3 =>
    Option.bind (cntM (i_withoutUnused_b2 p0 p1) p0.Gates.length 0 ((([] : List Gate) : (List Gate)), (s3 : (List Int)))) fun q5 =>
    aft (fun r => some r) (fun s6 =>
      Option.bind (cntM (i_withoutUnused_b4 p0 s6) p0.Next.length 0 (([] : List Int) : (List Int))) fun q9 =>
      aft (fun r => some r) (fun s10 =>
        Option.bind (cntM (i_withoutUnused_b6 p0 s6) p0.Outs.length 0 (([] : List Int) : (List Int))) fun q12 =>
        aft (fun r => some r) (fun s13 =>
          some ((⟨p0.Inputs, p0.Latches, s10, s6.1, s13⟩ : Circuit) : Circuit)) q12) q9) q5) q2

/- loop.example/g00869/impl.tidied -/
def i_tidied_b0  (v33 : Int) (s1 : (List Int)) : Option (Circuit ⊕ (((List Int)) ⊕ ((List Int)))) :=
  Option.bind (appS 8 s1 ([(IntKind.i64.wrap (2 * v33))] : List Int)) fun x40 =>
  some (.inr (.inr (x40 : (List Int))))
def i_tidied_b2 (p0 : Circuit) (x24 : builder) (v46 : Int) (s4 : (List Int) × (List Gate) × Bool × (List (Gate × Int))) : Option (Circuit ⊕ (((List Int) × (List Gate) × Bool × (List (Gate × Int))) ⊕ ((List Int) × (List Gate) × Bool × (List (Gate × Int))))) :=
  Option.bind (idx p0.Gates v46) fun x48 =>
  Option.bind (i_tidied_1 x48.A s4.1) fun x55 =>
  Option.bind (i_tidied_1 x48.B s4.1) fun x59 =>
  Option.bind (i_builder_join (⟨(⟨x24.c.Inputs, x24.c.Latches, x24.c.Next, s4.2.1, x24.c.Outs⟩ : Circuit), s4.2.2.1, s4.2.2.2⟩ : builder) x55 x59) fun x60 =>
  Option.bind (appS 8 s4.1 ([x60.1] : List Int)) fun x62 =>
  some (.inr (.inr ((x62 : (List Int)), (x60.2.1 : (List Gate)), (x60.2.2.1 : Bool), (x60.2.2.2 : (List (Gate × Int))))))
def i_tidied_b4 (p0 : Circuit) (s6 : (List Int) × (List Gate) × Bool × (List (Gate × Int))) (v75 : Int) (s7 : (List Int)) : Option (Circuit ⊕ (((List Int)) ⊕ ((List Int)))) :=
  Option.bind (idx p0.Next v75) fun x77 =>
  Option.bind (i_tidied_1 x77 s6.1) fun x83 =>
  Option.bind (appS 8 s7 ([x83] : List Int)) fun x85 =>
  some (.inr (.inr (x85 : (List Int))))
def i_tidied_b6 (p0 : Circuit) (s6 : (List Int) × (List Gate) × Bool × (List (Gate × Int))) (v91 : Int) (s10 : (List Int)) : Option (Circuit ⊕ (((List Int)) ⊕ ((List Int)))) :=
  Option.bind (idx p0.Outs v91) fun x93 =>
  Option.bind (i_tidied_1 x93 s6.1) fun x99 =>
  Option.bind (appS 8 s10 ([x99] : List Int)) fun x101 =>
  some (.inr (.inr (x101 : (List Int))))
def i_tidied_b8 (x113 : (List Int)) (v115 : Int) (s13 : (List Bool)) : Option (Circuit ⊕ (((List Bool)) ⊕ ((List Bool)))) :=
  Option.bind (idx x113 v115) fun x117 =>
  Option.bind (idx s13 (IntKind.i64.wrap (Int.tdiv x117 2))) fun x122 =>
  Option.bind (setI s13 (IntKind.i64.wrap (Int.tdiv x117 2)) true) fun y34 =>
  some (.inr (.inr (y34 : (List Bool))))
def i_tidied_b10 (p0 : Circuit) (s6 : (List Int) × (List Gate) × Bool × (List (Gate × Int))) (s16 : Int × (List Bool)) : Option (Circuit ⊕ ((Int × (List Bool)) ⊕ (Int × (List Bool)))) :=
  bif decide (0 ≤ s16.1) then
    Option.bind (idx s16.2 (IntKind.i64.wrap ((IntKind.i64.wrap ((IntKind.i64.wrap (1 + p0.Inputs)) + p0.Latches)) + s16.1))) fun x136 =>
    Option.bind (bif x136 then
      Option.bind (idx s6.2.1 s16.1) fun x142 =>
      Option.bind (idx s16.2 (IntKind.i64.wrap (Int.tdiv x142.A 2))) fun x146 =>
      Option.bind (setI s16.2 (IntKind.i64.wrap (Int.tdiv x142.A 2)) true) fun y35 =>
      Option.bind (idx s6.2.1 s16.1) fun x151 =>
      Option.bind (idx y35 (IntKind.i64.wrap (Int.tdiv x151.B 2))) fun x155 =>
      Option.bind (setI y35 (IntKind.i64.wrap (Int.tdiv x151.B 2)) true) fun y36 =>
      some (y36 : (List Bool))
    else
      some (s16.2 : (List Bool))) fun q19 =>
    some (.inr (.inr (((IntKind.i64.wrap (s16.1 - 1)) : Int), (q19 : (List Bool)))))
  else
    some (.inr (.inl ((s16.1 : Int), (s16.2 : (List Bool)))))
def i_tidied (p0 : Circuit) : Option (Circuit) :=
  Option.bind (i_newBuilder (⟨p0.Inputs, p0.Latches, ([] : List Int), ([] : List Gate), ([] : List Int)⟩ : Circuit)) fun x24 =>
  Option.bind (rng (IntKind.i64.wrap ((IntKind.i64.wrap (1 + p0.Inputs)) + p0.Latches))) fun _ =>
  Option.bind (cntM i_tidied_b0 (Int.toNat ((IntKind.i64.wrap ((IntKind.i64.wrap (1 + p0.Inputs)) + p0.Latches)) - 0)) 0 (([] : List Int) : (List Int))) fun q2 =>
  aft (fun r => some r) (fun s3 =>
    Option.bind (cntM (i_tidied_b2 p0 x24) p0.Gates.length 0 ((s3 : (List Int)), (x24.c.Gates : (List Gate)), (x24.full : Bool), (x24.known : (List (Gate × Int))))) fun q5 =>
    aft (fun r => some r) (fun s6 =>
      Option.bind (cntM (i_tidied_b4 p0 s6) p0.Next.length 0 (([] : List Int) : (List Int))) fun q8 =>
      aft (fun r => some r) (fun s9 =>
        Option.bind (cntM (i_tidied_b6 p0 s6) p0.Outs.length 0 (([] : List Int) : (List Int))) fun q11 =>
        aft (fun r => some r) (fun s12 =>
          Option.bind (i_signalsOf (⟨x24.c.Inputs, x24.c.Latches, s9, s6.2.1, s12⟩ : Circuit)) fun x105 =>
          Option.bind (mkS 1 x105 (false : Bool)) fun x106 =>
          Option.bind (appS 8 ([] : List Int) s9) fun x110 =>
          Option.bind (appS 8 x110 s12) fun x113 =>
          Option.bind (cntM (i_tidied_b8 x113) x113.length 0 (x106 : (List Bool))) fun q14 =>
          aft (fun r => some r) (fun s15 =>
            Option.bind (whileM (i_tidied_b10 p0 s6) (2 ^ 64) (((IntKind.i64.wrap ((s6.2.1.length : Int) - 1)) : Int), (s15 : (List Bool)))) fun q17 =>
            aft (fun r => some r) (fun s18 =>
              Option.bind (i_withoutUnused (⟨x24.c.Inputs, x24.c.Latches, s9, s6.2.1, s12⟩ : Circuit) s18.2) fun x158 =>
              some (x158 : Circuit)) q17) q14) q11) q8) q5) q2

/- loop.example/g00869/impl.TidiedCircuit -/

def i_TidiedCircuit (p0 : Circuit) : Option (Circuit) :=
  Option.bind (i_isCircuit p0) fun x4 =>
  bif (!x4) then
    some ((⟨0, 0, ([] : List Int), ([] : List Gate), ([] : List Int)⟩ : Circuit) : Circuit)
  else
    Option.bind (i_tidied p0) fun x8 =>
    some (x8 : Circuit)

/- loop.example/g00869/laws.eqInt64S -/
def l_eqInt64S_b0 (p0 : (List Int)) (p1 : (List Int)) (v5 : Int) (s1 : Unit) : Option (Bool ⊕ ((Unit) ⊕ (Unit))) :=
  Option.bind (idx p0 v5) fun x19 =>
  Option.bind (idx p1 v5) fun x23 =>
  bif (x19 != x23) then
    some (.inl (false : Bool))
  else
    some (.inr (.inr ()))
def l_eqInt64S (p0 : (List Int)) (p1 : (List Int)) : Option (Bool) :=
  bif ((p0.length : Int) != (p1.length : Int)) then
    some (false : Bool)
  else
    Option.bind (cntM (l_eqInt64S_b0 p0 p1) p0.length 0 ()) fun q2 =>
    aft (fun r => some r) (fun s3 =>
      some (true : Bool)) q2

/- loop.example/g00869/laws.eqGate -/

def l_eqGate (p0 : Gate) (p1 : Gate) : Option (Bool) :=
  bif (p0.A != p1.A) then
    some (false : Bool)
  else
    bif (p0.B != p1.B) then
      some (false : Bool)
    else
      some (true : Bool)

/- loop.example/g00869/laws.eqGateS -/
def l_eqGateS_b0 (p0 : (List Gate)) (p1 : (List Gate)) (v5 : Int) (s1 : Unit) : Option (Bool ⊕ ((Unit) ⊕ (Unit))) :=
  Option.bind (idx p0 v5) fun x19 =>
  Option.bind (idx p1 v5) fun x23 =>
  Option.bind (l_eqGate x19 x23) fun x25 =>
  bif (!x25) then
    some (.inl (false : Bool))
  else
    some (.inr (.inr ()))
def l_eqGateS (p0 : (List Gate)) (p1 : (List Gate)) : Option (Bool) :=
  bif ((p0.length : Int) != (p1.length : Int)) then
    some (false : Bool)
  else
    Option.bind (cntM (l_eqGateS_b0 p0 p1) p0.length 0 ()) fun q2 =>
    aft (fun r => some r) (fun s3 =>
      some (true : Bool)) q2

/- loop.example/g00869/laws.eqCircuit -/

def l_eqCircuit (p0 : Circuit) (p1 : Circuit) : Option (Bool) :=
  bif (p0.Inputs != p1.Inputs) then
    some (false : Bool)
  else
    bif (p0.Latches != p1.Latches) then
      some (false : Bool)
    else
      Option.bind (l_eqInt64S p0.Next p1.Next) fun x19 =>
      bif (!x19) then
        some (false : Bool)
      else
        Option.bind (l_eqGateS p0.Gates p1.Gates) fun x25 =>
        bif (!x25) then
          some (false : Bool)
        else
          Option.bind (l_eqInt64S p0.Outs p1.Outs) fun x31 =>
          bif (!x31) then
            some (false : Bool)
          else
            some (true : Bool)

/- loop.example/g00869/laws.markInt64S -/
def l_markInt64S_b0  (v5 : Int) (s1 : Int × (List Int)) : Option ((Int × (List Int)) ⊕ ((Int × (List Int)) ⊕ (Int × (List Int)))) :=
  Option.bind (idx s1.2 v5) fun x15 =>
  Option.bind (setI s1.2 v5 s1.1) fun y43 =>
  some (.inr (.inr (((IntKind.i64.wrap (s1.1 + 1)) : Int), (y43 : (List Int)))))
def l_markInt64S (p0 : (List Int)) (p1 : Int) : Option (Int × (List Int)) :=
  Option.bind (cntM l_markInt64S_b0 p0.length 0 ((p1 : Int), (p0 : (List Int)))) fun q2 =>
  aft (fun r => some r) (fun s3 =>
    some ((s3.1 : Int), (s3.2 : (List Int)))) q2

/- loop.example/g00869/laws.markGateS -/
def l_markGateS_b0  (v5 : Int) (s1 : Int × (List Gate)) : Option ((Int × (List Gate)) ⊕ ((Int × (List Gate)) ⊕ (Int × (List Gate)))) :=
  Option.bind (idx s1.2 v5) fun x15 =>
  Option.bind (setI s1.2 v5 ((⟨s1.1, x15.B⟩ : Gate) : Gate)) fun y44 =>
  Option.bind (idx y44 v5) fun x22 =>
  Option.bind (setI y44 v5 ((⟨x22.A, (IntKind.i64.wrap (s1.1 + 1))⟩ : Gate) : Gate)) fun y45 =>
  some (.inr (.inr (((IntKind.i64.wrap ((IntKind.i64.wrap (s1.1 + 1)) + 1)) : Int), (y45 : (List Gate)))))
def l_markGateS (p0 : (List Gate)) (p1 : Int) : Option (Int × (List Gate)) :=
  Option.bind (cntM l_markGateS_b0 p0.length 0 ((p1 : Int), (p0 : (List Gate)))) fun q2 =>
  aft (fun r => some r) (fun s3 =>
    some ((s3.1 : Int), (s3.2 : (List Gate)))) q2

/- loop.example/g00869/laws.markCircuit -/

def l_markCircuit (p0 : Circuit) (p1 : Int) : Option (Int × (List Int) × (List Gate) × (List Int)) :=
  Option.bind (l_markInt64S p0.Next p1) fun x8 =>
  Option.bind (l_markGateS p0.Gates x8.1) fun x12 =>
  Option.bind (l_markInt64S p0.Outs x12.1) fun x16 =>
  some ((x16.1 : Int), (x8.2 : (List Int)), (x12.2 : (List Gate)), (x16.2 : (List Int)))

/- loop.example/g00869/laws.heldInt64S -/
def l_heldInt64S_b0 (p0 : (List Int)) (v5 : Int) (s1 : Int) : Option (Int ⊕ ((Int) ⊕ (Int))) :=
  Option.bind (idx p0 v5) fun x14 =>
  bif (x14 != s1) then
    some (.inl ((-1) : Int))
  else
    some (.inr (.inr ((IntKind.i64.wrap (s1 + 1)) : Int)))
def l_heldInt64S (p0 : (List Int)) (p1 : Int) : Option (Int) :=
  Option.bind (cntM (l_heldInt64S_b0 p0) p0.length 0 (p1 : Int)) fun q2 =>
  aft (fun r => some r) (fun s3 =>
    some (s3 : Int)) q2

/- loop.example/g00869/laws.heldGateS -/
def l_heldGateS_b0 (p0 : (List Gate)) (v5 : Int) (s1 : Int) : Option (Int ⊕ ((Int) ⊕ (Int))) :=
  Option.bind (idx p0 v5) fun x14 =>
  bif (x14.A != s1) then
    some (.inl ((-1) : Int))
  else
    Option.bind (idx p0 v5) fun x23 =>
    bif (x23.B != (IntKind.i64.wrap (s1 + 1))) then
      some (.inl ((-1) : Int))
    else
      some (.inr (.inr ((IntKind.i64.wrap ((IntKind.i64.wrap (s1 + 1)) + 1)) : Int)))
def l_heldGateS (p0 : (List Gate)) (p1 : Int) : Option (Int) :=
  Option.bind (cntM (l_heldGateS_b0 p0) p0.length 0 (p1 : Int)) fun q2 =>
  aft (fun r => some r) (fun s3 =>
    some (s3 : Int)) q2

/- loop.example/g00869/laws.heldCircuit -/

def l_heldCircuit (p0 : Circuit) (p1 : Int) : Option (Int) :=
  Option.bind (l_heldInt64S p0.Next p1) fun x8 =>
  bif decide (x8 < 0) then
    some ((-1) : Int)
  else
    Option.bind (l_heldGateS p0.Gates x8) fun x14 =>
    bif decide (x14 < 0) then
      some ((-1) : Int)
    else
      Option.bind (l_heldInt64S p0.Outs x14) fun x20 =>
      bif decide (x20 < 0) then
        some ((-1) : Int)
      else
        some (x20 : Int)

/- loop.example/g00869/laws.FnExactTidiedCircuit -/

def l_FnExactTidiedCircuit (p0 : Circuit) : Option (Bool) :=
  Option.bind (l_szCircuit p0 1048576) fun x13 =>
  bif decide (x13 < 0) then
    some (true : Bool)
  else
    Option.bind (l_toCircuit p0) fun x17 =>
    Option.bind (s_TidiedCircuit x17) fun x18 =>
    Option.bind (l_toCircuit p0) fun x20 =>
    Option.bind (i_TidiedCircuit x20) fun x22 =>
    Option.bind (l_eqCircuit x22 x18) fun x25 =>
    bif (!x25) then
      some (false : Bool)
    else
      Option.bind (l_toCircuit p0) fun x29 =>
      Option.bind (l_eqCircuit x20 x29) fun x30 =>
      bif (!x30) then
        some (false : Bool)
      else
        Option.bind (l_markCircuit x20 1) fun x34 =>
        Option.bind (bif decide (x34.1 < 0) then
        some true
        else
        Option.bind (l_eqCircuit x22 x18) fun x40 =>
        some (!x40)) fun p42 =>
        bif p42 then
          some (false : Bool)
        else
          Option.bind (l_markCircuit x22 1) fun x45 =>
          Option.bind (l_heldCircuit (⟨x22.Inputs, x22.Latches, x45.2.1, x45.2.2.1, x45.2.2.2⟩ : Circuit) 1) fun x48 =>
          bif decide (x48 < 0) then
            some (false : Bool)
          else
            bif (x48 != x45.1) then
              some (false : Bool)
            else
              Option.bind (l_toCircuit p0) fun x55 =>
              Option.bind (i_TidiedCircuit x55) fun x56 =>
              Option.bind (l_eqCircuit x56 x18) fun x59 =>
              bif (!x59) then
                some (false : Bool)
              else
                Option.bind (l_heldCircuit (⟨x22.Inputs, x22.Latches, x45.2.1, x45.2.2.1, x45.2.2.2⟩ : Circuit) 1) fun x63 =>
                bif decide (x63 < 0) then
                  some (false : Bool)
                else
                  bif (x63 != x45.1) then
                    some (false : Bool)
                  else
                    some (true : Bool)

/- loop.example/g00869/spec.SigOk -/

def s_SigOk (p0 : Sig) : Option (Bool) :=
  Option.bind (s_l1In p0.In 1 2) fun x5 =>
  Option.bind (bif x5 then
  Option.bind (s_l1In p0.Out 1 2) fun x9 =>
  some x9
  else
  some false) fun p10 =>
  some (p10 : Bool)

/- loop.example/g00869/spec.l31Pow -/

def s_l31Pow (p0 : Int) : Option (Int) :=
  Option.bind (nn (IntKind.u64.wrap p0)) fun _z5 =>
  some ((IntKind.i64.wrap (1 * 2 ^ (min (Int.toNat (IntKind.u64.wrap p0)) (IntKind.bits IntKind.i64)))) : Int)

/- loop.example/g00869/spec.l31True -/

def s_l31True (p0 : (List Bool)) (p1 : Int) : Option (Bool) :=
  Option.bind (idx p0 (IntKind.i64.wrap (Int.tdiv p1 2))) fun x8 =>
  some ((x8 != ((Int.tmod p1 2) == 1)) : Bool)

/- loop.example/g00869/spec.l31Number -/
def s_l31Number_b0 (p0 : (List Bool)) (p1 : (List Int)) (v6 : Int) (s1 : Int) : Option (Int ⊕ ((Int) ⊕ (Int))) :=
  Option.bind (idx p1 v6) fun x16 =>
  Option.bind (s_l31True p0 x16) fun x18 =>
  Option.bind (bif x18 then
    Option.bind (s_l31Pow v6) fun x21 =>
    some ((IntKind.i64.wrap (s1 + x21)) : Int)
  else
    some (s1 : Int)) fun q4 =>
  some (.inr (.inr (q4 : Int)))
def s_l31Number (p0 : (List Bool)) (p1 : (List Int)) : Option (Int) :=
  Option.bind (cntM (s_l31Number_b0 p0 p1) p1.length 0 (0 : Int)) fun q2 =>
  aft (fun r => some r) (fun s3 =>
    some (s3 : Int)) q2

/- loop.example/g00869/spec.l31Step -/
def s_l31Step_b0 (p2 : Int) (v9 : Int) (s1 : (List Bool)) : Option ((Int × Int) ⊕ (((List Bool)) ⊕ ((List Bool)))) :=
  Option.bind (s_l31Pow v9) fun x22 =>
  Option.bind (nz x22) fun _z23 =>
  Option.bind (appS 1 s1 ([((Int.tmod (IntKind.i64.wrap (Int.tdiv p2 x22)) 2) == 1)] : List Bool)) fun x27 =>
  some (.inr (.inr (x27 : (List Bool))))
def s_l31Step_b2 (p1 : Int) (v10 : Int) (s4 : (List Bool)) : Option ((Int × Int) ⊕ (((List Bool)) ⊕ ((List Bool)))) :=
  Option.bind (s_l31Pow v10) fun x37 =>
  Option.bind (nz x37) fun _z38 =>
  Option.bind (appS 1 s4 ([((Int.tmod (IntKind.i64.wrap (Int.tdiv p1 x37)) 2) == 1)] : List Bool)) fun x42 =>
  some (.inr (.inr (x42 : (List Bool))))
def s_l31Step_b4 (p0 : Circuit) (v11 : Int) (s7 : (List Bool)) : Option ((Int × Int) ⊕ (((List Bool)) ⊕ ((List Bool)))) :=
  Option.bind (idx p0.Gates v11) fun x55 =>
  Option.bind (s_l31True s7 x55.A) fun x58 =>
  Option.bind (bif x58 then
  Option.bind (idx p0.Gates v11) fun x64 =>
  Option.bind (s_l31True s7 x64.B) fun x67 =>
  some x67
  else
  some false) fun p68 =>
  Option.bind (appS 1 s7 ([p68] : List Bool)) fun x70 =>
  some (.inr (.inr (x70 : (List Bool))))
def s_l31Step (p0 : Circuit) (p1 : Int) (p2 : Int) : Option (Int × Int) :=
  Option.bind (rng p0.Inputs) fun _ =>
  Option.bind (cntM (s_l31Step_b0 p2) (Int.toNat (p0.Inputs - 0)) 0 (([false] : List Bool) : (List Bool))) fun q2 =>
  aft (fun r => some r) (fun s3 =>
    Option.bind (rng p0.Latches) fun _ =>
    Option.bind (cntM (s_l31Step_b2 p1) (Int.toNat (p0.Latches - 0)) 0 (s3 : (List Bool))) fun q5 =>
    aft (fun r => some r) (fun s6 =>
      Option.bind (cntM (s_l31Step_b4 p0) p0.Gates.length 0 (s6 : (List Bool))) fun q8 =>
      aft (fun r => some r) (fun s9 =>
        Option.bind (s_l31Number s9 p0.Next) fun x74 =>
        Option.bind (s_l31Number s9 p0.Outs) fun x78 =>
        some ((x74 : Int), (x78 : Int))) q8) q5) q2

/- loop.example/g00869/impl.isSig -/

def i_isSig (p0 : Sig) : Option (Bool) :=
  Option.bind (bif decide (1 ≤ p0.In) then
  some (decide (p0.In ≤ 2))
  else
  some false) fun p10 =>
  Option.bind (bif p10 then
  some (decide (1 ≤ p0.Out))
  else
  some false) fun p15 =>
  Option.bind (bif p15 then
  some (decide (p0.Out ≤ 2))
  else
  some false) fun p20 =>
  some (p20 : Bool)

/- loop.example/g00869/impl.stepOf$1 -/

def i_stepOf_1 (p0 : Int) (c0 : (List Int)) : Option (Int) :=
  Option.bind (idx c0 (IntKind.i64.wrap (Int.tdiv p0 2))) fun x7 =>
  some ((IntKind.i64.wrap (BitVec.toNat (BitVec.ofInt (IntKind.bits IntKind.i64) x7 ^^^ BitVec.ofInt (IntKind.bits IntKind.i64) (IntKind.i64.wrap (BitVec.toNat (BitVec.ofInt (IntKind.bits IntKind.i64) p0 &&& BitVec.ofInt (IntKind.bits IntKind.i64) 1)))))) : Int)

/- loop.example/g00869/impl.stepOf -/
def i_stepOf_b0 (p2 : Int) (v25 : Int) (s1 : (List Int)) : Option ((Int × Int) ⊕ (((List Int)) ⊕ ((List Int)))) :=
  Option.bind (nn v25) fun _z31 =>
  Option.bind (appS 8 s1 ([(IntKind.i64.wrap (BitVec.toNat (BitVec.ofInt (IntKind.bits IntKind.i64) (Int.fdiv p2 (2 ^ (min (Int.toNat v25) (IntKind.bits IntKind.i64)))) &&& BitVec.ofInt (IntKind.bits IntKind.i64) 1)))] : List Int)) fun x34 =>
  some (.inr (.inr (x34 : (List Int))))
def i_stepOf_b2 (p1 : Int) (v38 : Int) (s4 : (List Int)) : Option ((Int × Int) ⊕ (((List Int)) ⊕ ((List Int)))) :=
  Option.bind (nn v38) fun _z44 =>
  Option.bind (appS 8 s4 ([(IntKind.i64.wrap (BitVec.toNat (BitVec.ofInt (IntKind.bits IntKind.i64) (Int.fdiv p1 (2 ^ (min (Int.toNat v38) (IntKind.bits IntKind.i64)))) &&& BitVec.ofInt (IntKind.bits IntKind.i64) 1)))] : List Int)) fun x47 =>
  some (.inr (.inr (x47 : (List Int))))
def i_stepOf_b4 (p0 : Circuit) (v53 : Int) (s7 : (List Int)) : Option ((Int × Int) ⊕ (((List Int)) ⊕ ((List Int)))) :=
  Option.bind (idx p0.Gates v53) fun x55 =>
  Option.bind (i_stepOf_1 x55.A s7) fun x61 =>
  Option.bind (i_stepOf_1 x55.B s7) fun x65 =>
  Option.bind (appS 8 s7 ([(IntKind.i64.wrap (BitVec.toNat (BitVec.ofInt (IntKind.bits IntKind.i64) x61 &&& BitVec.ofInt (IntKind.bits IntKind.i64) x65)))] : List Int)) fun x68 =>
  some (.inr (.inr (x68 : (List Int))))
def i_stepOf_b6 (p0 : Circuit) (s9 : (List Int)) (v73 : Int) (s10 : Int) : Option ((Int × Int) ⊕ ((Int) ⊕ (Int))) :=
  Option.bind (idx p0.Next v73) fun x76 =>
  Option.bind (i_stepOf_1 x76 s9) fun x81 =>
  Option.bind (nn v73) fun _z83 =>
  some (.inr (.inr ((IntKind.i64.wrap (BitVec.toNat (BitVec.ofInt (IntKind.bits IntKind.i64) s10 ||| BitVec.ofInt (IntKind.bits IntKind.i64) (IntKind.i64.wrap (x81 * 2 ^ (min (Int.toNat v73) (IntKind.bits IntKind.i64))))))) : Int)))
def i_stepOf_b8 (p0 : Circuit) (s9 : (List Int)) (v89 : Int) (s13 : Int) : Option ((Int × Int) ⊕ ((Int) ⊕ (Int))) :=
  Option.bind (idx p0.Outs v89) fun x92 =>
  Option.bind (i_stepOf_1 x92 s9) fun x97 =>
  Option.bind (nn v89) fun _z99 =>
  some (.inr (.inr ((IntKind.i64.wrap (BitVec.toNat (BitVec.ofInt (IntKind.bits IntKind.i64) s13 ||| BitVec.ofInt (IntKind.bits IntKind.i64) (IntKind.i64.wrap (x97 * 2 ^ (min (Int.toNat v89) (IntKind.bits IntKind.i64))))))) : Int)))
def i_stepOf (p0 : Circuit) (p1 : Int) (p2 : Int) : Option (Int × Int) :=
  Option.bind (i_signalsOf p0) fun x21 =>
  Option.bind (mkC 8 1 x21 (0 : Int)) fun x22 =>
  Option.bind (rng p0.Inputs) fun _ =>
  Option.bind (cntM (i_stepOf_b0 p2) (Int.toNat (p0.Inputs - 0)) 0 (x22 : (List Int))) fun q2 =>
  aft (fun r => some r) (fun s3 =>
    Option.bind (rng p0.Latches) fun _ =>
    Option.bind (cntM (i_stepOf_b2 p1) (Int.toNat (p0.Latches - 0)) 0 (s3 : (List Int))) fun q5 =>
    aft (fun r => some r) (fun s6 =>
      Option.bind (cntM (i_stepOf_b4 p0) p0.Gates.length 0 (s6 : (List Int))) fun q8 =>
      aft (fun r => some r) (fun s9 =>
        Option.bind (cntM (i_stepOf_b6 p0 s9) p0.Next.length 0 (0 : Int)) fun q11 =>
        aft (fun r => some r) (fun s12 =>
          Option.bind (cntM (i_stepOf_b8 p0 s9) p0.Outs.length 0 (0 : Int)) fun q14 =>
          aft (fun r => some r) (fun s15 =>
            some ((s12 : Int), (s15 : Int))) q14) q11) q8) q5) q2

/- loop.example/g00869/spec.l23Below -/
def s_l23Below_b0 (p0 : (List Int)) (p1 : Int) (v5 : Int) (s1 : Unit) : Option (Bool ⊕ ((Unit) ⊕ (Unit))) :=
  Option.bind (idx p0 v5) fun x14 =>
  Option.bind (s_l1In x14 0 (IntKind.i64.wrap (p1 - 1))) fun x18 =>
  bif (!x18) then
    some (.inl (false : Bool))
  else
    some (.inr (.inr ()))
def s_l23Below (p0 : (List Int)) (p1 : Int) : Option (Bool) :=
  Option.bind (cntM (s_l23Below_b0 p0 p1) p0.length 0 ()) fun q2 =>
  aft (fun r => some r) (fun s3 =>
    some (true : Bool)) q2

/- loop.example/g00869/spec.l23Power -/
def s_l23Power_b0  (s1 : Int × Int) : Option (Int ⊕ ((Int × Int) ⊕ (Int × Int))) :=
  bif decide (0 < s1.1) then
    some (.inr (.inr (((IntKind.i64.wrap (s1.1 - 1)) : Int), ((IntKind.i64.wrap (s1.2 * 2)) : Int))))
  else
    some (.inr (.inl ((s1.1 : Int), (s1.2 : Int))))
def s_l23Power (p0 : Int) : Option (Int) :=
  Option.bind (whileM s_l23Power_b0 (2 ^ 64) ((p0 : Int), (1 : Int))) fun q2 =>
  aft (fun r => some r) (fun s3 =>
    some (s3.2 : Int)) q2

end Go.Proofs.Ytfmkhnlnomkcfaa
