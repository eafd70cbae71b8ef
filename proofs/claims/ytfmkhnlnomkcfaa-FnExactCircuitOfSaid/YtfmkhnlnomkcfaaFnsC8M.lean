/- The functions on data. By program. -/
import Derived.Test.YtfmkhnlnomkcfaaTypes
set_option linter.unusedVariables false
set_option linter.unusedSimpArgs false
namespace Go.Proofs.Ytfmkhnlnomkcfaa
open Go Go.Wk Go.Proofs
set_option maxRecDepth 100000
set_option maxHeartbeats 1000000

/- loop.example/g00869/laws.szInt64S -/

def l_szInt64S (p0 : (List Int)) (p1 : Int) : Option (Int) :=
  bif decide ((IntKind.i64.wrap (p1 - (p0.length : Int))) < 0) then
    some ((-1) : Int)
  else
    some ((IntKind.i64.wrap (p1 - (p0.length : Int))) : Int)

/- loop.example/g00869/laws.szInt64SS -/
def l_szInt64SS_b0 (p0 : (List (List Int))) (v5 : Int) (s1 : Int) : Option (Int ⊕ ((Int) ⊕ (Int))) :=
  Option.bind (idx p0 v5) fun x20 =>
  Option.bind (l_szInt64S x20 s1) fun x23 =>
  bif decide (x23 < 0) then
    some (.inl ((-1) : Int))
  else
    some (.inr (.inr (x23 : Int)))
def l_szInt64SS (p0 : (List (List Int))) (p1 : Int) : Option (Int) :=
  bif decide ((IntKind.i64.wrap (p1 - (p0.length : Int))) < 0) then
    some ((-1) : Int)
  else
    Option.bind (cntM (l_szInt64SS_b0 p0) p0.length 0 ((IntKind.i64.wrap (p1 - (p0.length : Int))) : Int)) fun q2 =>
    aft (fun r => some r) (fun s3 =>
      some (s3 : Int)) q2

/- loop.example/g00869/laws.szMachine -/

def l_szMachine (p0 : Machine) (p1 : Int) : Option (Int) :=
  Option.bind (l_szInt64SS p0.Next p1) fun x8 =>
  bif decide (x8 < 0) then
    some ((-1) : Int)
  else
    Option.bind (l_szInt64SS p0.Out x8) fun x14 =>
    bif decide (x14 < 0) then
      some ((-1) : Int)
    else
      some (x14 : Int)

/- loop.example/g00869/laws.toSig -/

def l_toSig (p0 : Sig) : Option (Sig) :=
  some ((⟨p0.In, p0.Out⟩ : Sig) : Sig)

/- loop.example/g00869/laws.toInt64S -/
def l_toInt64S_b0 (p0 : (List Int)) (v4 : Int) (s1 : (List Int)) : Option ((List Int) ⊕ (((List Int)) ⊕ ((List Int)))) :=
  Option.bind (idx p0 v4) fun x18 =>
  Option.bind (idx s1 v4) fun x20 =>
  Option.bind (setI s1 v4 x18) fun y2 =>
  some (.inr (.inr (y2 : (List Int))))
def l_toInt64S (p0 : (List Int)) : Option ((List Int)) :=
  Option.bind (mkS 8 (p0.length : Int) (0 : Int)) fun x7 =>
  Option.bind (cntM (l_toInt64S_b0 p0) p0.length 0 (x7 : (List Int))) fun q2 =>
  aft (fun r => some r) (fun s3 =>
    some (s3 : (List Int))) q2

/- loop.example/g00869/laws.toInt64SS -/
def l_toInt64SS_b0 (p0 : (List (List Int))) (v4 : Int) (s1 : (List (List Int))) : Option ((List (List Int)) ⊕ (((List (List Int))) ⊕ ((List (List Int))))) :=
  Option.bind (idx p0 v4) fun x18 =>
  Option.bind (l_toInt64S x18) fun x20 =>
  Option.bind (idx s1 v4) fun x21 =>
  Option.bind (setI s1 v4 (x20 : (List Int))) fun y3 =>
  some (.inr (.inr (y3 : (List (List Int)))))
def l_toInt64SS (p0 : (List (List Int))) : Option ((List (List Int))) :=
  Option.bind (mkS 24 (p0.length : Int) (([] : List Int) : (List Int))) fun x7 =>
  Option.bind (cntM (l_toInt64SS_b0 p0) p0.length 0 (x7 : (List (List Int)))) fun q2 =>
  aft (fun r => some r) (fun s3 =>
    some (s3 : (List (List Int)))) q2

/- loop.example/g00869/laws.toMachine -/

def l_toMachine (p0 : Machine) : Option (Machine) :=
  Option.bind (l_toInt64SS p0.Next) fun x6 =>
  Option.bind (l_toInt64SS p0.Out) fun x10 =>
  some ((⟨x6, x10⟩ : Machine) : Machine)

/- loop.example/g00869/spec.l1In -/

def s_l1In (p0 : Int) (p1 : Int) (p2 : Int) : Option (Bool) :=
  Option.bind (bif decide (p1 ≤ p0) then
  some (decide (p0 ≤ p2))
  else
  some false) fun p14 =>
  some (p14 : Bool)

/- loop.example/g00869/spec.SigOk -/

def s_SigOk (p0 : Sig) : Option (Bool) :=
  Option.bind (s_l1In p0.In 1 2) fun x5 =>
  Option.bind (bif x5 then
  Option.bind (s_l1In p0.Out 1 2) fun x9 =>
  some x9
  else
  some false) fun p10 =>
  some (p10 : Bool)

/- loop.example/g00869/spec.l23Power -/
def s_l23Power_b0  (s1 : Int × Int) : Option (Int ⊕ ((Int × Int) ⊕ (Int × Int))) :=
  bif decide (0 < s1.1) then
    some (.inr (.inr (((IntKind.i64.wrap (s1.1 - 1)) : Int), ((IntKind.i64.wrap (s1.2 * 2)) : Int))))
  else
    some (.inr (.inl ((s1.1 : Int), (s1.2 : Int))))
def s_l23Power (p0 : Int) : Option (Int) :=
  Option.bind (whileM s_l23Power_b0 (2 ^ 64) ((p0 : Int), (1 : Int))) fun q2 =>
  aft (fun r => some r) (fun s3 =>
    some (s3.2 : Int)) q2

/- loop.example/g00869/spec.l29Ins -/

def s_l29Ins (p0 : Sig) : Option (Int) :=
  Option.bind (s_l23Power p0.In) fun x5 =>
  some (x5 : Int)

/- loop.example/g00869/spec.l23Below -/
def s_l23Below_b0 (p0 : (List Int)) (p1 : Int) (v5 : Int) (s1 : Unit) : Option (Bool ⊕ ((Unit) ⊕ (Unit))) :=
  Option.bind (idx p0 v5) fun x14 =>
  Option.bind (s_l1In x14 0 (IntKind.i64.wrap (p1 - 1))) fun x18 =>
  bif (!x18) then
    some (.inl (false : Bool))
  else
    some (.inr (.inr ()))
def s_l23Below (p0 : (List Int)) (p1 : Int) : Option (Bool) :=
  Option.bind (cntM (s_l23Below_b0 p0 p1) p0.length 0 ()) fun q2 =>
  aft (fun r => some r) (fun s3 =>
    some (true : Bool)) q2

/- loop.example/g00869/spec.MachineOk -/
def s_MachineOk_b0 (p0 : Sig) (p1 : Machine) (v6 : Int) (s1 : Unit) : Option (Bool ⊕ ((Unit) ⊕ (Unit))) :=
  Option.bind (idx p1.Next v6) fun x37 =>
  Option.bind (s_l29Ins p0) fun x41 =>
  Option.bind (bif ((x37.length : Int) != x41) then
  some true
  else
  Option.bind (idx p1.Out v6) fun x47 =>
  Option.bind (idx p1.Next v6) fun x53 =>
  some ((x47.length : Int) != (x53.length : Int))) fun p57 =>
  Option.bind (bif p57 then
  some true
  else
  Option.bind (idx p1.Next v6) fun x62 =>
  Option.bind (s_l23Below x62 (p1.Next.length : Int)) fun x65 =>
  some (!x65)) fun p67 =>
  Option.bind (bif p67 then
  some true
  else
  Option.bind (idx p1.Out v6) fun x72 =>
  Option.bind (s_l23Power p0.Out) fun x76 =>
  Option.bind (s_l23Below x72 x76) fun x77 =>
  some (!x77)) fun p79 =>
  bif p79 then
    some (.inl (false : Bool))
  else
    some (.inr (.inr ()))
def s_MachineOk (p0 : Sig) (p1 : Machine) : Option (Bool) :=
  Option.bind (s_SigOk p0) fun x11 =>
  Option.bind (bif (!x11) then
  some true
  else
  Option.bind (s_l1In (p1.Next.length : Int) 1 48) fun x15 =>
  some (!x15)) fun p17 =>
  Option.bind (bif p17 then
  some true
  else
  some ((p1.Out.length : Int) != (p1.Next.length : Int))) fun p26 =>
  bif p26 then
    some (false : Bool)
  else
    Option.bind (cntM (s_MachineOk_b0 p0 p1) p1.Next.length 0 ()) fun q2 =>
    aft (fun r => some r) (fun s3 =>
      some (true : Bool)) q2

/- loop.example/g00869/spec.l31Pow -/

def s_l31Pow (p0 : Int) : Option (Int) :=
  Option.bind (nn (IntKind.u64.wrap p0)) fun _z5 =>
  some ((IntKind.i64.wrap (1 * 2 ^ (min (Int.toNat (IntKind.u64.wrap p0)) (IntKind.bits IntKind.i64)))) : Int)

/- loop.example/g00869/spec.l1Flag -/

def s_l1Flag (p0 : Bool) : Option (Int) :=
  bif p0 then
    some (1 : Int)
  else
    some (0 : Int)

/- loop.example/g00869/spec.l31Turn -/

def s_l31Turn (p0 : Int) : Option (Int) :=
  bif ((Int.tmod p0 2) == 1) then
    some ((IntKind.i64.wrap (p0 - 1)) : Int)
  else
    some ((IntKind.i64.wrap (p0 + 1)) : Int)

/- loop.example/g00869/spec.l1Min -/

def s_l1Min (p0 : Int) (p1 : Int) : Option (Int) :=
  bif decide (p0 < p1) then
    some (p0 : Int)
  else
    some (p1 : Int)

/- loop.example/g00869/spec.l1Max -/

def s_l1Max (p0 : Int) (p1 : Int) : Option (Int) :=
  bif decide (p1 < p0) then
    some (p0 : Int)
  else
    some (p1 : Int)

/- loop.example/g00869/spec.l31Signals -/

def s_l31Signals (p0 : Circuit) : Option (Int) :=
  some ((IntKind.i64.wrap ((IntKind.i64.wrap ((IntKind.i64.wrap (1 + p0.Inputs)) + p0.Latches)) + (p0.Gates.length : Int))) : Int)

/- loop.example/g00869/spec.l31Join -/
def s_l31Join_b1 (p0 : Circuit) (x41 : Int) (x44 : Int) (v9 : Int) (s1 : Unit) : Option ((Circuit × Int) ⊕ ((Unit) ⊕ (Unit))) :=
  Option.bind (idx p0.Gates v9) fun x56 =>
  Option.bind (bif ((x56.A == x41) && (x56.B == x44)) then
  some true
  else
  Option.bind (idx p0.Gates v9) fun x64 =>
  Option.bind (bif (x64.A == x44) then
  Option.bind (idx p0.Gates v9) fun x74 =>
  some (x74.B == x41)
  else
  some false) fun p80 =>
  some p80) fun p81 =>
  bif p81 then
    some (.inl ((p0 : Circuit), ((IntKind.i64.wrap (2 * (IntKind.i64.wrap ((IntKind.i64.wrap ((IntKind.i64.wrap (1 + p0.Inputs)) + p0.Latches)) + v9)))) : Int)))
  else
    some (.inr (.inr ()))
def s_l31Join (p0 : Circuit) (p1 : Int) (p2 : Int) : Option (Circuit × Int) :=
  Option.bind (bif (p1 == 0) then
  some true
  else
  some (p2 == 0)) fun p16 =>
  Option.bind (bif p16 then
  some true
  else
  Option.bind (s_l31Turn p2) fun x20 =>
  some (p1 == x20)) fun p22 =>
  bif p22 then
    some ((p0 : Circuit), (0 : Int))
  else
    bif (p1 == 1) then
      some ((p0 : Circuit), (p2 : Int))
    else
      Option.bind (bif (p2 == 1) then
      some true
      else
      some (p1 == p2)) fun p36 =>
      bif p36 then
        some ((p0 : Circuit), (p1 : Int))
      else
        Option.bind (s_l1Min p1 p2) fun x41 =>
        Option.bind (s_l1Max p1 p2) fun x44 =>
        Option.bind (cntM (s_l31Join_b1 p0 x41 x44) p0.Gates.length 0 ()) fun q2 =>
        aft (fun r => some r) (fun s3 =>
          bif decide (8000 ≤ (p0.Gates.length : Int)) then
            some (((⟨0, 0, ([] : List Int), ([] : List Gate), ([] : List Int)⟩ : Circuit) : Circuit), ((-1) : Int))
          else
            Option.bind (appS 16 p0.Gates ([(⟨x41, x44⟩ : Gate)] : List Gate)) fun x101 =>
            Option.bind (s_l31Signals (⟨p0.Inputs, p0.Latches, p0.Next, x101, p0.Outs⟩ : Circuit)) fun x105 =>
            some (((⟨p0.Inputs, p0.Latches, p0.Next, x101, p0.Outs⟩ : Circuit) : Circuit), ((IntKind.i64.wrap (2 * (IntKind.i64.wrap (x105 - 1)))) : Int))) q2

/- loop.example/g00869/spec.l31Choose -/

def s_l31Choose (p0 : Circuit) (p1 : Int) (p2 : Int) (p3 : Int) : Option (Circuit × Int) :=
  bif (p2 == p3) then
    some ((p0 : Circuit), (p2 : Int))
  else
    Option.bind (s_l31Join p0 p1 p2) fun x22 =>
    bif decide (x22.2 < 0) then
      some (((⟨0, 0, ([] : List Int), ([] : List Gate), ([] : List Int)⟩ : Circuit) : Circuit), ((-1) : Int))
    else
      Option.bind (s_l31Turn p1) fun x31 =>
      Option.bind (s_l31Join x22.1 x31 p3) fun x33 =>
      bif decide (x33.2 < 0) then
        some (((⟨0, 0, ([] : List Int), ([] : List Gate), ([] : List Int)⟩ : Circuit) : Circuit), ((-1) : Int))
      else
        Option.bind (s_l31Turn x22.2) fun x42 =>
        Option.bind (s_l31Turn x33.2) fun x44 =>
        Option.bind (s_l31Join x33.1 x42 x44) fun x45 =>
        bif decide (x45.2 < 0) then
          some (((⟨0, 0, ([] : List Int), ([] : List Gate), ([] : List Int)⟩ : Circuit) : Circuit), ((-1) : Int))
        else
          Option.bind (s_l31Turn x45.2) fun x53 =>
          some ((x45.1 : Circuit), (x53 : Int))

/- loop.example/g00869/spec.l31Table -/
def s_l31Table_b0 (p1 : (List Bool)) (v9 : Int) (s1 : Bool) : Option ((Circuit × Int) ⊕ ((Bool) ⊕ (Bool))) :=
  Option.bind (bif s1 then
  Option.bind (idx p1 v9) fun x23 =>
  Option.bind (idx p1 0) fun x26 =>
  some (x23 == x26)
  else
  some false) fun p29 =>
  some (.inr (.inr (p29 : Bool)))
def s_l31Table_s (rc : Circuit → (List Bool) → Int → Option (Circuit × Int)) (p0 : Circuit) (p1 : (List Bool)) (p2 : Int) : Option (Circuit × Int) :=
  Option.bind (cntM (s_l31Table_b0 p1) p1.length 0 (true : Bool)) fun q2 =>
  aft (fun r => some r) (fun s3 =>
    bif s3 then
      Option.bind (idx p1 0) fun x33 =>
      Option.bind (s_l1Flag x33) fun x35 =>
      some ((p0 : Circuit), (x35 : Int))
    else
      Option.bind (subS p1 (IntKind.i64.wrap (Int.tdiv (p1.length : Int) 2)) (p1.length : Int)) fun x43 =>
      Option.bind (rc p0 x43 (IntKind.i64.wrap (p2 - 1))) fun x46 =>
      Option.bind (subS p1 0 (IntKind.i64.wrap (Int.tdiv (p1.length : Int) 2))) fun x53 =>
      Option.bind (rc x46.1 x53 (IntKind.i64.wrap (p2 - 1))) fun x56 =>
      Option.bind (s_l31Choose x56.1 (IntKind.i64.wrap (2 * p2)) x46.2 x56.2) fun x64 =>
      some ((x64.1 : Circuit), (x64.2 : Int))) q2
def s_l31Table : Nat → Circuit → (List Bool) → Int → Option (Circuit × Int)
  | 0 => fun _ _ _ => none
  | n + 1 => s_l31Table_s (s_l31Table n)

/- loop.example/g00869/spec.CircuitOf -/
def s_CircuitOf_b0 (p1 : Machine) (s1 : Int) : Option ((Circuit × Bool) ⊕ ((Int) ⊕ (Int))) :=
  Option.bind (s_l31Pow s1) fun x32 =>
  bif decide (x32 < (p1.Next.length : Int)) then
    some (.inr (.inr ((IntKind.i64.wrap (s1 + 1)) : Int)))
  else
    some (.inr (.inl (s1 : Int)))
def s_CircuitOf_b6 (p1 : Machine) (s4 : (List Int) × (List Int) × Int × Int × Int × (List Int) × (List Gate) × (List Int)) (q10 : Int) (v16 : Int) (s11 : (List Bool)) : Option ((Circuit × Bool) ⊕ (((List Bool)) ⊕ ((List Bool)))) :=
  Option.bind (bif decide (s4.2.2.1 < s4.2.2.2.2.1) then
    Option.bind (idx p1.Next q10) fun x79 =>
    Option.bind (idx x79 v16) fun x82 =>
    Option.bind (s_l31Pow s4.2.2.1) fun x85 =>
    Option.bind (nz x85) fun _z86 =>
    Option.bind (appS 1 s11 ([((Int.tmod (IntKind.i64.wrap (Int.tdiv x82 x85)) 2) == 1)] : List Bool)) fun x90 =>
    some (x90 : (List Bool))
  else
    Option.bind (idx p1.Out q10) fun x95 =>
    Option.bind (idx x95 v16) fun x98 =>
    Option.bind (s_l31Pow (IntKind.i64.wrap (s4.2.2.1 - s4.2.2.2.2.1))) fun x104 =>
    Option.bind (nz x104) fun _z105 =>
    Option.bind (appS 1 s11 ([((Int.tmod (IntKind.i64.wrap (Int.tdiv x98 x104)) 2) == 1)] : List Bool)) fun x109 =>
    some (x109 : (List Bool))) fun q14 =>
  some (.inr (.inr (q14 : (List Bool))))
def s_CircuitOf_b4 (p1 : Machine) (x41 : Int) (s4 : (List Int) × (List Int) × Int × Int × Int × (List Int) × (List Gate) × (List Int)) (v14 : Int) (s7 : (List Bool)) : Option ((Circuit × Bool) ⊕ (((List Bool)) ⊕ ((List Bool)))) :=
  Option.bind (bif decide ((p1.Next.length : Int) ≤ v14) then
    some (0 : Int)
  else
    some (v14 : Int)) fun q10 =>
  Option.bind (rng x41) fun _ =>
  Option.bind (cntM (s_CircuitOf_b6 p1 s4 q10) (Int.toNat (x41 - 0)) 0 (s7 : (List Bool))) fun q12 =>
  aft (fun r => some (.inl r)) (fun s13 =>
    some (.inr (.inr (s13 : (List Bool))))) q12
def s_CircuitOf_b2 (p0 : Sig) (p1 : Machine) (x41 : Int) (x44 : Int) (s4 : (List Int) × (List Int) × Int × Int × Int × (List Int) × (List Gate) × (List Int)) : Option ((Circuit × Bool) ⊕ (((List Int) × (List Int) × Int × Int × Int × (List Int) × (List Gate) × (List Int)) ⊕ ((List Int) × (List Int) × Int × Int × Int × (List Int) × (List Gate) × (List Int)))) :=
  bif decide (s4.2.2.1 < (IntKind.i64.wrap (s4.2.2.2.2.1 + p0.Out))) then
    Option.bind (rng x44) fun _ =>
    Option.bind (cntM (s_CircuitOf_b4 p1 x41 s4) (Int.toNat (x44 - 0)) 0 (([] : List Bool) : (List Bool))) fun q8 =>
    aft (fun r => some (.inl r)) (fun s9 =>
      Option.bind (s_l31Table (2 ^ 64) (⟨s4.2.2.2.1, s4.2.2.2.2.1, s4.2.2.2.2.2.1, s4.2.2.2.2.2.2.1, s4.2.2.2.2.2.2.2⟩ : Circuit) s9 (IntKind.i64.wrap (s4.2.2.2.1 + s4.2.2.2.2.1))) fun x118 =>
      Option.bind (bif decide (s4.2.2.1 < x118.1.Latches) then
        Option.bind (appS 8 s4.1 ([x118.2] : List Int)) fun x129 =>
        some ((x129 : (List Int)), (s4.2.1 : (List Int)))
      else
        Option.bind (appS 8 s4.2.1 ([x118.2] : List Int)) fun x133 =>
        some ((s4.1 : (List Int)), (x133 : (List Int)))) fun q15 =>
      some (.inr (.inr ((q15.1 : (List Int)), (q15.2 : (List Int)), ((IntKind.i64.wrap (s4.2.2.1 + 1)) : Int), (x118.1.Inputs : Int), (x118.1.Latches : Int), (x118.1.Next : (List Int)), (x118.1.Gates : (List Gate)), (x118.1.Outs : (List Int)))))) q8
  else
    some (.inr (.inl ((s4.1 : (List Int)), (s4.2.1 : (List Int)), (s4.2.2.1 : Int), (s4.2.2.2.1 : Int), (s4.2.2.2.2.1 : Int), (s4.2.2.2.2.2.1 : (List Int)), (s4.2.2.2.2.2.2.1 : (List Gate)), (s4.2.2.2.2.2.2.2 : (List Int)))))
def s_CircuitOf (p0 : Sig) (p1 : Machine) : Option (Circuit × Bool) :=
  Option.bind (s_MachineOk p0 p1) fun x21 =>
  bif (!x21) then
    some (((⟨0, 0, ([] : List Int), ([] : List Gate), ([] : List Int)⟩ : Circuit) : Circuit), (false : Bool))
  else
    Option.bind (whileM (s_CircuitOf_b0 p1) (2 ^ 64) (0 : Int)) fun q2 =>
    aft (fun r => some r) (fun s3 =>
      Option.bind (s_l31Pow p0.In) fun x41 =>
      Option.bind (s_l31Pow s3) fun x44 =>
      Option.bind (whileM (s_CircuitOf_b2 p0 p1 x41 x44) (2 ^ 64) ((([] : List Int) : (List Int)), (([] : List Int) : (List Int)), (0 : Int), (p0.In : Int), (s3 : Int), (([] : List Int) : (List Int)), (([] : List Gate) : (List Gate)), (([] : List Int) : (List Int)))) fun q5 =>
      aft (fun r => some r) (fun s6 =>
        some (((⟨s6.2.2.2.1, s6.2.2.2.2.1, s6.1, s6.2.2.2.2.2.2.1, s6.2.1⟩ : Circuit) : Circuit), (true : Bool))) q5) q2

/- loop.example/g00869/impl.isSig -/

def i_isSig (p0 : Sig) : Option (Bool) :=
  Option.bind (bif decide (1 ≤ p0.In) then
  some (decide (p0.In ≤ 2))
  else
  some false) fun p10 =>
  Option.bind (bif p10 then
  some (decide (1 ≤ p0.Out))
  else
  some false) fun p15 =>
  Option.bind (bif p15 then
  some (decide (p0.Out ≤ 2))
  else
  some false) fun p20 =>
  some (p20 : Bool)

/- loop.example/g00869/impl.inputsOf -/

def i_inputsOf (p0 : Sig) : Option (Int) :=
  Option.bind (nn p0.In) fun _z5 =>
  some ((IntKind.i64.wrap (1 * 2 ^ (min (Int.toNat p0.In) (IntKind.bits IntKind.i64)))) : Int)

/- loop.example/g00869/impl.areLetters$1 -/

def i_areLetters_1 (p0 : Int) (c0 : Int) : Option (Bool) :=
  Option.bind (bif decide (p0 < 0) then
  some true
  else
  some (decide (c0 ≤ p0))) fun p10 =>
  some (p10 : Bool)

/- slices.IndexFunc[[]int64,int64] -/
def slices_IndexFunc_I_int64__i_areLetters_1_b0 (p0 : (List Int)) (c1_0 : Int) (v8 : Int) (s1 : Unit) : Option (Int ⊕ ((Unit) ⊕ (Unit))) :=
  Option.bind (idx p0 v8) fun x14 =>
  Option.bind (i_areLetters_1 x14 c1_0) fun x16 =>
  bif x16 then
    some (.inl (v8 : Int))
  else
    some (.inr (.inr ()))
def slices_IndexFunc_I_int64__i_areLetters_1 (p0 : (List Int)) (c1_0 : Int) : Option (Int) :=
  Option.bind (cntM (slices_IndexFunc_I_int64__i_areLetters_1_b0 p0 c1_0) p0.length 0 ()) fun q2 =>
  aft (fun r => some r) (fun s3 =>
    some ((-1) : Int)) q2

/- slices.ContainsFunc[[]int64,int64] -/

def slices_ContainsFunc_I_int64__i_areLetters_1 (p0 : (List Int)) (c1_0 : Int) : Option (Bool) :=
  Option.bind (slices_IndexFunc_I_int64__i_areLetters_1 p0 c1_0) fun x7 =>
  some (decide (0 ≤ x7) : Bool)

/- loop.example/g00869/impl.areLetters -/

def i_areLetters (p0 : (List Int)) (p1 : Int) : Option (Bool) :=
  Option.bind (slices_ContainsFunc_I_int64__i_areLetters_1 p0 p1) fun x7 =>
  some ((!x7) : Bool)

/- loop.example/g00869/impl.isMachine -/
def i_isMachine_b0 (p0 : Sig) (p1 : Machine) (v29 : Int) (s1 : Unit) : Option (Bool ⊕ ((Unit) ⊕ (Unit))) :=
  Option.bind (idx p1.Next v29) fun x32 =>
  Option.bind (i_inputsOf p0) fun x37 =>
  Option.bind (bif ((x32.length : Int) != x37) then
  some true
  else
  Option.bind (idx p1.Out v29) fun x43 =>
  some ((x43.length : Int) != (x32.length : Int))) fun p49 =>
  Option.bind (bif p49 then
  some true
  else
  Option.bind (i_areLetters x32 (p1.Next.length : Int)) fun x53 =>
  some (!x53)) fun p55 =>
  Option.bind (bif p55 then
  some true
  else
  Option.bind (idx p1.Out v29) fun x60 =>
  Option.bind (nn p0.Out) fun _z64 =>
  Option.bind (i_areLetters x60 (IntKind.i64.wrap (1 * 2 ^ (min (Int.toNat p0.Out) (IntKind.bits IntKind.i64))))) fun x65 =>
  some (!x65)) fun p67 =>
  bif p67 then
    some (.inl (false : Bool))
  else
    some (.inr (.inr ()))
def i_isMachine (p0 : Sig) (p1 : Machine) : Option (Bool) :=
  Option.bind (bif decide ((p1.Next.length : Int) < 1) then
  some true
  else
  some (decide (48 < (p1.Next.length : Int)))) fun p16 =>
  Option.bind (bif p16 then
  some true
  else
  some ((p1.Out.length : Int) != (p1.Next.length : Int))) fun p25 =>
  bif p25 then
    some (false : Bool)
  else
    Option.bind (cntM (i_isMachine_b0 p0 p1) p1.Next.length 0 ()) fun q2 =>
    aft (fun r => some r) (fun s3 =>
      some (true : Bool)) q2

/- (*loop.example/g00869/impl.builder).learn -/

def i_builder_learn (p0 : builder) (p1 : Gate) (p2 : Int) : Option ((List (Gate × Int))) :=
  Option.bind (mget kwGate p0.known ((⟨(if p1.B < p1.A then p1.B else p1.A), (if p1.A < p1.B then p1.B else p1.A)⟩ : Gate) : Gate) (0 : Int)) fun x25 =>
  Option.bind (bif (!x25.2) then
    Option.bind (mset kwGate p0.known ((⟨(if p1.B < p1.A then p1.B else p1.A), (if p1.A < p1.B then p1.B else p1.A)⟩ : Gate) : Gate) p2) fun y16 =>
    some (y16 : (List (Gate × Int)))
  else
    some (p0.known : (List (Gate × Int)))) fun q1 =>
  some (q1 : (List (Gate × Int)))

/- loop.example/g00869/impl.newBuilder -/
def i_newBuilder_b0 (p0 : Circuit) (x10 : (List Int)) (x15 : (List Gate)) (x20 : (List Int)) (v35 : Int) (s1 : (List (Gate × Int))) : Option (builder ⊕ (((List (Gate × Int))) ⊕ ((List (Gate × Int))))) :=
  Option.bind (idx x15 v35) fun x38 =>
  Option.bind (i_builder_learn (⟨(⟨p0.Inputs, p0.Latches, x10, x15, x20⟩ : Circuit), false, s1⟩ : builder) x38 (IntKind.i64.wrap (2 * (IntKind.i64.wrap ((IntKind.i64.wrap ((IntKind.i64.wrap (1 + p0.Inputs)) + p0.Latches)) + v35))))) fun x46 =>
  some (.inr (.inr (x46 : (List (Gate × Int)))))
def i_newBuilder (p0 : Circuit) : Option (builder) :=
  Option.bind (appS 8 ([] : List Int) p0.Next) fun x10 =>
  Option.bind (appS 16 ([] : List Gate) p0.Gates) fun x15 =>
  Option.bind (appS 8 ([] : List Int) p0.Outs) fun x20 =>
  Option.bind (cntM (i_newBuilder_b0 p0 x10 x15 x20) x15.length 0 (([] : List (Gate × Int)) : (List (Gate × Int)))) fun q2 =>
  aft (fun r => some r) (fun s3 =>
    some ((⟨(⟨p0.Inputs, p0.Latches, x10, x15, x20⟩ : Circuit), false, s3⟩ : builder) : builder)) q2

/- loop.example/g00869/impl.CircuitOf$1 -/
def i_CircuitOf_1_b0 (p0 : (List (List Int))) (p1 : Int) (c0 : Int) (c2 : Int) (v15 : Int) (s1 : (List Bool)) : Option ((List Bool) ⊕ (((List Bool)) ⊕ ((List Bool)))) :=
  Option.bind (nz c0) fun _z20 =>
  Option.bind (bif decide (c2 ≤ (IntKind.i64.wrap (Int.tdiv v15 c0))) then
    some (0 : Int)
  else
    some ((IntKind.i64.wrap (Int.tdiv v15 c0)) : Int)) fun q4 =>
  Option.bind (idx p0 q4) fun x27 =>
  Option.bind (nz c0) fun _z31 =>
  Option.bind (idx x27 (Int.tmod v15 c0)) fun x32 =>
  Option.bind (nn p1) fun _z35 =>
  Option.bind (appS 1 s1 ([((IntKind.i64.wrap (BitVec.toNat (BitVec.ofInt (IntKind.bits IntKind.i64) (Int.fdiv x32 (2 ^ (min (Int.toNat p1) (IntKind.bits IntKind.i64)))) &&& BitVec.ofInt (IntKind.bits IntKind.i64) 1))) == 1)] : List Bool)) fun x39 =>
  some (.inr (.inr (x39 : (List Bool))))
def i_CircuitOf_1 (p0 : (List (List Int))) (p1 : Int) (c0 : Int) (c1 : Int) (c2 : Int) : Option ((List Bool)) :=
  Option.bind (nn c1) fun _z14 =>
  Option.bind (rng (IntKind.i64.wrap (c0 * 2 ^ (min (Int.toNat c1) (IntKind.bits IntKind.i64))))) fun _ =>
  Option.bind (cntM (i_CircuitOf_1_b0 p0 p1 c0 c2) (Int.toNat ((IntKind.i64.wrap (c0 * 2 ^ (min (Int.toNat c1) (IntKind.bits IntKind.i64)))) - 0)) 0 (([] : List Bool) : (List Bool))) fun q2 =>
  aft (fun r => some r) (fun s3 =>
    some (s3 : (List Bool))) q2

/- slices.Index[[]bool,bool] -/
def slices_Index_bool_bool_b0 (p0 : (List Bool)) (p1 : Bool) (v8 : Int) (s1 : Unit) : Option (Int ⊕ ((Unit) ⊕ (Unit))) :=
  Option.bind (idx p0 v8) fun x14 =>
  bif (p1 == x14) then
    some (.inl (v8 : Int))
  else
    some (.inr (.inr ()))
def slices_Index_bool_bool (p0 : (List Bool)) (p1 : Bool) : Option (Int) :=
  Option.bind (cntM (slices_Index_bool_bool_b0 p0 p1) p0.length 0 ()) fun q2 =>
  aft (fun r => some r) (fun s3 =>
    some ((-1) : Int)) q2

/- slices.Contains[[]bool,bool] -/

def slices_Contains_bool_bool (p0 : (List Bool)) (p1 : Bool) : Option (Bool) :=
  Option.bind (slices_Index_bool_bool p0 p1) fun x7 =>
  some (decide (0 ≤ x7) : Bool)

/- loop.example/g00869/impl.signalsOf -/

def i_signalsOf (p0 : Circuit) : Option (Int) :=
  some ((IntKind.i64.wrap ((IntKind.i64.wrap ((IntKind.i64.wrap (1 + p0.Inputs)) + p0.Latches)) + (p0.Gates.length : Int))) : Int)

/- (*loop.example/g00869/impl.builder).join -/

def i_builder_join (p0 : builder) (p1 : Int) (p2 : Int) : Option (Int × (List Gate) × Bool × (List (Gate × Int))) :=
  Option.bind (bif (p1 == 0) then
  some true
  else
  some (p2 == 0)) fun p17 =>
  Option.bind (bif p17 then
  some true
  else
  some (p1 == (IntKind.i64.wrap (BitVec.toNat (BitVec.ofInt (IntKind.bits IntKind.i64) p2 ^^^ BitVec.ofInt (IntKind.bits IntKind.i64) 1))))) fun p23 =>
  bif p23 then
    some ((0 : Int), (p0.c.Gates : (List Gate)), (p0.full : Bool), (p0.known : (List (Gate × Int))))
  else
    bif (p1 == 1) then
      some ((p2 : Int), (p0.c.Gates : (List Gate)), (p0.full : Bool), (p0.known : (List (Gate × Int))))
    else
      Option.bind (bif (p2 == 1) then
      some true
      else
      some (p1 == p2)) fun p35 =>
      bif p35 then
        some ((p1 : Int), (p0.c.Gates : (List Gate)), (p0.full : Bool), (p0.known : (List (Gate × Int))))
      else
        Option.bind (mget kwGate p0.known ((⟨(if p2 < p1 then p2 else p1), (if p1 < p2 then p2 else p1)⟩ : Gate) : Gate) (0 : Int)) fun x50 =>
        bif x50.2 then
          some ((x50.1 : Int), (p0.c.Gates : (List Gate)), (p0.full : Bool), (p0.known : (List (Gate × Int))))
        else
          bif decide (8000 ≤ (p0.c.Gates.length : Int)) then
            some ((0 : Int), (p0.c.Gates : (List Gate)), (true : Bool), (p0.known : (List (Gate × Int))))
          else
            Option.bind (i_signalsOf p0.c) fun x69 =>
            Option.bind (appS 16 p0.c.Gates ([(⟨(if p2 < p1 then p2 else p1), (if p1 < p2 then p2 else p1)⟩ : Gate)] : List Gate)) fun x79 =>
            Option.bind (i_builder_learn (⟨(⟨p0.c.Inputs, p0.c.Latches, p0.c.Next, x79, p0.c.Outs⟩ : Circuit), p0.full, p0.known⟩ : builder) (⟨(if p2 < p1 then p2 else p1), (if p1 < p2 then p2 else p1)⟩ : Gate) (IntKind.i64.wrap (2 * x69))) fun x86 =>
            some (((IntKind.i64.wrap (2 * x69)) : Int), (x79 : (List Gate)), (p0.full : Bool), (x86 : (List (Gate × Int))))

/- (*loop.example/g00869/impl.builder).choose -/

def i_builder_choose (p0 : builder) (p1 : Int) (p2 : Int) (p3 : Int) : Option (Int × (List Gate) × Bool × (List (Gate × Int))) :=
  bif (p2 == p3) then
    some ((p2 : Int), (p0.c.Gates : (List Gate)), (p0.full : Bool), (p0.known : (List (Gate × Int))))
  else
    Option.bind (i_builder_join p0 p1 p2) fun x18 =>
    Option.bind (i_builder_join (⟨(⟨p0.c.Inputs, p0.c.Latches, p0.c.Next, x18.2.1, p0.c.Outs⟩ : Circuit), x18.2.2.1, x18.2.2.2⟩ : builder) (IntKind.i64.wrap (BitVec.toNat (BitVec.ofInt (IntKind.bits IntKind.i64) p1 ^^^ BitVec.ofInt (IntKind.bits IntKind.i64) 1))) p3) fun x23 =>
    Option.bind (i_builder_join (⟨(⟨p0.c.Inputs, p0.c.Latches, p0.c.Next, x23.2.1, p0.c.Outs⟩ : Circuit), x23.2.2.1, x23.2.2.2⟩ : builder) (IntKind.i64.wrap (BitVec.toNat (BitVec.ofInt (IntKind.bits IntKind.i64) x18.1 ^^^ BitVec.ofInt (IntKind.bits IntKind.i64) 1))) (IntKind.i64.wrap (BitVec.toNat (BitVec.ofInt (IntKind.bits IntKind.i64) x23.1 ^^^ BitVec.ofInt (IntKind.bits IntKind.i64) 1)))) fun x29 =>
    some (((IntKind.i64.wrap (BitVec.toNat (BitVec.ofInt (IntKind.bits IntKind.i64) x29.1 ^^^ BitVec.ofInt (IntKind.bits IntKind.i64) 1))) : Int), (x29.2.1 : (List Gate)), (x29.2.2.1 : Bool), (x29.2.2.2 : (List (Gate × Int))))

/- (*loop.example/g00869/impl.builder).literalOf -/
def i_builder_literalOf_b0 (p1 : (List Bool)) (s1 : Int) : Option ((Int × (List Gate) × Bool × (List (Gate × Int))) ⊕ ((Int) ⊕ (Int))) :=
  Option.bind (nn s1) fun _z16 =>
  bif decide ((IntKind.i64.wrap (2 * 2 ^ (min (Int.toNat s1) (IntKind.bits IntKind.i64)))) < (p1.length : Int)) then
    some (.inr (.inr ((IntKind.i64.wrap (s1 + 1)) : Int)))
  else
    some (.inr (.inl (s1 : Int)))
def i_builder_literalOf_s (rc : builder → (List Bool) → Option (Int × (List Gate) × Bool × (List (Gate × Int)))) (p0 : builder) (p1 : (List Bool)) : Option (Int × (List Gate) × Bool × (List (Gate × Int))) :=
  Option.bind (slices_Contains_bool_bool p1 true) fun x10 =>
  bif (!x10) then
    some ((0 : Int), (p0.c.Gates : (List Gate)), (p0.full : Bool), (p0.known : (List (Gate × Int))))
  else
    Option.bind (slices_Contains_bool_bool p1 false) fun x13 =>
    bif (!x13) then
      some ((1 : Int), (p0.c.Gates : (List Gate)), (p0.full : Bool), (p0.known : (List (Gate × Int))))
    else
      Option.bind (whileM (i_builder_literalOf_b0 p1) (2 ^ 64) (0 : Int)) fun q2 =>
      aft (fun r => some r) (fun s3 =>
        Option.bind (subS p1 (IntKind.i64.wrap (Int.tdiv (p1.length : Int) 2)) (p1.length : Int)) fun x30 =>
        Option.bind (rc p0 x30) fun x31 =>
        Option.bind (subS p1 0 (IntKind.i64.wrap (Int.tdiv (p1.length : Int) 2))) fun x37 =>
        Option.bind (rc (⟨(⟨p0.c.Inputs, p0.c.Latches, p0.c.Next, x31.2.1, p0.c.Outs⟩ : Circuit), x31.2.2.1, x31.2.2.2⟩ : builder) x37) fun x38 =>
        Option.bind (i_builder_choose (⟨(⟨p0.c.Inputs, p0.c.Latches, p0.c.Next, x38.2.1, p0.c.Outs⟩ : Circuit), x38.2.2.1, x38.2.2.2⟩ : builder) (IntKind.i64.wrap (2 * (IntKind.i64.wrap (1 + s3)))) x31.1 x38.1) fun x43 =>
        some ((x43.1 : Int), (x43.2.1 : (List Gate)), (x43.2.2.1 : Bool), (x43.2.2.2 : (List (Gate × Int))))) q2
def i_builder_literalOf : Nat → builder → (List Bool) → Option (Int × (List Gate) × Bool × (List (Gate × Int)))
  | 0 => fun _ _ => none
  | n + 1 => i_builder_literalOf_s (i_builder_literalOf n)

/- loop.example/g00869/impl.CircuitOf -/
def i_CircuitOf_b0 (p1 : Machine) (s1 : Int) : Option ((Circuit × Bool) ⊕ ((Int) ⊕ (Int))) :=
  Option.bind (nn s1) fun _z31 =>
  bif decide ((IntKind.i64.wrap (1 * 2 ^ (min (Int.toNat s1) (IntKind.bits IntKind.i64)))) < (p1.Next.length : Int)) then
    some (.inr (.inr ((IntKind.i64.wrap (s1 + 1)) : Int)))
  else
    some (.inr (.inl (s1 : Int)))
def i_CircuitOf_b2 (p1 : Machine) (x29 : Int) (s3 : Int) (x42 : builder) (v47 : Int) (s4 : (List Int) × (List Gate) × Bool × (List (Gate × Int))) : Option ((Circuit × Bool) ⊕ (((List Int) × (List Gate) × Bool × (List (Gate × Int))) ⊕ ((List Int) × (List Gate) × Bool × (List (Gate × Int))))) :=
  Option.bind (i_CircuitOf_1 p1.Next v47 x29 s3 (p1.Next.length : Int)) fun x56 =>
  Option.bind (i_builder_literalOf (2 ^ 64) (⟨(⟨x42.c.Inputs, x42.c.Latches, x42.c.Next, s4.2.1, x42.c.Outs⟩ : Circuit), s4.2.2.1, s4.2.2.2⟩ : builder) x56) fun x57 =>
  Option.bind (appS 8 s4.1 ([x57.1] : List Int)) fun x59 =>
  some (.inr (.inr ((x59 : (List Int)), (x57.2.1 : (List Gate)), (x57.2.2.1 : Bool), (x57.2.2.2 : (List (Gate × Int))))))
def i_CircuitOf_b4 (p1 : Machine) (x29 : Int) (s3 : Int) (x42 : builder) (v63 : Int) (s7 : (List Int) × (List Gate) × Bool × (List (Gate × Int))) : Option ((Circuit × Bool) ⊕ (((List Int) × (List Gate) × Bool × (List (Gate × Int))) ⊕ ((List Int) × (List Gate) × Bool × (List (Gate × Int))))) :=
  Option.bind (i_CircuitOf_1 p1.Out v63 x29 s3 (p1.Next.length : Int)) fun x72 =>
  Option.bind (i_builder_literalOf (2 ^ 64) (⟨(⟨x42.c.Inputs, x42.c.Latches, x42.c.Next, s7.2.1, x42.c.Outs⟩ : Circuit), s7.2.2.1, s7.2.2.2⟩ : builder) x72) fun x73 =>
  Option.bind (appS 8 s7.1 ([x73.1] : List Int)) fun x75 =>
  some (.inr (.inr ((x75 : (List Int)), (x73.2.1 : (List Gate)), (x73.2.2.1 : Bool), (x73.2.2.2 : (List (Gate × Int))))))
def i_CircuitOf (p0 : Sig) (p1 : Machine) : Option (Circuit × Bool) :=
  Option.bind (i_isSig p0) fun x16 =>
  Option.bind (bif (!x16) then
  some true
  else
  Option.bind (i_isMachine p0 p1) fun x21 =>
  some (!x21)) fun p23 =>
  bif p23 then
    some (((⟨0, 0, ([] : List Int), ([] : List Gate), ([] : List Int)⟩ : Circuit) : Circuit), (false : Bool))
  else
    Option.bind (i_inputsOf p0) fun x29 =>
    Option.bind (whileM (i_CircuitOf_b0 p1) (2 ^ 64) (0 : Int)) fun q2 =>
    aft (fun r => some r) (fun s3 =>
      Option.bind (mkS 8 s3 (0 : Int)) fun x40 =>
      Option.bind (i_newBuilder (⟨p0.In, s3, x40, ([] : List Gate), ([] : List Int)⟩ : Circuit)) fun x42 =>
      Option.bind (rng s3) fun _ =>
      Option.bind (cntM (i_CircuitOf_b2 p1 x29 s3 x42) (Int.toNat (s3 - 0)) 0 ((([] : List Int) : (List Int)), (x42.c.Gates : (List Gate)), (x42.full : Bool), (x42.known : (List (Gate × Int))))) fun q5 =>
      aft (fun r => some r) (fun s6 =>
        Option.bind (rng p0.Out) fun _ =>
        Option.bind (cntM (i_CircuitOf_b4 p1 x29 s3 x42) (Int.toNat (p0.Out - 0)) 0 ((([] : List Int) : (List Int)), (s6.2.1 : (List Gate)), (s6.2.2.1 : Bool), (s6.2.2.2 : (List (Gate × Int))))) fun q8 =>
        aft (fun r => some r) (fun s9 =>
          bif s9.2.2.1 then
            some (((⟨0, 0, ([] : List Int), ([] : List Gate), ([] : List Int)⟩ : Circuit) : Circuit), (false : Bool))
          else
            some (((⟨x42.c.Inputs, x42.c.Latches, s6.1, s9.2.1, s9.1⟩ : Circuit) : Circuit), (true : Bool))) q8) q5) q2

/- loop.example/g00869/laws.eqInt64S -/
def l_eqInt64S_b0 (p0 : (List Int)) (p1 : (List Int)) (v5 : Int) (s1 : Unit) : Option (Bool ⊕ ((Unit) ⊕ (Unit))) :=
  Option.bind (idx p0 v5) fun x19 =>
  Option.bind (idx p1 v5) fun x23 =>
  bif (x19 != x23) then
    some (.inl (false : Bool))
  else
    some (.inr (.inr ()))
def l_eqInt64S (p0 : (List Int)) (p1 : (List Int)) : Option (Bool) :=
  bif ((p0.length : Int) != (p1.length : Int)) then
    some (false : Bool)
  else
    Option.bind (cntM (l_eqInt64S_b0 p0 p1) p0.length 0 ()) fun q2 =>
    aft (fun r => some r) (fun s3 =>
      some (true : Bool)) q2

/- loop.example/g00869/laws.eqGate -/

def l_eqGate (p0 : Gate) (p1 : Gate) : Option (Bool) :=
  bif (p0.A != p1.A) then
    some (false : Bool)
  else
    bif (p0.B != p1.B) then
      some (false : Bool)
    else
      some (true : Bool)

/- loop.example/g00869/laws.eqGateS -/
def l_eqGateS_b0 (p0 : (List Gate)) (p1 : (List Gate)) (v5 : Int) (s1 : Unit) : Option (Bool ⊕ ((Unit) ⊕ (Unit))) :=
  Option.bind (idx p0 v5) fun x19 =>
  Option.bind (idx p1 v5) fun x23 =>
  Option.bind (l_eqGate x19 x23) fun x25 =>
  bif (!x25) then
    some (.inl (false : Bool))
  else
    some (.inr (.inr ()))
def l_eqGateS (p0 : (List Gate)) (p1 : (List Gate)) : Option (Bool) :=
  bif ((p0.length : Int) != (p1.length : Int)) then
    some (false : Bool)
  else
    Option.bind (cntM (l_eqGateS_b0 p0 p1) p0.length 0 ()) fun q2 =>
    aft (fun r => some r) (fun s3 =>
      some (true : Bool)) q2

/- loop.example/g00869/laws.eqCircuit -/

def l_eqCircuit (p0 : Circuit) (p1 : Circuit) : Option (Bool) :=
  bif (p0.Inputs != p1.Inputs) then
    some (false : Bool)
  else
    bif (p0.Latches != p1.Latches) then
      some (false : Bool)
    else
      Option.bind (l_eqInt64S p0.Next p1.Next) fun x19 =>
      bif (!x19) then
        some (false : Bool)
      else
        Option.bind (l_eqGateS p0.Gates p1.Gates) fun x25 =>
        bif (!x25) then
          some (false : Bool)
        else
          Option.bind (l_eqInt64S p0.Outs p1.Outs) fun x31 =>
          bif (!x31) then
            some (false : Bool)
          else
            some (true : Bool)

/- loop.example/g00869/laws.eqInt64SS -/
def l_eqInt64SS_b0 (p0 : (List (List Int))) (p1 : (List (List Int))) (v5 : Int) (s1 : Unit) : Option (Bool ⊕ ((Unit) ⊕ (Unit))) :=
  Option.bind (idx p0 v5) fun x19 =>
  Option.bind (idx p1 v5) fun x23 =>
  Option.bind (l_eqInt64S x19 x23) fun x25 =>
  bif (!x25) then
    some (.inl (false : Bool))
  else
    some (.inr (.inr ()))
def l_eqInt64SS (p0 : (List (List Int))) (p1 : (List (List Int))) : Option (Bool) :=
  bif ((p0.length : Int) != (p1.length : Int)) then
    some (false : Bool)
  else
    Option.bind (cntM (l_eqInt64SS_b0 p0 p1) p0.length 0 ()) fun q2 =>
    aft (fun r => some r) (fun s3 =>
      some (true : Bool)) q2

/- loop.example/g00869/laws.eqMachine -/

def l_eqMachine (p0 : Machine) (p1 : Machine) : Option (Bool) :=
  Option.bind (l_eqInt64SS p0.Next p1.Next) fun x9 =>
  bif (!x9) then
    some (false : Bool)
  else
    Option.bind (l_eqInt64SS p0.Out p1.Out) fun x15 =>
    bif (!x15) then
      some (false : Bool)
    else
      some (true : Bool)

/- loop.example/g00869/laws.markInt64S -/
def l_markInt64S_b0  (v5 : Int) (s1 : Int × (List Int)) : Option ((Int × (List Int)) ⊕ ((Int × (List Int)) ⊕ (Int × (List Int)))) :=
  Option.bind (idx s1.2 v5) fun x15 =>
  Option.bind (setI s1.2 v5 s1.1) fun y24 =>
  some (.inr (.inr (((IntKind.i64.wrap (s1.1 + 1)) : Int), (y24 : (List Int)))))
def l_markInt64S (p0 : (List Int)) (p1 : Int) : Option (Int × (List Int)) :=
  Option.bind (cntM l_markInt64S_b0 p0.length 0 ((p1 : Int), (p0 : (List Int)))) fun q2 =>
  aft (fun r => some r) (fun s3 =>
    some ((s3.1 : Int), (s3.2 : (List Int)))) q2

/- loop.example/g00869/laws.markInt64SS -/
def l_markInt64SS_b0  (v5 : Int) (s1 : Int × (List (List Int))) : Option ((Int × (List (List Int))) ⊕ ((Int × (List (List Int))) ⊕ (Int × (List (List Int))))) :=
  Option.bind (idx s1.2 v5) fun x14 =>
  Option.bind (l_markInt64S x14 s1.1) fun x17 =>
  Option.bind (setI s1.2 v5 x17.2) fun yb25 =>
  some (.inr (.inr ((x17.1 : Int), (yb25 : (List (List Int))))))
def l_markInt64SS (p0 : (List (List Int))) (p1 : Int) : Option (Int × (List (List Int))) :=
  Option.bind (cntM l_markInt64SS_b0 p0.length 0 ((p1 : Int), (p0 : (List (List Int))))) fun q2 =>
  aft (fun r => some r) (fun s3 =>
    some ((s3.1 : Int), (s3.2 : (List (List Int))))) q2

/- loop.example/g00869/laws.markMachine -/

def l_markMachine (p0 : Machine) (p1 : Int) : Option (Int × (List (List Int)) × (List (List Int))) :=
  Option.bind (l_markInt64SS p0.Next p1) fun x8 =>
  Option.bind (l_markInt64SS p0.Out x8.1) fun x12 =>
  some ((x12.1 : Int), (x8.2 : (List (List Int))), (x12.2 : (List (List Int))))

/- loop.example/g00869/laws.markGateS -/
def l_markGateS_b0  (v5 : Int) (s1 : Int × (List Gate)) : Option ((Int × (List Gate)) ⊕ ((Int × (List Gate)) ⊕ (Int × (List Gate)))) :=
  Option.bind (idx s1.2 v5) fun x15 =>
  Option.bind (setI s1.2 v5 ((⟨s1.1, x15.B⟩ : Gate) : Gate)) fun y26 =>
  Option.bind (idx y26 v5) fun x22 =>
  Option.bind (setI y26 v5 ((⟨x22.A, (IntKind.i64.wrap (s1.1 + 1))⟩ : Gate) : Gate)) fun y27 =>
  some (.inr (.inr (((IntKind.i64.wrap ((IntKind.i64.wrap (s1.1 + 1)) + 1)) : Int), (y27 : (List Gate)))))
def l_markGateS (p0 : (List Gate)) (p1 : Int) : Option (Int × (List Gate)) :=
  Option.bind (cntM l_markGateS_b0 p0.length 0 ((p1 : Int), (p0 : (List Gate)))) fun q2 =>
  aft (fun r => some r) (fun s3 =>
    some ((s3.1 : Int), (s3.2 : (List Gate)))) q2

/- loop.example/g00869/laws.markCircuit -/

def l_markCircuit (p0 : Circuit) (p1 : Int) : Option (Int × (List Int) × (List Gate) × (List Int)) :=
  Option.bind (l_markInt64S p0.Next p1) fun x8 =>
  Option.bind (l_markGateS p0.Gates x8.1) fun x12 =>
  Option.bind (l_markInt64S p0.Outs x12.1) fun x16 =>
  some ((x16.1 : Int), (x8.2 : (List Int)), (x12.2 : (List Gate)), (x16.2 : (List Int)))

/- loop.example/g00869/laws.heldInt64S -/
def l_heldInt64S_b0 (p0 : (List Int)) (v5 : Int) (s1 : Int) : Option (Int ⊕ ((Int) ⊕ (Int))) :=
  Option.bind (idx p0 v5) fun x14 =>
  bif (x14 != s1) then
    some (.inl ((-1) : Int))
  else
    some (.inr (.inr ((IntKind.i64.wrap (s1 + 1)) : Int)))
def l_heldInt64S (p0 : (List Int)) (p1 : Int) : Option (Int) :=
  Option.bind (cntM (l_heldInt64S_b0 p0) p0.length 0 (p1 : Int)) fun q2 =>
  aft (fun r => some r) (fun s3 =>
    some (s3 : Int)) q2

/- loop.example/g00869/laws.heldGateS -/
def l_heldGateS_b0 (p0 : (List Gate)) (v5 : Int) (s1 : Int) : Option (Int ⊕ ((Int) ⊕ (Int))) :=
  Option.bind (idx p0 v5) fun x14 =>
  bif (x14.A != s1) then
    some (.inl ((-1) : Int))
  else
    Option.bind (idx p0 v5) fun x23 =>
    bif (x23.B != (IntKind.i64.wrap (s1 + 1))) then
      some (.inl ((-1) : Int))
    else
      some (.inr (.inr ((IntKind.i64.wrap ((IntKind.i64.wrap (s1 + 1)) + 1)) : Int)))
def l_heldGateS (p0 : (List Gate)) (p1 : Int) : Option (Int) :=
  Option.bind (cntM (l_heldGateS_b0 p0) p0.length 0 (p1 : Int)) fun q2 =>
  aft (fun r => some r) (fun s3 =>
    some (s3 : Int)) q2

/- loop.example/g00869/laws.heldCircuit -/

def l_heldCircuit (p0 : Circuit) (p1 : Int) : Option (Int) :=
  Option.bind (l_heldInt64S p0.Next p1) fun x8 =>
  bif decide (x8 < 0) then
    some ((-1) : Int)
  else
    Option.bind (l_heldGateS p0.Gates x8) fun x14 =>
    bif decide (x14 < 0) then
      some ((-1) : Int)
    else
      Option.bind (l_heldInt64S p0.Outs x14) fun x20 =>
      bif decide (x20 < 0) then
        some ((-1) : Int)
      else
        some (x20 : Int)

/- loop.example/g00869/laws.FnExactCircuitOf -/

def l_FnExactCircuitOf (p0 : Sig) (p1 : Machine) : Option (Bool) :=
  Option.bind (l_szMachine p1 1048576) fun x18 =>
  bif decide (x18 < 0) then
    some (true : Bool)
  else
    Option.bind (l_toSig p0) fun x23 =>
    Option.bind (l_toMachine p1) fun x25 =>
    Option.bind (s_CircuitOf x23 x25) fun x26 =>
    Option.bind (l_toMachine p1) fun x30 =>
    Option.bind (l_toSig p0) fun x33 =>
    Option.bind (i_CircuitOf x33 x30) fun x35 =>
    Option.bind (l_eqCircuit x35.1 x26.1) fun x40 =>
    Option.bind (bif (!x40) then
    some true
    else
    some (x35.2 != x26.2)) fun p46 =>
    bif p46 then
      some (false : Bool)
    else
      Option.bind (l_toMachine p1) fun x49 =>
      Option.bind (l_eqMachine x30 x49) fun x50 =>
      bif (!x50) then
        some (false : Bool)
      else
        Option.bind (l_markMachine x30 1) fun x54 =>
        Option.bind (bif decide (x54.1 < 0) then
        some true
        else
        Option.bind (l_eqCircuit x35.1 x26.1) fun x60 =>
        some (!x60)) fun p62 =>
        Option.bind (bif p62 then
        some true
        else
        some (x35.2 != x26.2)) fun p67 =>
        bif p67 then
          some (false : Bool)
        else
          Option.bind (l_markCircuit x35.1 1) fun x70 =>
          Option.bind (l_heldCircuit (⟨x35.1.Inputs, x35.1.Latches, x70.2.1, x70.2.2.1, x70.2.2.2⟩ : Circuit) 1) fun x73 =>
          bif decide (x73 < 0) then
            some (false : Bool)
          else
            bif (x73 != x70.1) then
              some (false : Bool)
            else
              Option.bind (l_toSig p0) fun x81 =>
              Option.bind (l_toMachine p1) fun x83 =>
              Option.bind (i_CircuitOf x81 x83) fun x84 =>
              Option.bind (l_eqCircuit x84.1 x26.1) fun x89 =>
              Option.bind (bif (!x89) then
              some true
              else
              some (x84.2 != x26.2)) fun p95 =>
              bif p95 then
                some (false : Bool)
              else
                Option.bind (l_heldCircuit (⟨x35.1.Inputs, x35.1.Latches, x70.2.1, x70.2.2.1, x70.2.2.2⟩ : Circuit) 1) fun x98 =>
                bif decide (x98 < 0) then
                  some (false : Bool)
                else
                  bif (x98 != x70.1) then
                    some (false : Bool)
                  else
                    some (true : Bool)

/- loop.example/g00869/spec.l31Literals -/
def s_l31Literals_b0 (p0 : (List Int)) (p1 : Int) (v5 : Int) (s1 : Unit) : Option (Bool ⊕ ((Unit) ⊕ (Unit))) :=
  Option.bind (idx p0 v5) fun x14 =>
  Option.bind (s_l1In x14 0 (IntKind.i64.wrap ((IntKind.i64.wrap (2 * p1)) - 1))) fun x19 =>
  bif (!x19) then
    some (.inl (false : Bool))
  else
    some (.inr (.inr ()))
def s_l31Literals (p0 : (List Int)) (p1 : Int) : Option (Bool) :=
  Option.bind (cntM (s_l31Literals_b0 p0 p1) p0.length 0 ()) fun q2 =>
  aft (fun r => some r) (fun s3 =>
    some (true : Bool)) q2

/- loop.example/g00869/spec.CircuitOk -/
def s_CircuitOk_b0 (p0 : Circuit) (v3 : Int) (s1 : Unit) : Option (Bool ⊕ ((Unit) ⊕ (Unit))) :=
  Option.bind (idx p0.Gates v3) fun x55 =>
  Option.bind (s_l1In x55.A 0 (IntKind.i64.wrap ((IntKind.i64.wrap (2 * (IntKind.i64.wrap ((IntKind.i64.wrap ((IntKind.i64.wrap (1 + p0.Inputs)) + p0.Latches)) + v3)))) - 1))) fun x59 =>
  Option.bind (bif (!x59) then
  some true
  else
  Option.bind (idx p0.Gates v3) fun x65 =>
  Option.bind (s_l1In x65.B 0 (IntKind.i64.wrap ((IntKind.i64.wrap (2 * (IntKind.i64.wrap ((IntKind.i64.wrap ((IntKind.i64.wrap (1 + p0.Inputs)) + p0.Latches)) + v3)))) - 1))) fun x69 =>
  some (!x69)) fun p71 =>
  bif p71 then
    some (.inl (false : Bool))
  else
    some (.inr (.inr ()))
def s_CircuitOk (p0 : Circuit) : Option (Bool) :=
  Option.bind (s_l1In p0.Inputs 0 4) fun x7 =>
  Option.bind (bif (!x7) then
  some true
  else
  Option.bind (s_l1In p0.Latches 0 6) fun x12 =>
  some (!x12)) fun p14 =>
  Option.bind (bif p14 then
  some true
  else
  some (decide (8000 < (p0.Gates.length : Int)))) fun p20 =>
  Option.bind (bif p20 then
  some true
  else
  some (decide (4 < (p0.Outs.length : Int)))) fun p26 =>
  Option.bind (bif p26 then
  some true
  else
  some ((p0.Next.length : Int) != p0.Latches)) fun p34 =>
  bif p34 then
    some (false : Bool)
  else
    Option.bind (cntM (s_CircuitOk_b0 p0) p0.Gates.length 0 ()) fun q2 =>
    aft (fun r => some r) (fun s3 =>
      Option.bind (s_l31Signals p0) fun x75 =>
      Option.bind (s_l31Literals p0.Next x75) fun x76 =>
      Option.bind (bif x76 then
      Option.bind (s_l31Signals p0) fun x81 =>
      Option.bind (s_l31Literals p0.Outs x81) fun x82 =>
      some x82
      else
      some false) fun p83 =>
      some (p83 : Bool)) q2

/- loop.example/g00869/spec.l31Fits -/

def s_l31Fits (p0 : Sig) (p1 : Circuit) : Option (Bool) :=
  Option.bind (s_CircuitOk p1) fun x6 =>
  Option.bind (bif x6 then
  some (p1.Inputs == p0.In)
  else
  some false) fun p13 =>
  Option.bind (bif p13 then
  some ((p1.Outs.length : Int) == p0.Out)
  else
  some false) fun p21 =>
  some (p21 : Bool)

/- loop.example/g00869/spec.l31True -/

def s_l31True (p0 : (List Bool)) (p1 : Int) : Option (Bool) :=
  Option.bind (idx p0 (IntKind.i64.wrap (Int.tdiv p1 2))) fun x8 =>
  some ((x8 != ((Int.tmod p1 2) == 1)) : Bool)

/- loop.example/g00869/spec.l31Number -/
def s_l31Number_b0 (p0 : (List Bool)) (p1 : (List Int)) (v6 : Int) (s1 : Int) : Option (Int ⊕ ((Int) ⊕ (Int))) :=
  Option.bind (idx p1 v6) fun x16 =>
  Option.bind (s_l31True p0 x16) fun x18 =>
  Option.bind (bif x18 then
    Option.bind (s_l31Pow v6) fun x21 =>
    some ((IntKind.i64.wrap (s1 + x21)) : Int)
  else
    some (s1 : Int)) fun q4 =>
  some (.inr (.inr (q4 : Int)))
def s_l31Number (p0 : (List Bool)) (p1 : (List Int)) : Option (Int) :=
  Option.bind (cntM (s_l31Number_b0 p0 p1) p1.length 0 (0 : Int)) fun q2 =>
  aft (fun r => some r) (fun s3 =>
    some (s3 : Int)) q2

/- loop.example/g00869/spec.l31Step -/
def s_l31Step_b0 (p2 : Int) (v9 : Int) (s1 : (List Bool)) : Option ((Int × Int) ⊕ (((List Bool)) ⊕ ((List Bool)))) :=
  Option.bind (s_l31Pow v9) fun x22 =>
  Option.bind (nz x22) fun _z23 =>
  Option.bind (appS 1 s1 ([((Int.tmod (IntKind.i64.wrap (Int.tdiv p2 x22)) 2) == 1)] : List Bool)) fun x27 =>
  some (.inr (.inr (x27 : (List Bool))))
def s_l31Step_b2 (p1 : Int) (v10 : Int) (s4 : (List Bool)) : Option ((Int × Int) ⊕ (((List Bool)) ⊕ ((List Bool)))) :=
  Option.bind (s_l31Pow v10) fun x37 =>
  Option.bind (nz x37) fun _z38 =>
  Option.bind (appS 1 s4 ([((Int.tmod (IntKind.i64.wrap (Int.tdiv p1 x37)) 2) == 1)] : List Bool)) fun x42 =>
  some (.inr (.inr (x42 : (List Bool))))
def s_l31Step_b4 (p0 : Circuit) (v11 : Int) (s7 : (List Bool)) : Option ((Int × Int) ⊕ (((List Bool)) ⊕ ((List Bool)))) :=
  Option.bind (idx p0.Gates v11) fun x55 =>
  Option.bind (s_l31True s7 x55.A) fun x58 =>
  Option.bind (bif x58 then
  Option.bind (idx p0.Gates v11) fun x64 =>
  Option.bind (s_l31True s7 x64.B) fun x67 =>
  some x67
  else
  some false) fun p68 =>
  Option.bind (appS 1 s7 ([p68] : List Bool)) fun x70 =>
  some (.inr (.inr (x70 : (List Bool))))
def s_l31Step (p0 : Circuit) (p1 : Int) (p2 : Int) : Option (Int × Int) :=
  Option.bind (rng p0.Inputs) fun _ =>
  Option.bind (cntM (s_l31Step_b0 p2) (Int.toNat (p0.Inputs - 0)) 0 (([false] : List Bool) : (List Bool))) fun q2 =>
  aft (fun r => some r) (fun s3 =>
    Option.bind (rng p0.Latches) fun _ =>
    Option.bind (cntM (s_l31Step_b2 p1) (Int.toNat (p0.Latches - 0)) 0 (s3 : (List Bool))) fun q5 =>
    aft (fun r => some r) (fun s6 =>
      Option.bind (cntM (s_l31Step_b4 p0) p0.Gates.length 0 (s6 : (List Bool))) fun q8 =>
      aft (fun r => some r) (fun s9 =>
        Option.bind (s_l31Number s9 p0.Next) fun x74 =>
        Option.bind (s_l31Number s9 p0.Outs) fun x78 =>
        some ((x74 : Int), (x78 : Int))) q8) q5) q2

/- loop.example/g00869/impl.isCircuit -/
def i_isCircuit_b0 (p0 : Circuit) (v53 : Int) (s1 : Unit) : Option (Bool ⊕ ((Unit) ⊕ (Unit))) :=
  Option.bind (idx p0.Gates v53) fun x56 =>
  Option.bind (i_areLetters ([x56.A, x56.B] : List Int) (IntKind.i64.wrap (2 * (IntKind.i64.wrap ((IntKind.i64.wrap ((IntKind.i64.wrap (1 + p0.Inputs)) + p0.Latches)) + v53))))) fun x67 =>
  bif (!x67) then
    some (.inl (false : Bool))
  else
    some (.inr (.inr ()))
def i_isCircuit (p0 : Circuit) : Option (Bool) :=
  Option.bind (bif decide (p0.Inputs < 0) then
  some true
  else
  some (decide (4 < p0.Inputs))) fun p13 =>
  Option.bind (bif p13 then
  some true
  else
  some (decide (p0.Latches < 0))) fun p18 =>
  Option.bind (bif p18 then
  some true
  else
  some (decide (6 < p0.Latches))) fun p23 =>
  Option.bind (bif p23 then
  some true
  else
  some ((p0.Next.length : Int) != p0.Latches)) fun p31 =>
  Option.bind (bif p31 then
  some true
  else
  some (decide (8000 < (p0.Gates.length : Int)))) fun p37 =>
  Option.bind (bif p37 then
  some true
  else
  some (decide (4 < (p0.Outs.length : Int)))) fun p43 =>
  bif p43 then
    some (false : Bool)
  else
    Option.bind (cntM (i_isCircuit_b0 p0) p0.Gates.length 0 ()) fun q2 =>
    aft (fun r => some r) (fun s3 =>
      Option.bind (i_signalsOf p0) fun x73 =>
      Option.bind (i_areLetters p0.Next (IntKind.i64.wrap (2 * x73))) fun x75 =>
      Option.bind (bif x75 then
      Option.bind (i_signalsOf p0) fun x80 =>
      Option.bind (i_areLetters p0.Outs (IntKind.i64.wrap (2 * x80))) fun x82 =>
      some x82
      else
      some false) fun p83 =>
      some (p83 : Bool)) q2

/- loop.example/g00869/impl.stepOf$1 -/

def i_stepOf_1 (p0 : Int) (c0 : (List Int)) : Option (Int) :=
  Option.bind (idx c0 (IntKind.i64.wrap (Int.tdiv p0 2))) fun x7 =>
  some ((IntKind.i64.wrap (BitVec.toNat (BitVec.ofInt (IntKind.bits IntKind.i64) x7 ^^^ BitVec.ofInt (IntKind.bits IntKind.i64) (IntKind.i64.wrap (BitVec.toNat (BitVec.ofInt (IntKind.bits IntKind.i64) p0 &&& BitVec.ofInt (IntKind.bits IntKind.i64) 1)))))) : Int)

/- loop.example/g00869/impl.stepOf -/
def i_stepOf_b0 (p2 : Int) (v25 : Int) (s1 : (List Int)) : Option ((Int × Int) ⊕ (((List Int)) ⊕ ((List Int)))) :=
  Option.bind (nn v25) fun _z31 =>
  Option.bind (appS 8 s1 ([(IntKind.i64.wrap (BitVec.toNat (BitVec.ofInt (IntKind.bits IntKind.i64) (Int.fdiv p2 (2 ^ (min (Int.toNat v25) (IntKind.bits IntKind.i64)))) &&& BitVec.ofInt (IntKind.bits IntKind.i64) 1)))] : List Int)) fun x34 =>
  some (.inr (.inr (x34 : (List Int))))
def i_stepOf_b2 (p1 : Int) (v38 : Int) (s4 : (List Int)) : Option ((Int × Int) ⊕ (((List Int)) ⊕ ((List Int)))) :=
  Option.bind (nn v38) fun _z44 =>
  Option.bind (appS 8 s4 ([(IntKind.i64.wrap (BitVec.toNat (BitVec.ofInt (IntKind.bits IntKind.i64) (Int.fdiv p1 (2 ^ (min (Int.toNat v38) (IntKind.bits IntKind.i64)))) &&& BitVec.ofInt (IntKind.bits IntKind.i64) 1)))] : List Int)) fun x47 =>
  some (.inr (.inr (x47 : (List Int))))
def i_stepOf_b4 (p0 : Circuit) (v53 : Int) (s7 : (List Int)) : Option ((Int × Int) ⊕ (((List Int)) ⊕ ((List Int)))) :=
  Option.bind (idx p0.Gates v53) fun x55 =>
  Option.bind (i_stepOf_1 x55.A s7) fun x61 =>
  Option.bind (i_stepOf_1 x55.B s7) fun x65 =>
  Option.bind (appS 8 s7 ([(IntKind.i64.wrap (BitVec.toNat (BitVec.ofInt (IntKind.bits IntKind.i64) x61 &&& BitVec.ofInt (IntKind.bits IntKind.i64) x65)))] : List Int)) fun x68 =>
  some (.inr (.inr (x68 : (List Int))))
def i_stepOf_b6 (p0 : Circuit) (s9 : (List Int)) (v73 : Int) (s10 : Int) : Option ((Int × Int) ⊕ ((Int) ⊕ (Int))) :=
  Option.bind (idx p0.Next v73) fun x76 =>
  Option.bind (i_stepOf_1 x76 s9) fun x81 =>
  Option.bind (nn v73) fun _z83 =>
  some (.inr (.inr ((IntKind.i64.wrap (BitVec.toNat (BitVec.ofInt (IntKind.bits IntKind.i64) s10 ||| BitVec.ofInt (IntKind.bits IntKind.i64) (IntKind.i64.wrap (x81 * 2 ^ (min (Int.toNat v73) (IntKind.bits IntKind.i64))))))) : Int)))
def i_stepOf_b8 (p0 : Circuit) (s9 : (List Int)) (v89 : Int) (s13 : Int) : Option ((Int × Int) ⊕ ((Int) ⊕ (Int))) :=
  Option.bind (idx p0.Outs v89) fun x92 =>
  Option.bind (i_stepOf_1 x92 s9) fun x97 =>
  Option.bind (nn v89) fun _z99 =>
  some (.inr (.inr ((IntKind.i64.wrap (BitVec.toNat (BitVec.ofInt (IntKind.bits IntKind.i64) s13 ||| BitVec.ofInt (IntKind.bits IntKind.i64) (IntKind.i64.wrap (x97 * 2 ^ (min (Int.toNat v89) (IntKind.bits IntKind.i64))))))) : Int)))
def i_stepOf (p0 : Circuit) (p1 : Int) (p2 : Int) : Option (Int × Int) :=
  Option.bind (i_signalsOf p0) fun x21 =>
  Option.bind (mkC 8 1 x21 (0 : Int)) fun x22 =>
  Option.bind (rng p0.Inputs) fun _ =>
  Option.bind (cntM (i_stepOf_b0 p2) (Int.toNat (p0.Inputs - 0)) 0 (x22 : (List Int))) fun q2 =>
  aft (fun r => some r) (fun s3 =>
    Option.bind (rng p0.Latches) fun _ =>
    Option.bind (cntM (i_stepOf_b2 p1) (Int.toNat (p0.Latches - 0)) 0 (s3 : (List Int))) fun q5 =>
    aft (fun r => some r) (fun s6 =>
      Option.bind (cntM (i_stepOf_b4 p0) p0.Gates.length 0 (s6 : (List Int))) fun q8 =>
      aft (fun r => some r) (fun s9 =>
        Option.bind (cntM (i_stepOf_b6 p0 s9) p0.Next.length 0 (0 : Int)) fun q11 =>
        aft (fun r => some r) (fun s12 =>
          Option.bind (cntM (i_stepOf_b8 p0 s9) p0.Outs.length 0 (0 : Int)) fun q14 =>
          aft (fun r => some r) (fun s15 =>
            some ((s12 : Int), (s15 : Int))) q14) q11) q8) q5) q2

end Go.Proofs.Ytfmkhnlnomkcfaa
