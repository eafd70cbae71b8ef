/- The functions on data. By program. -/
import Derived.Test.YtnmjfjppgpkieaaTypes
set_option linter.unusedVariables false
set_option linter.unusedSimpArgs false
namespace Go.Proofs.Ytnmjfjppgpkieaa
open Go Go.Wk Go.Proofs
set_option maxRecDepth 100000
set_option maxHeartbeats 1000000

/- loop.example/g00869/laws.szInt64S -/

def l_szInt64S (p0 : (List Int)) (p1 : Int) : Option (Int) :=
  bif decide ((IntKind.i64.wrap (p1 - (p0.length : Int))) < 0) then
    some ((-1) : Int)
  else
    some ((IntKind.i64.wrap (p1 - (p0.length : Int))) : Int)

/- loop.example/g00869/laws.szInt64SS -/
def l_szInt64SS_b0 (p0 : (List (List Int))) (v5 : Int) (s1 : Int) : Option (Int ⊕ ((Int) ⊕ (Int))) :=
  Option.bind (idx p0 v5) fun x20 =>
  Option.bind (l_szInt64S x20 s1) fun x23 =>
  bif decide (x23 < 0) then
    some (.inl ((-1) : Int))
  else
    some (.inr (.inr (x23 : Int)))
def l_szInt64SS (p0 : (List (List Int))) (p1 : Int) : Option (Int) :=
  bif decide ((IntKind.i64.wrap (p1 - (p0.length : Int))) < 0) then
    some ((-1) : Int)
  else
    Option.bind (cntM (l_szInt64SS_b0 p0) p0.length 0 ((IntKind.i64.wrap (p1 - (p0.length : Int))) : Int)) fun q2 =>
    aft (fun r => some r) (fun s3 =>
      some (s3 : Int)) q2

/- loop.example/g00869/laws.szMachine -/

def l_szMachine (p0 : Machine) (p1 : Int) : Option (Int) :=
  Option.bind (l_szInt64SS p0.Next p1) fun x8 =>
  bif decide (x8 < 0) then
    some ((-1) : Int)
  else
    Option.bind (l_szInt64SS p0.Out x8) fun x14 =>
    bif decide (x14 < 0) then
      some ((-1) : Int)
    else
      some (x14 : Int)

/- loop.example/g00869/laws.szPair -/

def l_szPair (p0 : Pair) (p1 : Int) : Option (Int) :=
  Option.bind (l_szInt64S p0.Ask p1) fun x8 =>
  bif decide (x8 < 0) then
    some ((-1) : Int)
  else
    Option.bind (l_szInt64S p0.Give x8) fun x14 =>
    bif decide (x14 < 0) then
      some ((-1) : Int)
    else
      some (x14 : Int)

/- loop.example/g00869/laws.szPairS -/
def l_szPairS_b0 (p0 : (List Pair)) (v5 : Int) (s1 : Int) : Option (Int ⊕ ((Int) ⊕ (Int))) :=
  Option.bind (idx p0 v5) fun x20 =>
  Option.bind (l_szPair x20 s1) fun x23 =>
  bif decide (x23 < 0) then
    some (.inl ((-1) : Int))
  else
    some (.inr (.inr (x23 : Int)))
def l_szPairS (p0 : (List Pair)) (p1 : Int) : Option (Int) :=
  bif decide ((IntKind.i64.wrap (p1 - (p0.length : Int))) < 0) then
    some ((-1) : Int)
  else
    Option.bind (cntM (l_szPairS_b0 p0) p0.length 0 ((IntKind.i64.wrap (p1 - (p0.length : Int))) : Int)) fun q2 =>
    aft (fun r => some r) (fun s3 =>
      some (s3 : Int)) q2

/- loop.example/g00869/laws.szDet -/

def l_szDet (p0 : Det) (p1 : Int) : Option (Int) :=
  Option.bind (l_szInt64SS p0.Next p1) fun x8 =>
  bif decide (x8 < 0) then
    some ((-1) : Int)
  else
    Option.bind (l_szPairS p0.Pairs x8) fun x14 =>
    bif decide (x14 < 0) then
      some ((-1) : Int)
    else
      some (x14 : Int)

/- loop.example/g00869/laws.toSig -/

def l_toSig (p0 : Sig) : Option (Sig) :=
  some ((⟨p0.In, p0.Out⟩ : Sig) : Sig)

/- loop.example/g00869/laws.toInt64S -/
def l_toInt64S_b0 (p0 : (List Int)) (v4 : Int) (s1 : (List Int)) : Option ((List Int) ⊕ (((List Int)) ⊕ ((List Int)))) :=
  Option.bind (idx p0 v4) fun x18 =>
  Option.bind (idx s1 v4) fun x20 =>
  Option.bind (setI s1 v4 x18) fun y2 =>
  some (.inr (.inr (y2 : (List Int))))
def l_toInt64S (p0 : (List Int)) : Option ((List Int)) :=
  Option.bind (mkS 8 (p0.length : Int) (0 : Int)) fun x7 =>
  Option.bind (cntM (l_toInt64S_b0 p0) p0.length 0 (x7 : (List Int))) fun q2 =>
  aft (fun r => some r) (fun s3 =>
    some (s3 : (List Int))) q2

/- loop.example/g00869/laws.toInt64SS -/
def l_toInt64SS_b0 (p0 : (List (List Int))) (v4 : Int) (s1 : (List (List Int))) : Option ((List (List Int)) ⊕ (((List (List Int))) ⊕ ((List (List Int))))) :=
  Option.bind (idx p0 v4) fun x18 =>
  Option.bind (l_toInt64S x18) fun x20 =>
  Option.bind (idx s1 v4) fun x21 =>
  Option.bind (setI s1 v4 (x20 : (List Int))) fun y3 =>
  some (.inr (.inr (y3 : (List (List Int)))))
def l_toInt64SS (p0 : (List (List Int))) : Option ((List (List Int))) :=
  Option.bind (mkS 24 (p0.length : Int) (([] : List Int) : (List Int))) fun x7 =>
  Option.bind (cntM (l_toInt64SS_b0 p0) p0.length 0 (x7 : (List (List Int)))) fun q2 =>
  aft (fun r => some r) (fun s3 =>
    some (s3 : (List (List Int)))) q2

/- loop.example/g00869/laws.toMachine -/

def l_toMachine (p0 : Machine) : Option (Machine) :=
  Option.bind (l_toInt64SS p0.Next) fun x6 =>
  Option.bind (l_toInt64SS p0.Out) fun x10 =>
  some ((⟨x6, x10⟩ : Machine) : Machine)

/- loop.example/g00869/laws.toPair -/

def l_toPair (p0 : Pair) : Option (Pair) :=
  Option.bind (l_toInt64S p0.Ask) fun x6 =>
  Option.bind (l_toInt64S p0.Give) fun x10 =>
  some ((⟨x6, x10⟩ : Pair) : Pair)

/- loop.example/g00869/laws.toPairS -/
def l_toPairS_b0 (p0 : (List Pair)) (v4 : Int) (s1 : (List Pair)) : Option ((List Pair) ⊕ (((List Pair)) ⊕ ((List Pair)))) :=
  Option.bind (idx p0 v4) fun x18 =>
  Option.bind (l_toPair x18) fun x20 =>
  Option.bind (idx s1 v4) fun x21 =>
  Option.bind (setI s1 v4 (x20 : Pair)) fun y5 =>
  some (.inr (.inr (y5 : (List Pair))))
def l_toPairS (p0 : (List Pair)) : Option ((List Pair)) :=
  Option.bind (mkS 48 (p0.length : Int) ((⟨([] : List Int), ([] : List Int)⟩ : Pair) : Pair)) fun x7 =>
  Option.bind (cntM (l_toPairS_b0 p0) p0.length 0 (x7 : (List Pair))) fun q2 =>
  aft (fun r => some r) (fun s3 =>
    some (s3 : (List Pair))) q2

/- loop.example/g00869/laws.toDet -/

def l_toDet (p0 : Det) : Option (Det) :=
  Option.bind (l_toInt64SS p0.Next) fun x6 =>
  Option.bind (l_toPairS p0.Pairs) fun x10 =>
  some ((⟨x6, x10⟩ : Det) : Det)

/- loop.example/g00869/spec.l1In -/

def s_l1In (p0 : Int) (p1 : Int) (p2 : Int) : Option (Bool) :=
  Option.bind (bif decide (p1 ≤ p0) then
  some (decide (p0 ≤ p2))
  else
  some false) fun p14 =>
  some (p14 : Bool)

/- loop.example/g00869/spec.SigOk -/

def s_SigOk (p0 : Sig) : Option (Bool) :=
  Option.bind (s_l1In p0.In 1 2) fun x5 =>
  Option.bind (bif x5 then
  Option.bind (s_l1In p0.Out 1 2) fun x9 =>
  some x9
  else
  some false) fun p10 =>
  some (p10 : Bool)

/- loop.example/g00869/spec.l23Power -/
def s_l23Power_b0  (s1 : Int × Int) : Option (Int ⊕ ((Int × Int) ⊕ (Int × Int))) :=
  bif decide (0 < s1.1) then
    some (.inr (.inr (((IntKind.i64.wrap (s1.1 - 1)) : Int), ((IntKind.i64.wrap (s1.2 * 2)) : Int))))
  else
    some (.inr (.inl ((s1.1 : Int), (s1.2 : Int))))
def s_l23Power (p0 : Int) : Option (Int) :=
  Option.bind (whileM s_l23Power_b0 (2 ^ 64) ((p0 : Int), (1 : Int))) fun q2 =>
  aft (fun r => some r) (fun s3 =>
    some (s3.2 : Int)) q2

/- loop.example/g00869/spec.l29Ins -/

def s_l29Ins (p0 : Sig) : Option (Int) :=
  Option.bind (s_l23Power p0.In) fun x5 =>
  some (x5 : Int)

/- loop.example/g00869/spec.l23Below -/
def s_l23Below_b0 (p0 : (List Int)) (p1 : Int) (v5 : Int) (s1 : Unit) : Option (Bool ⊕ ((Unit) ⊕ (Unit))) :=
  Option.bind (idx p0 v5) fun x14 =>
  Option.bind (s_l1In x14 0 (IntKind.i64.wrap (p1 - 1))) fun x18 =>
  bif (!x18) then
    some (.inl (false : Bool))
  else
    some (.inr (.inr ()))
def s_l23Below (p0 : (List Int)) (p1 : Int) : Option (Bool) :=
  Option.bind (cntM (s_l23Below_b0 p0 p1) p0.length 0 ()) fun q2 =>
  aft (fun r => some r) (fun s3 =>
    some (true : Bool)) q2

/- loop.example/g00869/spec.MachineOk -/
def s_MachineOk_b0 (p0 : Sig) (p1 : Machine) (v6 : Int) (s1 : Unit) : Option (Bool ⊕ ((Unit) ⊕ (Unit))) :=
  Option.bind (idx p1.Next v6) fun x37 =>
  Option.bind (s_l29Ins p0) fun x41 =>
  Option.bind (bif ((x37.length : Int) != x41) then
  some true
  else
  Option.bind (idx p1.Out v6) fun x47 =>
  Option.bind (idx p1.Next v6) fun x53 =>
  some ((x47.length : Int) != (x53.length : Int))) fun p57 =>
  Option.bind (bif p57 then
  some true
  else
  Option.bind (idx p1.Next v6) fun x62 =>
  Option.bind (s_l23Below x62 (p1.Next.length : Int)) fun x65 =>
  some (!x65)) fun p67 =>
  Option.bind (bif p67 then
  some true
  else
  Option.bind (idx p1.Out v6) fun x72 =>
  Option.bind (s_l23Power p0.Out) fun x76 =>
  Option.bind (s_l23Below x72 x76) fun x77 =>
  some (!x77)) fun p79 =>
  bif p79 then
    some (.inl (false : Bool))
  else
    some (.inr (.inr ()))
def s_MachineOk (p0 : Sig) (p1 : Machine) : Option (Bool) :=
  Option.bind (s_SigOk p0) fun x11 =>
  Option.bind (bif (!x11) then
  some true
  else
  Option.bind (s_l1In (p1.Next.length : Int) 1 48) fun x15 =>
  some (!x15)) fun p17 =>
  Option.bind (bif p17 then
  some true
  else
  some ((p1.Out.length : Int) != (p1.Next.length : Int))) fun p26 =>
  bif p26 then
    some (false : Bool)
  else
    Option.bind (cntM (s_MachineOk_b0 p0 p1) p1.Next.length 0 ()) fun q2 =>
    aft (fun r => some r) (fun s3 =>
      some (true : Bool)) q2

/- loop.example/g00869/spec.LettersOf -/

def s_LettersOf (p0 : Sig) : Option (Int) :=
  Option.bind (s_SigOk p0) fun x4 =>
  bif (!x4) then
    some (0 : Int)
  else
    Option.bind (s_l23Power (IntKind.i64.wrap (p0.In + p0.Out))) fun x11 =>
    some (x11 : Int)

/- loop.example/g00869/spec.l1Rises -/
def s_l1Rises_b0 (p0 : (List Int)) (p1 : Int) (v5 : Int) (s1 : Unit) : Option (Bool ⊕ ((Unit) ⊕ (Unit))) :=
  Option.bind (idx p0 v5) fun x14 =>
  Option.bind (s_l1In x14 0 (IntKind.i64.wrap (p1 - 1))) fun x18 =>
  Option.bind (bif (!x18) then
  some true
  else
  Option.bind (bif decide (0 < v5) then
  Option.bind (idx p0 v5) fun x26 =>
  Option.bind (idx p0 (IntKind.i64.wrap (v5 - 1))) fun x31 =>
  some (decide (x26 ≤ x31))
  else
  some false) fun p34 =>
  some p34) fun p35 =>
  bif p35 then
    some (.inl (false : Bool))
  else
    some (.inr (.inr ()))
def s_l1Rises (p0 : (List Int)) (p1 : Int) : Option (Bool) :=
  Option.bind (cntM (s_l1Rises_b0 p0 p1) p0.length 0 ()) fun q2 =>
  aft (fun r => some r) (fun s3 =>
    some (true : Bool)) q2

/- loop.example/g00869/spec.l1Set -/

def s_l1Set (p0 : (List Int)) (p1 : Int) : Option (Bool) :=
  Option.bind (bif decide ((p0.length : Int) ≤ p1) then
  Option.bind (s_l1Rises p0 p1) fun x12 =>
  some x12
  else
  some false) fun p13 =>
  some (p13 : Bool)

/- loop.example/g00869/spec.SetOk -/

def s_SetOk (p0 : (List Int)) (p1 : Int) : Option (Bool) :=
  Option.bind (s_l1In p1 0 256) fun x6 =>
  Option.bind (bif x6 then
  Option.bind (s_l1Set p0 p1) fun x10 =>
  some x10
  else
  some false) fun p11 =>
  some (p11 : Bool)

/- loop.example/g00869/spec.PairsOk -/
def s_PairsOk_b0 (p0 : (List Pair)) (p1 : Int) (v5 : Int) (s1 : Unit) : Option (Bool ⊕ ((Unit) ⊕ (Unit))) :=
  Option.bind (idx p0 v5) fun x22 =>
  Option.bind (s_SetOk x22.Ask p1) fun x26 =>
  Option.bind (bif (!x26) then
  some true
  else
  Option.bind (idx p0 v5) fun x31 =>
  Option.bind (s_SetOk x31.Give p1) fun x35 =>
  some (!x35)) fun p37 =>
  bif p37 then
    some (.inl (false : Bool))
  else
    some (.inr (.inr ()))
def s_PairsOk (p0 : (List Pair)) (p1 : Int) : Option (Bool) :=
  Option.bind (s_l1In p1 0 256) fun x7 =>
  Option.bind (bif (!x7) then
  some true
  else
  some (decide (4 < (p0.length : Int)))) fun p13 =>
  bif p13 then
    some (false : Bool)
  else
    Option.bind (cntM (s_PairsOk_b0 p0 p1) p0.length 0 ()) fun q2 =>
    aft (fun r => some r) (fun s3 =>
      some (true : Bool)) q2

/- loop.example/g00869/spec.DetOk -/
def s_DetOk_b0 (p0 : Sig) (p1 : Det) (v6 : Int) (s1 : Unit) : Option (Bool ⊕ ((Unit) ⊕ (Unit))) :=
  Option.bind (idx p1.Next v6) fun x28 =>
  Option.bind (s_LettersOf p0) fun x32 =>
  Option.bind (bif ((x28.length : Int) != x32) then
  some true
  else
  Option.bind (idx p1.Next v6) fun x38 =>
  Option.bind (s_l23Below x38 (p1.Next.length : Int)) fun x41 =>
  some (!x41)) fun p43 =>
  bif p43 then
    some (.inl (false : Bool))
  else
    some (.inr (.inr ()))
def s_DetOk (p0 : Sig) (p1 : Det) : Option (Bool) :=
  Option.bind (s_SigOk p0) fun x11 =>
  Option.bind (bif (!x11) then
  some true
  else
  Option.bind (s_l1In (p1.Next.length : Int) 1 48) fun x15 =>
  some (!x15)) fun p17 =>
  bif p17 then
    some (false : Bool)
  else
    Option.bind (cntM (s_DetOk_b0 p0 p1) p1.Next.length 0 ()) fun q2 =>
    aft (fun r => some r) (fun s3 =>
      Option.bind (s_PairsOk p1.Pairs (p1.Next.length : Int)) fun x47 =>
      some (x47 : Bool)) q2

/- loop.example/g00869/spec.l30Find -/
def s_l30Find_b0 (p0 : l30Graph) (p1 : Int) (p2 : Int) (v7 : Int) (s1 : Unit) : Option ((Int × (List Int) × (List Int)) ⊕ ((Unit) ⊕ (Unit))) :=
  Option.bind (idx p0.of v7) fun x22 =>
  Option.bind (bif (x22 == p1) then
  Option.bind (idx p0.by0 v7) fun x32 =>
  some (x32 == p2)
  else
  some false) fun p36 =>
  bif p36 then
    some (.inl ((v7 : Int), (p0.of : (List Int)), (p0.by0 : (List Int))))
  else
    some (.inr (.inr ()))
def s_l30Find (p0 : l30Graph) (p1 : Int) (p2 : Int) : Option (Int × (List Int) × (List Int)) :=
  Option.bind (cntM (s_l30Find_b0 p0 p1 p2) p0.of.length 0 ()) fun q2 =>
  aft (fun r => some r) (fun s3 =>
    Option.bind (appS 8 p0.of ([p1] : List Int)) fun x45 =>
    Option.bind (appS 8 p0.by0 ([p2] : List Int)) fun x55 =>
    some (((IntKind.i64.wrap ((x45.length : Int) - 1)) : Int), (x45 : (List Int)), (x55 : (List Int)))) q2

/- loop.example/g00869/spec.l30Watch -/
def s_l30Watch_b2 (p0 : Sig) (p1 : Machine) (p2 : Det) (s1 : Int × (List Int) × (List Int) × (List (List Int)) × (List (List Int))) (s4 : (List Int) × (List Int) × Int × (List Int) × (List Int)) : Option ((l30Graph × Bool) ⊕ (((List Int) × (List Int) × Int × (List Int) × (List Int)) ⊕ ((List Int) × (List Int) × Int × (List Int) × (List Int)))) :=
  Option.bind (s_l29Ins p0) fun x31 =>
  bif decide (s4.2.2.1 < x31) then
    Option.bind (idx s4.2.2.2.1 s1.1) fun x42 =>
    Option.bind (idx p1.Out x42) fun x44 =>
    Option.bind (idx x44 s4.2.2.1) fun x47 =>
    Option.bind (s_l29Ins p0) fun x50 =>
    Option.bind (idx s4.2.2.2.1 s1.1) fun x63 =>
    Option.bind (idx p1.Next x63) fun x65 =>
    Option.bind (idx x65 s4.2.2.1) fun x68 =>
    Option.bind (idx s4.2.2.2.2 s1.1) fun x77 =>
    Option.bind (idx p2.Next x77) fun x79 =>
    Option.bind (idx x79 (IntKind.i64.wrap ((IntKind.i64.wrap (x47 * x50)) + s4.2.2.1))) fun x82 =>
    Option.bind (s_l30Find (⟨s4.2.2.2.1, s4.2.2.2.2, s1.2.2.2.1, s1.2.2.2.2⟩ : l30Graph) x68 x82) fun x84 =>
    Option.bind (appS 8 s4.1 ([x84.1] : List Int)) fun x86 =>
    Option.bind (appS 8 s4.2.1 ([(IntKind.i64.wrap ((IntKind.i64.wrap (x47 * x50)) + s4.2.2.1))] : List Int)) fun x90 =>
    some (.inr (.inr ((x86 : (List Int)), (x90 : (List Int)), ((IntKind.i64.wrap (s4.2.2.1 + 1)) : Int), (x84.2.1 : (List Int)), (x84.2.2 : (List Int)))))
  else
    some (.inr (.inl ((s4.1 : (List Int)), (s4.2.1 : (List Int)), (s4.2.2.1 : Int), (s4.2.2.2.1 : (List Int)), (s4.2.2.2.2 : (List Int)))))
def s_l30Watch_b0 (p0 : Sig) (p1 : Machine) (p2 : Det) (s1 : Int × (List Int) × (List Int) × (List (List Int)) × (List (List Int))) : Option ((l30Graph × Bool) ⊕ ((Int × (List Int) × (List Int) × (List (List Int)) × (List (List Int))) ⊕ (Int × (List Int) × (List Int) × (List (List Int)) × (List (List Int))))) :=
  bif decide (s1.1 < (s1.2.1.length : Int)) then
    Option.bind (whileM (s_l30Watch_b2 p0 p1 p2 s1) (2 ^ 64) ((([] : List Int) : (List Int)), (([] : List Int) : (List Int)), (0 : Int), (s1.2.1 : (List Int)), (s1.2.2.1 : (List Int)))) fun q5 =>
    aft (fun r => some (.inl r)) (fun s6 =>
      bif decide (256 < (s6.2.2.2.1.length : Int)) then
        some (.inl (((⟨([] : List Int), ([] : List Int), ([] : List (List Int)), ([] : List (List Int))⟩ : l30Graph) : l30Graph), (false : Bool)))
      else
        Option.bind (appS 24 s1.2.2.2.1 ([s6.1] : List (List Int))) fun x105 =>
        Option.bind (appS 24 s1.2.2.2.2 ([s6.2.1] : List (List Int))) fun x115 =>
        some (.inr (.inr (((IntKind.i64.wrap (s1.1 + 1)) : Int), (s6.2.2.2.1 : (List Int)), (s6.2.2.2.2 : (List Int)), (x105 : (List (List Int))), (x115 : (List (List Int))))))) q5
  else
    some (.inr (.inl ((s1.1 : Int), (s1.2.1 : (List Int)), (s1.2.2.1 : (List Int)), (s1.2.2.2.1 : (List (List Int))), (s1.2.2.2.2 : (List (List Int))))))
def s_l30Watch (p0 : Sig) (p1 : Machine) (p2 : Det) : Option (l30Graph × Bool) :=
  Option.bind (s_l30Find (⟨([] : List Int), ([] : List Int), ([] : List (List Int)), ([] : List (List Int))⟩ : l30Graph) 0 0) fun x17 =>
  Option.bind (whileM (s_l30Watch_b0 p0 p1 p2) (2 ^ 64) ((0 : Int), (x17.2.1 : (List Int)), (x17.2.2 : (List Int)), (([] : List (List Int)) : (List (List Int))), (([] : List (List Int)) : (List (List Int))))) fun q2 =>
  aft (fun r => some r) (fun s3 =>
    some (((⟨s3.2.1, s3.2.2.1, s3.2.2.2.1, s3.2.2.2.2⟩ : l30Graph) : l30Graph), (true : Bool))) q2

/- loop.example/g00869/spec.l1Has -/
def s_l1Has_b0 (p0 : (List Int)) (p1 : Int) (v5 : Int) (s1 : Unit) : Option (Bool ⊕ ((Unit) ⊕ (Unit))) :=
  Option.bind (idx p0 v5) fun x14 =>
  bif (x14 == p1) then
    some (.inl (true : Bool))
  else
    some (.inr (.inr ()))
def s_l1Has (p0 : (List Int)) (p1 : Int) : Option (Bool) :=
  Option.bind (cntM (s_l1Has_b0 p0 p1) p0.length 0 ()) fun q2 =>
  aft (fun r => some r) (fun s3 =>
    some (false : Bool)) q2

/- loop.example/g00869/spec.l30Part -/
def s_l30Part_b0 (p0 : l30Graph) (p1 : (List Int)) (v6 : Int) (s1 : (List Int)) : Option ((List Int) ⊕ (((List Int)) ⊕ ((List Int)))) :=
  Option.bind (idx p0.by0 v6) fun x19 =>
  Option.bind (s_l1Has p1 x19) fun x21 =>
  Option.bind (bif x21 then
    Option.bind (appS 8 s1 ([v6] : List Int)) fun x25 =>
    some (x25 : (List Int))
  else
    some (s1 : (List Int))) fun q4 =>
  some (.inr (.inr (q4 : (List Int))))
def s_l30Part (p0 : l30Graph) (p1 : (List Int)) : Option ((List Int)) :=
  Option.bind (cntM (s_l30Part_b0 p0 p1) p0.by0.length 0 (([] : List Int) : (List Int))) fun q2 =>
  aft (fun r => some r) (fun s3 =>
    some (s3 : (List Int))) q2

/- loop.example/g00869/spec.WatchOf -/
def s_WatchOf_b0 (p2 : Det) (x29 : l30Graph × Bool) (v12 : Int) (s1 : (List Pair)) : Option (((List (List Int)) × (List Pair) × Bool) ⊕ (((List Pair)) ⊕ ((List Pair)))) :=
  Option.bind (idx p2.Pairs v12) fun x49 =>
  Option.bind (idx p2.Pairs v12) fun x57 =>
  Option.bind (s_l30Part x29.1 x49.Ask) fun x52 =>
  Option.bind (s_l30Part x29.1 x57.Give) fun x60 =>
  Option.bind (appS 48 s1 ([(⟨x52, x60⟩ : Pair)] : List Pair)) fun x63 =>
  some (.inr (.inr (x63 : (List Pair))))
def s_WatchOf (p0 : Sig) (p1 : Machine) (p2 : Det) : Option ((List (List Int)) × (List Pair) × Bool) :=
  Option.bind (s_MachineOk p0 p1) fun x15 =>
  Option.bind (bif (!x15) then
  some true
  else
  Option.bind (s_DetOk p0 p2) fun x20 =>
  some (!x20)) fun p22 =>
  bif p22 then
    some ((([] : List (List Int)) : (List (List Int))), (([] : List Pair) : (List Pair)), (false : Bool))
  else
    Option.bind (s_l30Watch p0 p1 p2) fun x29 =>
    bif (!x29.2) then
      some ((([] : List (List Int)) : (List (List Int))), (([] : List Pair) : (List Pair)), (false : Bool))
    else
      Option.bind (cntM (s_WatchOf_b0 p2 x29) p2.Pairs.length 0 (([] : List Pair) : (List Pair))) fun q2 =>
      aft (fun r => some r) (fun s3 =>
        some ((x29.1.next : (List (List Int))), (s3 : (List Pair)), (true : Bool))) q2

/- loop.example/g00869/impl.isSig -/

def i_isSig (p0 : Sig) : Option (Bool) :=
  Option.bind (bif decide (1 ≤ p0.In) then
  some (decide (p0.In ≤ 2))
  else
  some false) fun p10 =>
  Option.bind (bif p10 then
  some (decide (1 ≤ p0.Out))
  else
  some false) fun p15 =>
  Option.bind (bif p15 then
  some (decide (p0.Out ≤ 2))
  else
  some false) fun p20 =>
  some (p20 : Bool)

/- loop.example/g00869/impl.inputsOf -/

def i_inputsOf (p0 : Sig) : Option (Int) :=
  Option.bind (nn p0.In) fun _z5 =>
  some ((IntKind.i64.wrap (1 * 2 ^ (min (Int.toNat p0.In) (IntKind.bits IntKind.i64)))) : Int)

/- loop.example/g00869/impl.areLetters$1 -/

def i_areLetters_1 (p0 : Int) (c0 : Int) : Option (Bool) :=
  Option.bind (bif decide (p0 < 0) then
  some true
  else
  some (decide (c0 ≤ p0))) fun p10 =>
  some (p10 : Bool)

/- slices.IndexFunc[[]int64,int64] -/
def slices_IndexFunc_I_int64__i_areLetters_1_b0 (p0 : (List Int)) (c1_0 : Int) (v8 : Int) (s1 : Unit) : Option (Int ⊕ ((Unit) ⊕ (Unit))) :=
  Option.bind (idx p0 v8) fun x14 =>
  Option.bind (i_areLetters_1 x14 c1_0) fun x16 =>
  bif x16 then
    some (.inl (v8 : Int))
  else
    some (.inr (.inr ()))
def slices_IndexFunc_I_int64__i_areLetters_1 (p0 : (List Int)) (c1_0 : Int) : Option (Int) :=
  Option.bind (cntM (slices_IndexFunc_I_int64__i_areLetters_1_b0 p0 c1_0) p0.length 0 ()) fun q2 =>
  aft (fun r => some r) (fun s3 =>
    some ((-1) : Int)) q2

/- slices.ContainsFunc[[]int64,int64] -/

def slices_ContainsFunc_I_int64__i_areLetters_1 (p0 : (List Int)) (c1_0 : Int) : Option (Bool) :=
  Option.bind (slices_IndexFunc_I_int64__i_areLetters_1 p0 c1_0) fun x7 =>
  some (decide (0 ≤ x7) : Bool)

/- loop.example/g00869/impl.areLetters -/

def i_areLetters (p0 : (List Int)) (p1 : Int) : Option (Bool) :=
  Option.bind (slices_ContainsFunc_I_int64__i_areLetters_1 p0 p1) fun x7 =>
  some ((!x7) : Bool)

/- loop.example/g00869/impl.isMachine -/
def i_isMachine_b0 (p0 : Sig) (p1 : Machine) (v29 : Int) (s1 : Unit) : Option (Bool ⊕ ((Unit) ⊕ (Unit))) :=
  Option.bind (idx p1.Next v29) fun x32 =>
  Option.bind (i_inputsOf p0) fun x37 =>
  Option.bind (bif ((x32.length : Int) != x37) then
  some true
  else
  Option.bind (idx p1.Out v29) fun x43 =>
  some ((x43.length : Int) != (x32.length : Int))) fun p49 =>
  Option.bind (bif p49 then
  some true
  else
  Option.bind (i_areLetters x32 (p1.Next.length : Int)) fun x53 =>
  some (!x53)) fun p55 =>
  Option.bind (bif p55 then
  some true
  else
  Option.bind (idx p1.Out v29) fun x60 =>
  Option.bind (nn p0.Out) fun _z64 =>
  Option.bind (i_areLetters x60 (IntKind.i64.wrap (1 * 2 ^ (min (Int.toNat p0.Out) (IntKind.bits IntKind.i64))))) fun x65 =>
  some (!x65)) fun p67 =>
  bif p67 then
    some (.inl (false : Bool))
  else
    some (.inr (.inr ()))
def i_isMachine (p0 : Sig) (p1 : Machine) : Option (Bool) :=
  Option.bind (bif decide ((p1.Next.length : Int) < 1) then
  some true
  else
  some (decide (48 < (p1.Next.length : Int)))) fun p16 =>
  Option.bind (bif p16 then
  some true
  else
  some ((p1.Out.length : Int) != (p1.Next.length : Int))) fun p25 =>
  bif p25 then
    some (false : Bool)
  else
    Option.bind (cntM (i_isMachine_b0 p0 p1) p1.Next.length 0 ()) fun q2 =>
    aft (fun r => some r) (fun s3 =>
      some (true : Bool)) q2

/- loop.example/g00869/impl.isSet -/
def i_isSet_b0 (p0 : (List Int)) (p1 : Int) (v9 : Int) (s1 : Unit) : Option (Bool ⊕ ((Unit) ⊕ (Unit))) :=
  Option.bind (idx p0 v9) fun x12 =>
  Option.bind (bif decide (x12 < 0) then
  some true
  else
  some (decide (p1 ≤ x12))) fun p20 =>
  Option.bind (bif p20 then
  some true
  else
  Option.bind (bif decide (0 < v9) then
  Option.bind (idx p0 (IntKind.i64.wrap (v9 - 1))) fun x29 =>
  some (decide (x12 ≤ x29))
  else
  some false) fun p32 =>
  some p32) fun p33 =>
  bif p33 then
    some (.inl (false : Bool))
  else
    some (.inr (.inr ()))
def i_isSet (p0 : (List Int)) (p1 : Int) : Option (Bool) :=
  Option.bind (cntM (i_isSet_b0 p0 p1) p0.length 0 ()) fun q2 =>
  aft (fun r => some r) (fun s3 =>
    some (true : Bool)) q2

/- loop.example/g00869/impl.arePairs -/
def i_arePairs_b0 (p0 : (List Pair)) (p1 : Int) (v9 : Int) (s1 : Unit) : Option (Bool ⊕ ((Unit) ⊕ (Unit))) :=
  Option.bind (idx p0 v9) fun x11 =>
  Option.bind (i_isSet x11.Ask p1) fun x16 =>
  Option.bind (bif (!x16) then
  some true
  else
  Option.bind (i_isSet x11.Give p1) fun x22 =>
  some (!x22)) fun p24 =>
  bif p24 then
    some (.inl (false : Bool))
  else
    some (.inr (.inr ()))
def i_arePairs (p0 : (List Pair)) (p1 : Int) : Option (Bool) :=
  Option.bind (cntM (i_arePairs_b0 p0 p1) p0.length 0 ()) fun q2 =>
  aft (fun r => some r) (fun s3 =>
    some (decide ((p0.length : Int) ≤ 4) : Bool)) q2

/- loop.example/g00869/impl.lettersOf -/

def i_lettersOf (p0 : Sig) : Option (Int) :=
  Option.bind (nn (IntKind.i64.wrap (p0.In + p0.Out))) fun _z8 =>
  some ((IntKind.i64.wrap (1 * 2 ^ (min (Int.toNat (IntKind.i64.wrap (p0.In + p0.Out))) (IntKind.bits IntKind.i64)))) : Int)

/- loop.example/g00869/impl.isDet -/
def i_isDet_b0 (p0 : Sig) (p1 : Det) (v27 : Int) (s1 : Unit) : Option (Bool ⊕ ((Unit) ⊕ (Unit))) :=
  Option.bind (idx p1.Next v27) fun x29 =>
  Option.bind (i_lettersOf p0) fun x34 =>
  Option.bind (bif ((x29.length : Int) != x34) then
  some true
  else
  Option.bind (i_areLetters x29 (p1.Next.length : Int)) fun x39 =>
  some (!x39)) fun p41 =>
  bif p41 then
    some (.inl (false : Bool))
  else
    some (.inr (.inr ()))
def i_isDet (p0 : Sig) (p1 : Det) : Option (Bool) :=
  Option.bind (bif decide ((p1.Next.length : Int) < 1) then
  some true
  else
  some (decide (48 < (p1.Next.length : Int)))) fun p16 =>
  Option.bind (bif p16 then
  some true
  else
  Option.bind (i_arePairs p1.Pairs (p1.Next.length : Int)) fun x21 =>
  some (!x21)) fun p23 =>
  bif p23 then
    some (false : Bool)
  else
    Option.bind (cntM (i_isDet_b0 p0 p1) p1.Next.length 0 ()) fun q2 =>
    aft (fun r => some r) (fun s3 =>
      some (true : Bool)) q2

/- slices.Index[[]int64,int64] -/
def slices_Index_I_int64_b0 (p0 : (List Int)) (p1 : Int) (v8 : Int) (s1 : Unit) : Option (Int ⊕ ((Unit) ⊕ (Unit))) :=
  Option.bind (idx p0 v8) fun x14 =>
  bif (p1 == x14) then
    some (.inl (v8 : Int))
  else
    some (.inr (.inr ()))
def slices_Index_I_int64 (p0 : (List Int)) (p1 : Int) : Option (Int) :=
  Option.bind (cntM (slices_Index_I_int64_b0 p0 p1) p0.length 0 ()) fun q2 =>
  aft (fun r => some r) (fun s3 =>
    some ((-1) : Int)) q2

/- slices.Contains[[]int64,int64] -/

def slices_Contains_I_int64 (p0 : (List Int)) (p1 : Int) : Option (Bool) :=
  Option.bind (slices_Index_I_int64 p0 p1) fun x7 =>
  some (decide (0 ≤ x7) : Bool)

/- loop.example/g00869/impl.watchOf -/
def i_watchOf_b2 (p0 : Sig) (p1 : Machine) (p2 : Det) (x42 : (Int × Int)) (x47 : (Int × Int)) (x55 : (List Int)) (v58 : Int) (s4 : (List (Int × Int)) × (List Int) × (List Int) × (List ((Int × Int) × Int))) : Option (((Option watch) × Bool) ⊕ (((List (Int × Int)) × (List Int) × (List Int) × (List ((Int × Int) × Int))) ⊕ ((List (Int × Int)) × (List Int) × (List Int) × (List ((Int × Int) × Int))))) :=
  Option.bind (idx x55 v58) fun x61 =>
  Option.bind (idx p1.Out x42.1) fun x66 =>
  Option.bind (idx x66 v58) fun x69 =>
  Option.bind (i_inputsOf p0) fun x72 =>
  Option.bind (idx p2.Next x47.2) fun x80 =>
  Option.bind (idx x80 (IntKind.i64.wrap ((IntKind.i64.wrap (x69 * x72)) + v58))) fun x83 =>
  Option.bind (mget kwI2 s4.2.2.2 ((x61, x83) : (Int × Int)) (0 : Int)) fun x89 =>
  Option.bind (bif (!x89.2) then
    Option.bind (mset kwI2 s4.2.2.2 ((x61, x83) : (Int × Int)) (s4.1.length : Int)) fun y26 =>
    Option.bind (appS 16 s4.1 ([(x61, x83)] : List (Int × Int))) fun x102 =>
    some ((x102 : (List (Int × Int))), ((s4.1.length : Int) : Int), (y26 : (List ((Int × Int) × Int))))
  else
    some ((s4.1 : (List (Int × Int))), (x89.1 : Int), (s4.2.2.2 : (List ((Int × Int) × Int))))) fun q7 =>
  Option.bind (appS 8 s4.2.1 ([q7.2.1] : List Int)) fun x106 =>
  Option.bind (appS 8 s4.2.2.1 ([(IntKind.i64.wrap ((IntKind.i64.wrap (x69 * x72)) + v58))] : List Int)) fun x110 =>
  some (.inr (.inr ((q7.1 : (List (Int × Int))), (x106 : (List Int)), (x110 : (List Int)), (q7.2.2 : (List ((Int × Int) × Int))))))
def i_watchOf_b0 (p0 : Sig) (p1 : Machine) (p2 : Det) (s1 : (List (Int × Int)) × Int × (List (List Int)) × (List (List Int)) × (List ((Int × Int) × Int))) : Option (((Option watch) × Bool) ⊕ (((List (Int × Int)) × Int × (List (List Int)) × (List (List Int)) × (List ((Int × Int) × Int))) ⊕ ((List (Int × Int)) × Int × (List (List Int)) × (List (List Int)) × (List ((Int × Int) × Int))))) :=
  bif decide (s1.2.1 < (s1.1.length : Int)) then
    Option.bind (idx s1.1 s1.2.1) fun x42 =>
    Option.bind (idx s1.1 s1.2.1) fun x47 =>
    Option.bind (idx p1.Next x42.1) fun x55 =>
    Option.bind (cntM (i_watchOf_b2 p0 p1 p2 x42 x47 x55) x55.length 0 ((s1.1 : (List (Int × Int))), (([] : List Int) : (List Int)), (([] : List Int) : (List Int)), (s1.2.2.2.2 : (List ((Int × Int) × Int))))) fun q5 =>
    aft (fun r => some (.inl r)) (fun s6 =>
      bif decide (256 < (s6.1.length : Int)) then
        some (.inl ((none : Option watch), (false : Bool)))
      else
        Option.bind (appS 24 s1.2.2.1 ([s6.2.1] : List (List Int))) fun x123 =>
        Option.bind (appS 24 s1.2.2.2.1 ([s6.2.2.1] : List (List Int))) fun x130 =>
        some (.inr (.inr ((s6.1 : (List (Int × Int))), ((IntKind.i64.wrap (s1.2.1 + 1)) : Int), (x123 : (List (List Int))), (x130 : (List (List Int))), (s6.2.2.2 : (List ((Int × Int) × Int))))))) q5
  else
    some (.inr (.inl ((s1.1 : (List (Int × Int))), (s1.2.1 : Int), (s1.2.2.1 : (List (List Int))), (s1.2.2.2.1 : (List (List Int))), (s1.2.2.2.2 : (List ((Int × Int) × Int))))))
def i_watchOf_b6 (s3 : (List (Int × Int)) × Int × (List (List Int)) × (List (List Int)) × (List ((Int × Int) × Int))) (x140 : Pair) (v145 : Int) (s11 : (List Int) × (List Int)) : Option (((Option watch) × Bool) ⊕ (((List Int) × (List Int)) ⊕ ((List Int) × (List Int)))) :=
  Option.bind (idx s3.1 v145) fun x148 =>
  Option.bind (slices_Contains_I_int64 x140.Ask x148.2) fun x154 =>
  Option.bind (bif x154 then
    Option.bind (appS 8 s11.1 ([v145] : List Int)) fun x159 =>
    some (x159 : (List Int))
  else
    some (s11.1 : (List Int))) fun q14 =>
  Option.bind (slices_Contains_I_int64 x140.Give x148.2) fun x165 =>
  Option.bind (bif x165 then
    Option.bind (appS 8 s11.2 ([v145] : List Int)) fun x170 =>
    some (x170 : (List Int))
  else
    some (s11.2 : (List Int))) fun q15 =>
  some (.inr (.inr ((q14 : (List Int)), (q15 : (List Int)))))
def i_watchOf_b4 (p2 : Det) (s3 : (List (Int × Int)) × Int × (List (List Int)) × (List (List Int)) × (List ((Int × Int) × Int))) (v138 : Int) (s8 : (List Pair)) : Option (((Option watch) × Bool) ⊕ (((List Pair)) ⊕ ((List Pair)))) :=
  Option.bind (idx p2.Pairs v138) fun x140 =>
  Option.bind (cntM (i_watchOf_b6 s3 x140) s3.1.length 0 ((([] : List Int) : (List Int)), (([] : List Int) : (List Int)))) fun q12 =>
  aft (fun r => some (.inl r)) (fun s13 =>
    Option.bind (appS 48 s8 ([(⟨s13.1, s13.2⟩ : Pair)] : List Pair)) fun x180 =>
    some (.inr (.inr (x180 : (List Pair))))) q12
def i_watchOf (p0 : Sig) (p1 : Machine) (p2 : Det) : Option ((Option watch) × Bool) :=
  Option.bind (mset kwI2 ([] : List ((Int × Int) × Int)) ((0, 0) : (Int × Int)) 0) fun y23 =>
  Option.bind (whileM (i_watchOf_b0 p0 p1 p2) (2 ^ 64) ((([(0, 0)] : List (Int × Int)) : (List (Int × Int))), (0 : Int), (([] : List (List Int)) : (List (List Int))), (([] : List (List Int)) : (List (List Int))), (y23 : (List ((Int × Int) × Int))))) fun q2 =>
  aft (fun r => some r) (fun s3 =>
    Option.bind (cntM (i_watchOf_b4 p2 s3) p2.Pairs.length 0 (([] : List Pair) : (List Pair))) fun q9 =>
    aft (fun r => some r) (fun s10 =>
      some ((some (((⟨s3.2.2.1, s3.2.2.2.1, s10⟩ : watch) : watch)) : Option watch), (true : Bool))) q9) q2

/- loop.example/g00869/impl.WatchOf -/

def i_WatchOf (p0 : Sig) (p1 : Machine) (p2 : Det) : Option ((List (List Int)) × (List Pair) × Bool) :=
  Option.bind (i_isSig p0) fun x12 =>
  Option.bind (bif (!x12) then
  some true
  else
  Option.bind (i_isMachine p0 p1) fun x17 =>
  some (!x17)) fun p19 =>
  Option.bind (bif p19 then
  some true
  else
  Option.bind (i_isDet p0 p2) fun x23 =>
  some (!x23)) fun p25 =>
  bif p25 then
    some ((([] : List (List Int)) : (List (List Int))), (([] : List Pair) : (List Pair)), (false : Bool))
  else
    Option.bind (i_watchOf p0 p1 p2) fun x30 =>
    bif (!x30.2) then
      some ((([] : List (List Int)) : (List (List Int))), (([] : List Pair) : (List Pair)), (false : Bool))
    else
      Option.bind (guardS x30.1.isSome) fun _g35 =>
      some (((x30.1.getD (⟨([] : List (List Int)), ([] : List (List Int)), ([] : List Pair)⟩ : watch)).next : (List (List Int))), ((x30.1.getD (⟨([] : List (List Int)), ([] : List (List Int)), ([] : List Pair)⟩ : watch)).pairs : (List Pair)), (true : Bool))

/- loop.example/g00869/laws.eqInt64S -/
def l_eqInt64S_b0 (p0 : (List Int)) (p1 : (List Int)) (v5 : Int) (s1 : Unit) : Option (Bool ⊕ ((Unit) ⊕ (Unit))) :=
  Option.bind (idx p0 v5) fun x19 =>
  Option.bind (idx p1 v5) fun x23 =>
  bif (x19 != x23) then
    some (.inl (false : Bool))
  else
    some (.inr (.inr ()))
def l_eqInt64S (p0 : (List Int)) (p1 : (List Int)) : Option (Bool) :=
  bif ((p0.length : Int) != (p1.length : Int)) then
    some (false : Bool)
  else
    Option.bind (cntM (l_eqInt64S_b0 p0 p1) p0.length 0 ()) fun q2 =>
    aft (fun r => some r) (fun s3 =>
      some (true : Bool)) q2

/- loop.example/g00869/laws.eqInt64SS -/
def l_eqInt64SS_b0 (p0 : (List (List Int))) (p1 : (List (List Int))) (v5 : Int) (s1 : Unit) : Option (Bool ⊕ ((Unit) ⊕ (Unit))) :=
  Option.bind (idx p0 v5) fun x19 =>
  Option.bind (idx p1 v5) fun x23 =>
  Option.bind (l_eqInt64S x19 x23) fun x25 =>
  bif (!x25) then
    some (.inl (false : Bool))
  else
    some (.inr (.inr ()))
def l_eqInt64SS (p0 : (List (List Int))) (p1 : (List (List Int))) : Option (Bool) :=
  bif ((p0.length : Int) != (p1.length : Int)) then
    some (false : Bool)
  else
    Option.bind (cntM (l_eqInt64SS_b0 p0 p1) p0.length 0 ()) fun q2 =>
    aft (fun r => some r) (fun s3 =>
      some (true : Bool)) q2

/- loop.example/g00869/laws.eqPair -/

def l_eqPair (p0 : Pair) (p1 : Pair) : Option (Bool) :=
  Option.bind (l_eqInt64S p0.Ask p1.Ask) fun x9 =>
  bif (!x9) then
    some (false : Bool)
  else
    Option.bind (l_eqInt64S p0.Give p1.Give) fun x15 =>
    bif (!x15) then
      some (false : Bool)
    else
      some (true : Bool)

/- loop.example/g00869/laws.eqPairS -/
def l_eqPairS_b0 (p0 : (List Pair)) (p1 : (List Pair)) (v5 : Int) (s1 : Unit) : Option (Bool ⊕ ((Unit) ⊕ (Unit))) :=
  Option.bind (idx p0 v5) fun x19 =>
  Option.bind (idx p1 v5) fun x23 =>
  Option.bind (l_eqPair x19 x23) fun x25 =>
  bif (!x25) then
    some (.inl (false : Bool))
  else
    some (.inr (.inr ()))
def l_eqPairS (p0 : (List Pair)) (p1 : (List Pair)) : Option (Bool) :=
  bif ((p0.length : Int) != (p1.length : Int)) then
    some (false : Bool)
  else
    Option.bind (cntM (l_eqPairS_b0 p0 p1) p0.length 0 ()) fun q2 =>
    aft (fun r => some r) (fun s3 =>
      some (true : Bool)) q2

/- loop.example/g00869/laws.eqMachine -/

def l_eqMachine (p0 : Machine) (p1 : Machine) : Option (Bool) :=
  Option.bind (l_eqInt64SS p0.Next p1.Next) fun x9 =>
  bif (!x9) then
    some (false : Bool)
  else
    Option.bind (l_eqInt64SS p0.Out p1.Out) fun x15 =>
    bif (!x15) then
      some (false : Bool)
    else
      some (true : Bool)

/- loop.example/g00869/laws.eqDet -/

def l_eqDet (p0 : Det) (p1 : Det) : Option (Bool) :=
  Option.bind (l_eqInt64SS p0.Next p1.Next) fun x9 =>
  bif (!x9) then
    some (false : Bool)
  else
    Option.bind (l_eqPairS p0.Pairs p1.Pairs) fun x15 =>
    bif (!x15) then
      some (false : Bool)
    else
      some (true : Bool)

/- loop.example/g00869/laws.markInt64S -/
def l_markInt64S_b0  (v5 : Int) (s1 : Int × (List Int)) : Option ((Int × (List Int)) ⊕ ((Int × (List Int)) ⊕ (Int × (List Int)))) :=
  Option.bind (idx s1.2 v5) fun x15 =>
  Option.bind (setI s1.2 v5 s1.1) fun y36 =>
  some (.inr (.inr (((IntKind.i64.wrap (s1.1 + 1)) : Int), (y36 : (List Int)))))
def l_markInt64S (p0 : (List Int)) (p1 : Int) : Option (Int × (List Int)) :=
  Option.bind (cntM l_markInt64S_b0 p0.length 0 ((p1 : Int), (p0 : (List Int)))) fun q2 =>
  aft (fun r => some r) (fun s3 =>
    some ((s3.1 : Int), (s3.2 : (List Int)))) q2

/- loop.example/g00869/laws.markInt64SS -/
def l_markInt64SS_b0  (v5 : Int) (s1 : Int × (List (List Int))) : Option ((Int × (List (List Int))) ⊕ ((Int × (List (List Int))) ⊕ (Int × (List (List Int))))) :=
  Option.bind (idx s1.2 v5) fun x14 =>
  Option.bind (l_markInt64S x14 s1.1) fun x17 =>
  Option.bind (setI s1.2 v5 x17.2) fun yb37 =>
  some (.inr (.inr ((x17.1 : Int), (yb37 : (List (List Int))))))
def l_markInt64SS (p0 : (List (List Int))) (p1 : Int) : Option (Int × (List (List Int))) :=
  Option.bind (cntM l_markInt64SS_b0 p0.length 0 ((p1 : Int), (p0 : (List (List Int))))) fun q2 =>
  aft (fun r => some r) (fun s3 =>
    some ((s3.1 : Int), (s3.2 : (List (List Int))))) q2

/- loop.example/g00869/laws.markMachine -/

def l_markMachine (p0 : Machine) (p1 : Int) : Option (Int × (List (List Int)) × (List (List Int))) :=
  Option.bind (l_markInt64SS p0.Next p1) fun x8 =>
  Option.bind (l_markInt64SS p0.Out x8.1) fun x12 =>
  some ((x12.1 : Int), (x8.2 : (List (List Int))), (x12.2 : (List (List Int))))

/- loop.example/g00869/laws.markPairS -/
def l_markPairS_b0  (v5 : Int) (s1 : Int × (List Pair)) : Option ((Int × (List Pair)) ⊕ ((Int × (List Pair)) ⊕ (Int × (List Pair)))) :=
  Option.bind (idx s1.2 v5) fun x14 =>
  Option.bind (l_markInt64S x14.Ask s1.1) fun x18 =>
  Option.bind (setI s1.2 v5 (⟨x18.2, x14.Give⟩ : Pair)) fun yb38 =>
  Option.bind (idx yb38 v5) fun x21 =>
  Option.bind (l_markInt64S x21.Give x18.1) fun x25 =>
  Option.bind (setI yb38 v5 (⟨x21.Ask, x25.2⟩ : Pair)) fun yb39 =>
  some (.inr (.inr ((x25.1 : Int), (yb39 : (List Pair)))))
def l_markPairS (p0 : (List Pair)) (p1 : Int) : Option (Int × (List Pair)) :=
  Option.bind (cntM l_markPairS_b0 p0.length 0 ((p1 : Int), (p0 : (List Pair)))) fun q2 =>
  aft (fun r => some r) (fun s3 =>
    some ((s3.1 : Int), (s3.2 : (List Pair)))) q2

/- loop.example/g00869/laws.markDet -/

def l_markDet (p0 : Det) (p1 : Int) : Option (Int × (List (List Int)) × (List Pair)) :=
  Option.bind (l_markInt64SS p0.Next p1) fun x8 =>
  Option.bind (l_markPairS p0.Pairs x8.1) fun x12 =>
  some ((x12.1 : Int), (x8.2 : (List (List Int))), (x12.2 : (List Pair)))

/- loop.example/g00869/laws.heldInt64S -/
def l_heldInt64S_b0 (p0 : (List Int)) (v5 : Int) (s1 : Int) : Option (Int ⊕ ((Int) ⊕ (Int))) :=
  Option.bind (idx p0 v5) fun x14 =>
  bif (x14 != s1) then
    some (.inl ((-1) : Int))
  else
    some (.inr (.inr ((IntKind.i64.wrap (s1 + 1)) : Int)))
def l_heldInt64S (p0 : (List Int)) (p1 : Int) : Option (Int) :=
  Option.bind (cntM (l_heldInt64S_b0 p0) p0.length 0 (p1 : Int)) fun q2 =>
  aft (fun r => some r) (fun s3 =>
    some (s3 : Int)) q2

/- loop.example/g00869/laws.heldInt64SS -/
def l_heldInt64SS_b0 (p0 : (List (List Int))) (v5 : Int) (s1 : Int) : Option (Int ⊕ ((Int) ⊕ (Int))) :=
  Option.bind (idx p0 v5) fun x14 =>
  Option.bind (l_heldInt64S x14 s1) fun x17 =>
  bif decide (x17 < 0) then
    some (.inl ((-1) : Int))
  else
    some (.inr (.inr (x17 : Int)))
def l_heldInt64SS (p0 : (List (List Int))) (p1 : Int) : Option (Int) :=
  Option.bind (cntM (l_heldInt64SS_b0 p0) p0.length 0 (p1 : Int)) fun q2 =>
  aft (fun r => some r) (fun s3 =>
    some (s3 : Int)) q2

/- loop.example/g00869/laws.heldPairS -/
def l_heldPairS_b0 (p0 : (List Pair)) (v5 : Int) (s1 : Int) : Option (Int ⊕ ((Int) ⊕ (Int))) :=
  Option.bind (idx p0 v5) fun x14 =>
  Option.bind (l_heldInt64S x14.Ask s1) fun x18 =>
  bif decide (x18 < 0) then
    some (.inl ((-1) : Int))
  else
    Option.bind (idx p0 v5) fun x23 =>
    Option.bind (l_heldInt64S x23.Give x18) fun x27 =>
    bif decide (x27 < 0) then
      some (.inl ((-1) : Int))
    else
      some (.inr (.inr (x27 : Int)))
def l_heldPairS (p0 : (List Pair)) (p1 : Int) : Option (Int) :=
  Option.bind (cntM (l_heldPairS_b0 p0) p0.length 0 (p1 : Int)) fun q2 =>
  aft (fun r => some r) (fun s3 =>
    some (s3 : Int)) q2

/- loop.example/g00869/laws.FnExactWatchOf -/

def l_FnExactWatchOf (p0 : Sig) (p1 : Machine) (p2 : Det) : Option (Bool) :=
  Option.bind (l_szMachine p1 1048576) fun x24 =>
  bif decide (x24 < 0) then
    some (true : Bool)
  else
    Option.bind (l_szDet p2 x24) fun x29 =>
    bif decide (x29 < 0) then
      some (true : Bool)
    else
      Option.bind (l_toSig p0) fun x34 =>
      Option.bind (l_toMachine p1) fun x36 =>
      Option.bind (l_toDet p2) fun x38 =>
      Option.bind (s_WatchOf x34 x36 x38) fun x39 =>
      Option.bind (l_toMachine p1) fun x44 =>
      Option.bind (l_toDet p2) fun x46 =>
      Option.bind (l_toSig p0) fun x49 =>
      Option.bind (i_WatchOf x49 x44 x46) fun x52 =>
      Option.bind (l_eqInt64SS x52.1 x39.1) fun x58 =>
      Option.bind (bif (!x58) then
      some true
      else
      Option.bind (l_eqPairS x52.2.1 x39.2.1) fun x63 =>
      some (!x63)) fun p65 =>
      Option.bind (bif p65 then
      some true
      else
      some (x52.2.2 != x39.2.2)) fun p70 =>
      bif p70 then
        some (false : Bool)
      else
        Option.bind (l_toMachine p1) fun x73 =>
        Option.bind (l_eqMachine x44 x73) fun x74 =>
        bif (!x74) then
          some (false : Bool)
        else
          Option.bind (l_toDet p2) fun x78 =>
          Option.bind (l_eqDet x46 x78) fun x79 =>
          bif (!x79) then
            some (false : Bool)
          else
            Option.bind (l_markMachine x44 1) fun x83 =>
            Option.bind (l_markDet x46 x83.1) fun x86 =>
            Option.bind (bif decide (x86.1 < 0) then
            some true
            else
            Option.bind (l_eqInt64SS x52.1 x39.1) fun x92 =>
            some (!x92)) fun p94 =>
            Option.bind (bif p94 then
            some true
            else
            Option.bind (l_eqPairS x52.2.1 x39.2.1) fun x98 =>
            some (!x98)) fun p100 =>
            Option.bind (bif p100 then
            some true
            else
            some (x52.2.2 != x39.2.2)) fun p105 =>
            bif p105 then
              some (false : Bool)
            else
              Option.bind (l_markInt64SS x52.1 1) fun x108 =>
              Option.bind (l_markPairS x52.2.1 x108.1) fun x111 =>
              Option.bind (l_heldInt64SS x108.2 1) fun x114 =>
              bif decide (x114 < 0) then
                some (false : Bool)
              else
                Option.bind (l_heldPairS x111.2 x114) fun x119 =>
                bif decide (x119 < 0) then
                  some (false : Bool)
                else
                  bif (x119 != x111.1) then
                    some (false : Bool)
                  else
                    Option.bind (l_toSig p0) fun x127 =>
                    Option.bind (l_toMachine p1) fun x129 =>
                    Option.bind (l_toDet p2) fun x131 =>
                    Option.bind (i_WatchOf x127 x129 x131) fun x132 =>
                    Option.bind (l_eqInt64SS x132.1 x39.1) fun x138 =>
                    Option.bind (bif (!x138) then
                    some true
                    else
                    Option.bind (l_eqPairS x132.2.1 x39.2.1) fun x143 =>
                    some (!x143)) fun p145 =>
                    Option.bind (bif p145 then
                    some true
                    else
                    some (x132.2.2 != x39.2.2)) fun p150 =>
                    bif p150 then
                      some (false : Bool)
                    else
                      Option.bind (l_heldInt64SS x108.2 1) fun x153 =>
                      bif decide (x153 < 0) then
                        some (false : Bool)
                      else
                        Option.bind (l_heldPairS x111.2 x153) fun x158 =>
                        bif decide (x158 < 0) then
                          some (false : Bool)
                        else
                          bif (x158 != x111.1) then
                            some (false : Bool)
                          else
                            some (true : Bool)

end Go.Proofs.Ytnmjfjppgpkieaa
