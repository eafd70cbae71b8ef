/- The functions on data. By program. -/
import Derived.Test.YtnmjfjppgpkieaaTypes
set_option linter.unusedVariables false
set_option linter.unusedSimpArgs false
namespace Go.Proofs.Ytnmjfjppgpkieaa
open Go Go.Wk Go.Proofs
set_option maxRecDepth 100000
set_option maxHeartbeats 1000000

/- loop.example/g00869/laws.szInt64S -/

def l_szInt64S (p0 : (List Int)) (p1 : Int) : Option (Int) :=
  bif decide ((IntKind.i64.wrap (p1 - (p0.length : Int))) < 0) then
    some ((-1) : Int)
  else
    some ((IntKind.i64.wrap (p1 - (p0.length : Int))) : Int)

/- loop.example/g00869/laws.szInt64SS -/
def l_szInt64SS_b0 (p0 : (List (List Int))) (v5 : Int) (s1 : Int) : Option (Int ⊕ ((Int) ⊕ (Int))) :=
  Option.bind (idx p0 v5) fun x20 =>
  Option.bind (l_szInt64S x20 s1) fun x23 =>
  bif decide (x23 < 0) then
    some (.inl ((-1) : Int))
  else
    some (.inr (.inr (x23 : Int)))
def l_szInt64SS (p0 : (List (List Int))) (p1 : Int) : Option (Int) :=
  bif decide ((IntKind.i64.wrap (p1 - (p0.length : Int))) < 0) then
    some ((-1) : Int)
  else
    Option.bind (cntM (l_szInt64SS_b0 p0) p0.length 0 ((IntKind.i64.wrap (p1 - (p0.length : Int))) : Int)) fun q2 =>
    aft (fun r => some r) (fun s3 =>
      some (s3 : Int)) q2

/- loop.example/g00869/laws.szMachine -/

def l_szMachine (p0 : Machine) (p1 : Int) : Option (Int) :=
  Option.bind (l_szInt64SS p0.Next p1) fun x8 =>
  bif decide (x8 < 0) then
    some ((-1) : Int)
  else
    Option.bind (l_szInt64SS p0.Out x8) fun x14 =>
    bif decide (x14 < 0) then
      some ((-1) : Int)
    else
      some (x14 : Int)

/- loop.example/g00869/laws.szClause -/

def l_szClause (p0 : Clause) (p1 : Int) : Option (Int) :=
  Option.bind (l_szInt64S p0.A p1) fun x8 =>
  bif decide (x8 < 0) then
    some ((-1) : Int)
  else
    Option.bind (l_szInt64S p0.B x8) fun x14 =>
    bif decide (x14 < 0) then
      some ((-1) : Int)
    else
      some (x14 : Int)

/- loop.example/g00869/laws.szClauseS -/
def l_szClauseS_b0 (p0 : (List Clause)) (v5 : Int) (s1 : Int) : Option (Int ⊕ ((Int) ⊕ (Int))) :=
  Option.bind (idx p0 v5) fun x20 =>
  Option.bind (l_szClause x20 s1) fun x23 =>
  bif decide (x23 < 0) then
    some (.inl ((-1) : Int))
  else
    some (.inr (.inr (x23 : Int)))
def l_szClauseS (p0 : (List Clause)) (p1 : Int) : Option (Int) :=
  bif decide ((IntKind.i64.wrap (p1 - (p0.length : Int))) < 0) then
    some ((-1) : Int)
  else
    Option.bind (cntM (l_szClauseS_b0 p0) p0.length 0 ((IntKind.i64.wrap (p1 - (p0.length : Int))) : Int)) fun q2 =>
    aft (fun r => some r) (fun s3 =>
      some (s3 : Int)) q2

/- loop.example/g00869/laws.szWord -/

def l_szWord (p0 : Word) (p1 : Int) : Option (Int) :=
  Option.bind (l_szInt64S p0.Stem p1) fun x8 =>
  bif decide (x8 < 0) then
    some ((-1) : Int)
  else
    Option.bind (l_szInt64S p0.Loop x8) fun x14 =>
    bif decide (x14 < 0) then
      some ((-1) : Int)
    else
      some (x14 : Int)

/- loop.example/g00869/laws.toSig -/

def l_toSig (p0 : Sig) : Option (Sig) :=
  some ((⟨p0.In, p0.Out⟩ : Sig) : Sig)

/- loop.example/g00869/laws.toInt64S -/
def l_toInt64S_b0 (p0 : (List Int)) (v4 : Int) (s1 : (List Int)) : Option ((List Int) ⊕ (((List Int)) ⊕ ((List Int)))) :=
  Option.bind (idx p0 v4) fun x18 =>
  Option.bind (idx s1 v4) fun x20 =>
  Option.bind (setI s1 v4 x18) fun y2 =>
  some (.inr (.inr (y2 : (List Int))))
def l_toInt64S (p0 : (List Int)) : Option ((List Int)) :=
  Option.bind (mkS 8 (p0.length : Int) (0 : Int)) fun x7 =>
  Option.bind (cntM (l_toInt64S_b0 p0) p0.length 0 (x7 : (List Int))) fun q2 =>
  aft (fun r => some r) (fun s3 =>
    some (s3 : (List Int))) q2

/- loop.example/g00869/laws.toInt64SS -/
def l_toInt64SS_b0 (p0 : (List (List Int))) (v4 : Int) (s1 : (List (List Int))) : Option ((List (List Int)) ⊕ (((List (List Int))) ⊕ ((List (List Int))))) :=
  Option.bind (idx p0 v4) fun x18 =>
  Option.bind (l_toInt64S x18) fun x20 =>
  Option.bind (idx s1 v4) fun x21 =>
  Option.bind (setI s1 v4 (x20 : (List Int))) fun y3 =>
  some (.inr (.inr (y3 : (List (List Int)))))
def l_toInt64SS (p0 : (List (List Int))) : Option ((List (List Int))) :=
  Option.bind (mkS 24 (p0.length : Int) (([] : List Int) : (List Int))) fun x7 =>
  Option.bind (cntM (l_toInt64SS_b0 p0) p0.length 0 (x7 : (List (List Int)))) fun q2 =>
  aft (fun r => some r) (fun s3 =>
    some (s3 : (List (List Int)))) q2

/- loop.example/g00869/laws.toMachine -/

def l_toMachine (p0 : Machine) : Option (Machine) :=
  Option.bind (l_toInt64SS p0.Next) fun x6 =>
  Option.bind (l_toInt64SS p0.Out) fun x10 =>
  some ((⟨x6, x10⟩ : Machine) : Machine)

/- loop.example/g00869/laws.toClause -/

def l_toClause (p0 : Clause) : Option (Clause) :=
  Option.bind (l_toInt64S p0.A) fun x9 =>
  Option.bind (l_toInt64S p0.B) fun x13 =>
  some ((⟨p0.Kind, x9, x13⟩ : Clause) : Clause)

/- loop.example/g00869/laws.toClauseS -/
def l_toClauseS_b0 (p0 : (List Clause)) (v4 : Int) (s1 : (List Clause)) : Option ((List Clause) ⊕ (((List Clause)) ⊕ ((List Clause)))) :=
  Option.bind (idx p0 v4) fun x18 =>
  Option.bind (l_toClause x18) fun x20 =>
  Option.bind (idx s1 v4) fun x21 =>
  Option.bind (setI s1 v4 (x20 : Clause)) fun y5 =>
  some (.inr (.inr (y5 : (List Clause))))
def l_toClauseS (p0 : (List Clause)) : Option ((List Clause)) :=
  Option.bind (mkS 56 (p0.length : Int) ((⟨0, ([] : List Int), ([] : List Int)⟩ : Clause) : Clause)) fun x7 =>
  Option.bind (cntM (l_toClauseS_b0 p0) p0.length 0 (x7 : (List Clause))) fun q2 =>
  aft (fun r => some r) (fun s3 =>
    some (s3 : (List Clause))) q2

/- loop.example/g00869/laws.toWord -/

def l_toWord (p0 : Word) : Option (Word) :=
  Option.bind (l_toInt64S p0.Stem) fun x6 =>
  Option.bind (l_toInt64S p0.Loop) fun x10 =>
  some ((⟨x6, x10⟩ : Word) : Word)

/- loop.example/g00869/spec.l1In -/

def s_l1In (p0 : Int) (p1 : Int) (p2 : Int) : Option (Bool) :=
  Option.bind (bif decide (p1 ≤ p0) then
  some (decide (p0 ≤ p2))
  else
  some false) fun p14 =>
  some (p14 : Bool)

/- loop.example/g00869/spec.SigOk -/

def s_SigOk (p0 : Sig) : Option (Bool) :=
  Option.bind (s_l1In p0.In 1 2) fun x5 =>
  Option.bind (bif x5 then
  Option.bind (s_l1In p0.Out 1 2) fun x9 =>
  some x9
  else
  some false) fun p10 =>
  some (p10 : Bool)

/- loop.example/g00869/spec.l23Power -/
def s_l23Power_b0  (s1 : Int × Int) : Option (Int ⊕ ((Int × Int) ⊕ (Int × Int))) :=
  bif decide (0 < s1.1) then
    some (.inr (.inr (((IntKind.i64.wrap (s1.1 - 1)) : Int), ((IntKind.i64.wrap (s1.2 * 2)) : Int))))
  else
    some (.inr (.inl ((s1.1 : Int), (s1.2 : Int))))
def s_l23Power (p0 : Int) : Option (Int) :=
  Option.bind (whileM s_l23Power_b0 (2 ^ 64) ((p0 : Int), (1 : Int))) fun q2 =>
  aft (fun r => some r) (fun s3 =>
    some (s3.2 : Int)) q2

/- loop.example/g00869/spec.l29Ins -/

def s_l29Ins (p0 : Sig) : Option (Int) :=
  Option.bind (s_l23Power p0.In) fun x5 =>
  some (x5 : Int)

/- loop.example/g00869/spec.l23Below -/
def s_l23Below_b0 (p0 : (List Int)) (p1 : Int) (v5 : Int) (s1 : Unit) : Option (Bool ⊕ ((Unit) ⊕ (Unit))) :=
  Option.bind (idx p0 v5) fun x14 =>
  Option.bind (s_l1In x14 0 (IntKind.i64.wrap (p1 - 1))) fun x18 =>
  bif (!x18) then
    some (.inl (false : Bool))
  else
    some (.inr (.inr ()))
def s_l23Below (p0 : (List Int)) (p1 : Int) : Option (Bool) :=
  Option.bind (cntM (s_l23Below_b0 p0 p1) p0.length 0 ()) fun q2 =>
  aft (fun r => some r) (fun s3 =>
    some (true : Bool)) q2

/- loop.example/g00869/spec.MachineOk -/
def s_MachineOk_b0 (p0 : Sig) (p1 : Machine) (v6 : Int) (s1 : Unit) : Option (Bool ⊕ ((Unit) ⊕ (Unit))) :=
  Option.bind (idx p1.Next v6) fun x37 =>
  Option.bind (s_l29Ins p0) fun x41 =>
  Option.bind (bif ((x37.length : Int) != x41) then
  some true
  else
  Option.bind (idx p1.Out v6) fun x47 =>
  Option.bind (idx p1.Next v6) fun x53 =>
  some ((x47.length : Int) != (x53.length : Int))) fun p57 =>
  Option.bind (bif p57 then
  some true
  else
  Option.bind (idx p1.Next v6) fun x62 =>
  Option.bind (s_l23Below x62 (p1.Next.length : Int)) fun x65 =>
  some (!x65)) fun p67 =>
  Option.bind (bif p67 then
  some true
  else
  Option.bind (idx p1.Out v6) fun x72 =>
  Option.bind (s_l23Power p0.Out) fun x76 =>
  Option.bind (s_l23Below x72 x76) fun x77 =>
  some (!x77)) fun p79 =>
  bif p79 then
    some (.inl (false : Bool))
  else
    some (.inr (.inr ()))
def s_MachineOk (p0 : Sig) (p1 : Machine) : Option (Bool) :=
  Option.bind (s_SigOk p0) fun x11 =>
  Option.bind (bif (!x11) then
  some true
  else
  Option.bind (s_l1In (p1.Next.length : Int) 1 48) fun x15 =>
  some (!x15)) fun p17 =>
  Option.bind (bif p17 then
  some true
  else
  some ((p1.Out.length : Int) != (p1.Next.length : Int))) fun p26 =>
  bif p26 then
    some (false : Bool)
  else
    Option.bind (cntM (s_MachineOk_b0 p0 p1) p1.Next.length 0 ()) fun q2 =>
    aft (fun r => some r) (fun s3 =>
      some (true : Bool)) q2

/- loop.example/g00869/spec.l29Inputs -/

def s_l29Inputs (p0 : Sig) (p1 : (List Int)) : Option (Bool) :=
  Option.bind (bif decide ((p1.length : Int) ≤ 600) then
  Option.bind (s_l29Ins p0) fun x11 =>
  Option.bind (s_l23Below p1 x11) fun x12 =>
  some x12
  else
  some false) fun p13 =>
  some (p13 : Bool)

/- loop.example/g00869/spec.l29Behind -/
def s_l29Behind_b0 (p0 : Machine) (p2 : (List Int)) (v7 : Int) (s1 : Int) : Option (Int ⊕ ((Int) ⊕ (Int))) :=
  Option.bind (idx p2 v7) fun x21 =>
  Option.bind (idx p0.Next s1) fun x17 =>
  Option.bind (idx x17 x21) fun x23 =>
  some (.inr (.inr (x23 : Int)))
def s_l29Behind (p0 : Machine) (p1 : Int) (p2 : (List Int)) : Option (Int) :=
  Option.bind (cntM (s_l29Behind_b0 p0 p2) p2.length 0 (p1 : Int)) fun q2 =>
  aft (fun r => some r) (fun s3 =>
    some (s3 : Int)) q2

/- loop.example/g00869/spec.l1Place -/
def s_l1Place_b0 (p0 : (List Int)) (p1 : Int) (v5 : Int) (s1 : Unit) : Option (Int ⊕ ((Unit) ⊕ (Unit))) :=
  Option.bind (idx p0 v5) fun x14 =>
  bif (x14 == p1) then
    some (.inl (v5 : Int))
  else
    some (.inr (.inr ()))
def s_l1Place (p0 : (List Int)) (p1 : Int) : Option (Int) :=
  Option.bind (cntM (s_l1Place_b0 p0 p1) p0.length 0 ()) fun q2 =>
  aft (fun r => some r) (fun s3 =>
    some ((-1) : Int)) q2

/- loop.example/g00869/spec.l29Letters -/
def s_l29Letters_b0 (p0 : Sig) (p1 : Machine) (p3 : (List Int)) (v10 : Int) (s1 : Int × (List Int)) : Option ((List Int) ⊕ ((Int × (List Int)) ⊕ (Int × (List Int)))) :=
  Option.bind (idx p3 v10) fun x26 =>
  Option.bind (idx p3 v10) fun x35 =>
  Option.bind (idx p1.Out s1.1) fun x22 =>
  Option.bind (idx x22 x26) fun x28 =>
  Option.bind (s_l29Ins p0) fun x31 =>
  Option.bind (appS 8 s1.2 ([(IntKind.i64.wrap ((IntKind.i64.wrap (x28 * x31)) + x35))] : List Int)) fun x39 =>
  Option.bind (idx p3 v10) fun x47 =>
  Option.bind (idx p1.Next s1.1) fun x43 =>
  Option.bind (idx x43 x47) fun x49 =>
  some (.inr (.inr ((x49 : Int), (x39 : (List Int)))))
def s_l29Letters (p0 : Sig) (p1 : Machine) (p2 : Int) (p3 : (List Int)) : Option ((List Int)) :=
  Option.bind (cntM (s_l29Letters_b0 p0 p1 p3) p3.length 0 ((p2 : Int), (([] : List Int) : (List Int)))) fun q2 =>
  aft (fun r => some r) (fun s3 =>
    some (s3.2 : (List Int))) q2

/- loop.example/g00869/spec.RunWord -/
def s_RunWord_b0 (p1 : Machine) (p2 : Word) (s1 : (List Int) × Int) : Option (Word ⊕ (((List Int) × Int) ⊕ ((List Int) × Int))) :=
  Option.bind (s_l1Place s1.1 s1.2) fun x45 =>
  bif decide (x45 < 0) then
    Option.bind (appS 8 s1.1 ([s1.2] : List Int)) fun x50 =>
    Option.bind (s_l29Behind p1 s1.2 p2.Loop) fun x55 =>
    some (.inr (.inr ((x50 : (List Int)), (x55 : Int))))
  else
    some (.inr (.inl ((s1.1 : (List Int)), (s1.2 : Int))))
def s_RunWord_b2 (p0 : Sig) (p1 : Machine) (p2 : Word) (s3 : (List Int) × Int) (x58 : Int) (v11 : Int) (s4 : (List Int) × (List Int)) : Option (Word ⊕ (((List Int) × (List Int)) ⊕ ((List Int) × (List Int)))) :=
  Option.bind (idx s3.1 v11) fun x75 =>
  Option.bind (s_l29Letters p0 p1 x75 p2.Loop) fun x79 =>
  Option.bind (bif decide (v11 < x58) then
    Option.bind (appS 8 s4.1 x79) fun x86 =>
    some ((x86 : (List Int)), (s4.2 : (List Int)))
  else
    Option.bind (appS 8 s4.2 x79) fun x91 =>
    some ((s4.1 : (List Int)), (x91 : (List Int)))) fun q7 =>
  some (.inr (.inr ((q7.1 : (List Int)), (q7.2 : (List Int)))))
def s_RunWord (p0 : Sig) (p1 : Machine) (p2 : Word) : Option (Word) :=
  Option.bind (s_MachineOk p0 p1) fun x15 =>
  Option.bind (bif (!x15) then
  some true
  else
  Option.bind (s_l29Inputs p0 p2.Stem) fun x21 =>
  some (!x21)) fun p23 =>
  Option.bind (bif p23 then
  some true
  else
  Option.bind (s_l29Inputs p0 p2.Loop) fun x28 =>
  some (!x28)) fun p30 =>
  Option.bind (bif p30 then
  some true
  else
  some ((p2.Loop.length : Int) == 0)) fun p36 =>
  bif p36 then
    some ((⟨([] : List Int), ([] : List Int)⟩ : Word) : Word)
  else
    Option.bind (s_l29Behind p1 0 p2.Stem) fun x42 =>
    Option.bind (whileM (s_RunWord_b0 p1 p2) (2 ^ 64) ((([] : List Int) : (List Int)), (x42 : Int))) fun q2 =>
    aft (fun r => some r) (fun s3 =>
      Option.bind (s_l1Place s3.1 s3.2) fun x58 =>
      Option.bind (s_l29Letters p0 p1 0 p2.Stem) fun x63 =>
      Option.bind (cntM (s_RunWord_b2 p0 p1 p2 s3 x58) s3.1.length 0 ((x63 : (List Int)), (([] : List Int) : (List Int)))) fun q5 =>
      aft (fun r => some r) (fun s6 =>
        Option.bind (bif decide (600 < (s6.1.length : Int)) then
        some true
        else
        some (decide (600 < (s6.2.length : Int)))) fun p102 =>
        bif p102 then
          some ((⟨([] : List Int), ([] : List Int)⟩ : Word) : Word)
        else
          some ((⟨s6.1, s6.2⟩ : Word) : Word)) q5) q2

/- loop.example/g00869/spec.LettersOf -/

def s_LettersOf (p0 : Sig) : Option (Int) :=
  Option.bind (s_SigOk p0) fun x4 =>
  bif (!x4) then
    some (0 : Int)
  else
    Option.bind (s_l23Power (IntKind.i64.wrap (p0.In + p0.Out))) fun x11 =>
    some (x11 : Int)

/- loop.example/g00869/spec.l1Rises -/
def s_l1Rises_b0 (p0 : (List Int)) (p1 : Int) (v5 : Int) (s1 : Unit) : Option (Bool ⊕ ((Unit) ⊕ (Unit))) :=
  Option.bind (idx p0 v5) fun x14 =>
  Option.bind (s_l1In x14 0 (IntKind.i64.wrap (p1 - 1))) fun x18 =>
  Option.bind (bif (!x18) then
  some true
  else
  Option.bind (bif decide (0 < v5) then
  Option.bind (idx p0 v5) fun x26 =>
  Option.bind (idx p0 (IntKind.i64.wrap (v5 - 1))) fun x31 =>
  some (decide (x26 ≤ x31))
  else
  some false) fun p34 =>
  some p34) fun p35 =>
  bif p35 then
    some (.inl (false : Bool))
  else
    some (.inr (.inr ()))
def s_l1Rises (p0 : (List Int)) (p1 : Int) : Option (Bool) :=
  Option.bind (cntM (s_l1Rises_b0 p0 p1) p0.length 0 ()) fun q2 =>
  aft (fun r => some r) (fun s3 =>
    some (true : Bool)) q2

/- loop.example/g00869/spec.l1Set -/

def s_l1Set (p0 : (List Int)) (p1 : Int) : Option (Bool) :=
  Option.bind (bif decide ((p0.length : Int) ≤ p1) then
  Option.bind (s_l1Rises p0 p1) fun x12 =>
  some x12
  else
  some false) fun p13 =>
  some (p13 : Bool)

/- loop.example/g00869/spec.l24Both -/

def s_l24Both (p0 : Int) : Option (Bool) :=
  Option.bind (bif (p0 == 2) then
  some true
  else
  some (p0 == 3)) fun p8 =>
  Option.bind (bif p8 then
  some true
  else
  some (p0 == 7)) fun p12 =>
  some (p12 : Bool)

/- loop.example/g00869/spec.ClauseOk -/

def s_ClauseOk (p0 : Sig) (p1 : Clause) : Option (Bool) :=
  Option.bind (s_SigOk p0) fun x7 =>
  Option.bind (bif (!x7) then
  some true
  else
  Option.bind (s_l1In p1.Kind 1 7) fun x12 =>
  some (!x12)) fun p14 =>
  bif p14 then
    some (false : Bool)
  else
    Option.bind (s_LettersOf p0) fun x16 =>
    Option.bind (s_l1Set p1.A x16) fun x20 =>
    Option.bind (bif x20 then
    Option.bind (s_l1Set p1.B x16) fun x25 =>
    some x25
    else
    some false) fun p26 =>
    Option.bind (bif p26 then
    Option.bind (s_l24Both p1.Kind) fun x30 =>
    Option.bind (bif x30 then
    some true
    else
    some ((p1.B.length : Int) == 0)) fun p36 =>
    some p36
    else
    some false) fun p37 =>
    some (p37 : Bool)

/- loop.example/g00869/spec.ClausesOk -/
def s_ClausesOk_b0 (p0 : Sig) (p1 : (List Clause)) (v5 : Int) (s1 : Unit) : Option (Bool ⊕ ((Unit) ⊕ (Unit))) :=
  Option.bind (idx p1 v5) fun x23 =>
  Option.bind (s_ClauseOk p0 x23) fun x25 =>
  bif (!x25) then
    some (.inl (false : Bool))
  else
    some (.inr (.inr ()))
def s_ClausesOk (p0 : Sig) (p1 : (List Clause)) : Option (Bool) :=
  Option.bind (s_SigOk p0) fun x7 =>
  Option.bind (bif (!x7) then
  some true
  else
  some (decide (3 < (p1.length : Int)))) fun p13 =>
  bif p13 then
    some (false : Bool)
  else
    Option.bind (cntM (s_ClausesOk_b0 p0 p1) p1.length 0 ()) fun q2 =>
    aft (fun r => some r) (fun s3 =>
      some (true : Bool)) q2

/- loop.example/g00869/spec.l23Word -/

def s_l23Word (p0 : Word) (p1 : Int) : Option (Bool) :=
  Option.bind (bif decide (600 < (p0.Stem.length : Int)) then
  some true
  else
  some (decide (600 < (p0.Loop.length : Int)))) fun p14 =>
  Option.bind (bif p14 then
  some true
  else
  some ((p0.Loop.length : Int) == 0)) fun p20 =>
  bif p20 then
    some (false : Bool)
  else
    Option.bind (s_l23Below p0.Stem p1) fun x24 =>
    Option.bind (bif x24 then
    Option.bind (s_l23Below p0.Loop p1) fun x29 =>
    some x29
    else
    some false) fun p30 =>
    some (p30 : Bool)

/- loop.example/g00869/spec.WordOk -/

def s_WordOk (p0 : Sig) (p1 : Word) : Option (Bool) :=
  Option.bind (s_SigOk p0) fun x6 =>
  Option.bind (bif x6 then
  Option.bind (s_LettersOf p0) fun x10 =>
  Option.bind (s_l23Word p1 x10) fun x11 =>
  some x11
  else
  some false) fun p12 =>
  some (p12 : Bool)

/- loop.example/g00869/spec.l1Copy -/

def s_l1Copy (p0 : (List Int)) : Option ((List Int)) :=
  Option.bind (appS 8 ([] : List Int) p0) fun x5 =>
  some (x5 : (List Int))

/- loop.example/g00869/spec.l1Has -/
def s_l1Has_b0 (p0 : (List Int)) (p1 : Int) (v5 : Int) (s1 : Unit) : Option (Bool ⊕ ((Unit) ⊕ (Unit))) :=
  Option.bind (idx p0 v5) fun x14 =>
  bif (x14 == p1) then
    some (.inl (true : Bool))
  else
    some (.inr (.inr ()))
def s_l1Has (p0 : (List Int)) (p1 : Int) : Option (Bool) :=
  Option.bind (cntM (s_l1Has_b0 p0 p1) p0.length 0 ()) fun q2 =>
  aft (fun r => some r) (fun s3 =>
    some (false : Bool)) q2

/- loop.example/g00869/spec.l24Each -/
def s_l24Each_b0 (p0 : (List Int)) (p1 : (List Int)) (v5 : Int) (s1 : Unit) : Option (Bool ⊕ ((Unit) ⊕ (Unit))) :=
  Option.bind (idx p0 v5) fun x15 =>
  Option.bind (s_l1Has p1 x15) fun x17 =>
  bif (!x17) then
    some (.inl (false : Bool))
  else
    some (.inr (.inr ()))
def s_l24Each (p0 : (List Int)) (p1 : (List Int)) : Option (Bool) :=
  Option.bind (cntM (s_l24Each_b0 p0 p1) p0.length 0 ()) fun q2 =>
  aft (fun r => some r) (fun s3 =>
    some (true : Bool)) q2

/- loop.example/g00869/spec.l24Next -/
def s_l24Next_b0 (p0 : Clause) (p1 : (List Int)) (p2 : Int) (v7 : Int) (s1 : Unit) : Option (Bool ⊕ ((Unit) ⊕ (Unit))) :=
  Option.bind (bif decide ((IntKind.i64.wrap (v7 + 1)) < (p1.length : Int)) then
    some ((IntKind.i64.wrap (v7 + 1)) : Int)
  else
    some (p2 : Int)) fun q4 =>
  Option.bind (idx p1 v7) fun x27 =>
  Option.bind (s_l1Has p0.A x27) fun x29 =>
  Option.bind (bif x29 then
  Option.bind (idx p1 q4) fun x35 =>
  Option.bind (s_l1Has p0.B x35) fun x37 =>
  some (!x37)
  else
  some false) fun p39 =>
  bif p39 then
    some (.inl (false : Bool))
  else
    some (.inr (.inr ()))
def s_l24Next (p0 : Clause) (p1 : (List Int)) (p2 : Int) : Option (Bool) :=
  Option.bind (cntM (s_l24Next_b0 p0 p1 p2) p1.length 0 ()) fun q2 =>
  aft (fun r => some r) (fun s3 =>
    some (true : Bool)) q2

/- loop.example/g00869/spec.l24Some -/
def s_l24Some_b0 (p0 : (List Int)) (p1 : (List Int)) (v5 : Int) (s1 : Unit) : Option (Bool ⊕ ((Unit) ⊕ (Unit))) :=
  Option.bind (idx p0 v5) fun x15 =>
  Option.bind (s_l1Has p1 x15) fun x17 =>
  bif x17 then
    some (.inl (true : Bool))
  else
    some (.inr (.inr ()))
def s_l24Some (p0 : (List Int)) (p1 : (List Int)) : Option (Bool) :=
  Option.bind (cntM (s_l24Some_b0 p0 p1) p0.length 0 ()) fun q2 =>
  aft (fun r => some r) (fun s3 =>
    some (false : Bool)) q2

/- loop.example/g00869/spec.l24Answer -/
def s_l24Answer_b0 (p0 : Clause) (p2 : (List Int)) (v7 : Int) (s1 : Unit) : Option (Bool ⊕ ((Unit) ⊕ (Unit))) :=
  Option.bind (idx p2 v7) fun x23 =>
  Option.bind (s_l1Has p0.A x23) fun x25 =>
  Option.bind (bif x25 then
  Option.bind (subS p2 v7 (p2.length : Int)) fun x29 =>
  Option.bind (s_l24Some x29 p0.B) fun x32 =>
  some (!x32)
  else
  some false) fun p34 =>
  bif p34 then
    some (.inl (false : Bool))
  else
    some (.inr (.inr ()))
def s_l24Answer (p0 : Clause) (p1 : Word) (p2 : (List Int)) : Option (Bool) :=
  Option.bind (s_l24Some p1.Loop p0.B) fun x12 =>
  bif x12 then
    some (true : Bool)
  else
    Option.bind (cntM (s_l24Answer_b0 p0 p2) p2.length 0 ()) fun q2 =>
    aft (fun r => some r) (fun s3 =>
      some (true : Bool)) q2

/- loop.example/g00869/spec.HoldsOn -/

def s_HoldsOn (p0 : Sig) (p1 : Clause) (p2 : Word) : Option (Bool) :=
  Option.bind (s_ClauseOk p0 p1) fun x10 =>
  Option.bind (bif (!x10) then
  some true
  else
  Option.bind (s_WordOk p0 p2) fun x15 =>
  some (!x15)) fun p17 =>
  bif p17 then
    some (false : Bool)
  else
    Option.bind (s_l1Copy p2.Stem) fun x20 =>
    Option.bind (appS 8 x20 p2.Loop) fun x23 =>
    bif (p1.Kind == 1) then
      Option.bind (s_l24Each x23 p1.A) fun x31 =>
      some (x31 : Bool)
    else
      bif (p1.Kind == 2) then
        Option.bind (s_l24Next p1 x23 (p2.Stem.length : Int)) fun x39 =>
        some (x39 : Bool)
      else
        bif (p1.Kind == 3) then
          Option.bind (s_l24Answer p1 p2 x23) fun x45 =>
          some (x45 : Bool)
        else
          bif (p1.Kind == 4) then
            Option.bind (s_l24Some p2.Loop p1.A) fun x52 =>
            some (x52 : Bool)
          else
            bif (p1.Kind == 5) then
              Option.bind (s_l24Each p2.Loop p1.A) fun x59 =>
              some (x59 : Bool)
            else
              bif (p1.Kind == 6) then
                Option.bind (s_l24Some x23 p1.A) fun x65 =>
                some (x65 : Bool)
              else
                Option.bind (s_l24Some p2.Loop p1.A) fun x70 =>
                Option.bind (bif (!x70) then
                some true
                else
                Option.bind (s_l24Some p2.Loop p1.B) fun x77 =>
                some x77) fun p78 =>
                some (p78 : Bool)

/- loop.example/g00869/spec.FirstBroken -/
def s_FirstBroken_b0 (p0 : Sig) (p1 : (List Clause)) (p2 : Word) (v7 : Int) (s1 : Unit) : Option (Int ⊕ ((Unit) ⊕ (Unit))) :=
  Option.bind (idx p1 v7) fun x27 =>
  Option.bind (s_HoldsOn p0 x27 p2) fun x30 =>
  bif (!x30) then
    some (.inl (v7 : Int))
  else
    some (.inr (.inr ()))
def s_FirstBroken (p0 : Sig) (p1 : (List Clause)) (p2 : Word) : Option (Int) :=
  Option.bind (s_ClausesOk p0 p1) fun x10 =>
  Option.bind (bif (!x10) then
  some true
  else
  Option.bind (s_WordOk p0 p2) fun x15 =>
  some (!x15)) fun p17 =>
  bif p17 then
    some ((-2) : Int)
  else
    Option.bind (cntM (s_FirstBroken_b0 p0 p1 p2) p1.length 0 ()) fun q2 =>
    aft (fun r => some r) (fun s3 =>
      some ((-1) : Int)) q2

/- loop.example/g00869/spec.AllHold -/

def s_AllHold (p0 : Sig) (p1 : (List Clause)) (p2 : Word) : Option (Bool) :=
  Option.bind (s_FirstBroken p0 p1 p2) fun x10 =>
  some ((x10 == (-1)) : Bool)

/- loop.example/g00869/spec.KeepsOn -/

def s_KeepsOn (p0 : Sig) (p1 : Machine) (p2 : (List Clause)) (p3 : Word) : Option (Bool) :=
  Option.bind (s_RunWord p0 p1 p3) fun x14 =>
  Option.bind (s_AllHold p0 p2 x14) fun x15 =>
  some (x15 : Bool)

/- loop.example/g00869/impl.isSig -/

def i_isSig (p0 : Sig) : Option (Bool) :=
  Option.bind (bif decide (1 ≤ p0.In) then
  some (decide (p0.In ≤ 2))
  else
  some false) fun p10 =>
  Option.bind (bif p10 then
  some (decide (1 ≤ p0.Out))
  else
  some false) fun p15 =>
  Option.bind (bif p15 then
  some (decide (p0.Out ≤ 2))
  else
  some false) fun p20 =>
  some (p20 : Bool)

/- loop.example/g00869/impl.inputsOf -/

def i_inputsOf (p0 : Sig) : Option (Int) :=
  Option.bind (nn p0.In) fun _z5 =>
  some ((IntKind.i64.wrap (1 * 2 ^ (min (Int.toNat p0.In) (IntKind.bits IntKind.i64)))) : Int)

/- loop.example/g00869/impl.areLetters$1 -/

def i_areLetters_1 (p0 : Int) (c0 : Int) : Option (Bool) :=
  Option.bind (bif decide (p0 < 0) then
  some true
  else
  some (decide (c0 ≤ p0))) fun p10 =>
  some (p10 : Bool)

/- slices.IndexFunc[[]int64,int64] -/
def slices_IndexFunc_I_int64__i_areLetters_1_b0 (p0 : (List Int)) (c1_0 : Int) (v8 : Int) (s1 : Unit) : Option (Int ⊕ ((Unit) ⊕ (Unit))) :=
  Option.bind (idx p0 v8) fun x14 =>
  Option.bind (i_areLetters_1 x14 c1_0) fun x16 =>
  bif x16 then
    some (.inl (v8 : Int))
  else
    some (.inr (.inr ()))
def slices_IndexFunc_I_int64__i_areLetters_1 (p0 : (List Int)) (c1_0 : Int) : Option (Int) :=
  Option.bind (cntM (slices_IndexFunc_I_int64__i_areLetters_1_b0 p0 c1_0) p0.length 0 ()) fun q2 =>
  aft (fun r => some r) (fun s3 =>
    some ((-1) : Int)) q2

/- slices.ContainsFunc[[]int64,int64] -/

def slices_ContainsFunc_I_int64__i_areLetters_1 (p0 : (List Int)) (c1_0 : Int) : Option (Bool) :=
  Option.bind (slices_IndexFunc_I_int64__i_areLetters_1 p0 c1_0) fun x7 =>
  some (decide (0 ≤ x7) : Bool)

/- loop.example/g00869/impl.areLetters -/

def i_areLetters (p0 : (List Int)) (p1 : Int) : Option (Bool) :=
  Option.bind (slices_ContainsFunc_I_int64__i_areLetters_1 p0 p1) fun x7 =>
  some ((!x7) : Bool)

/- loop.example/g00869/impl.isMachine -/
def i_isMachine_b0 (p0 : Sig) (p1 : Machine) (v29 : Int) (s1 : Unit) : Option (Bool ⊕ ((Unit) ⊕ (Unit))) :=
  Option.bind (idx p1.Next v29) fun x32 =>
  Option.bind (i_inputsOf p0) fun x37 =>
  Option.bind (bif ((x32.length : Int) != x37) then
  some true
  else
  Option.bind (idx p1.Out v29) fun x43 =>
  some ((x43.length : Int) != (x32.length : Int))) fun p49 =>
  Option.bind (bif p49 then
  some true
  else
  Option.bind (i_areLetters x32 (p1.Next.length : Int)) fun x53 =>
  some (!x53)) fun p55 =>
  Option.bind (bif p55 then
  some true
  else
  Option.bind (idx p1.Out v29) fun x60 =>
  Option.bind (nn p0.Out) fun _z64 =>
  Option.bind (i_areLetters x60 (IntKind.i64.wrap (1 * 2 ^ (min (Int.toNat p0.Out) (IntKind.bits IntKind.i64))))) fun x65 =>
  some (!x65)) fun p67 =>
  bif p67 then
    some (.inl (false : Bool))
  else
    some (.inr (.inr ()))
def i_isMachine (p0 : Sig) (p1 : Machine) : Option (Bool) :=
  Option.bind (bif decide ((p1.Next.length : Int) < 1) then
  some true
  else
  some (decide (48 < (p1.Next.length : Int)))) fun p16 =>
  Option.bind (bif p16 then
  some true
  else
  some ((p1.Out.length : Int) != (p1.Next.length : Int))) fun p25 =>
  bif p25 then
    some (false : Bool)
  else
    Option.bind (cntM (i_isMachine_b0 p0 p1) p1.Next.length 0 ()) fun q2 =>
    aft (fun r => some r) (fun s3 =>
      some (true : Bool)) q2

/- loop.example/g00869/impl.isWord -/

def i_isWord (p0 : Word) (p1 : Int) : Option (Bool) :=
  Option.bind (bif decide ((p0.Stem.length : Int) ≤ 600) then
  some (decide (1 ≤ (p0.Loop.length : Int)))
  else
  some false) fun p14 =>
  Option.bind (bif p14 then
  some (decide ((p0.Loop.length : Int) ≤ 600))
  else
  some false) fun p20 =>
  Option.bind (bif p20 then
  Option.bind (i_areLetters p0.Stem p1) fun x25 =>
  some x25
  else
  some false) fun p26 =>
  Option.bind (bif p26 then
  Option.bind (i_areLetters p0.Loop p1) fun x31 =>
  some x31
  else
  some false) fun p32 =>
  some (p32 : Bool)

/- loop.example/g00869/impl.runWord$1 -/
def i_runWord_1_b0 (p0 : (List Int)) (c1 : Machine) (c3 : Sig) (v10 : Int) (s1 : (List Int) × Int) : Option (((List Int) × Int) ⊕ (((List Int) × Int) ⊕ ((List Int) × Int))) :=
  Option.bind (idx p0 v10) fun x12 =>
  Option.bind (idx c1.Out s1.2) fun x18 =>
  Option.bind (idx x18 x12) fun x21 =>
  Option.bind (i_inputsOf c3) fun x24 =>
  Option.bind (appS 8 s1.1 ([(IntKind.i64.wrap ((IntKind.i64.wrap (x21 * x24)) + x12))] : List Int)) fun x29 =>
  Option.bind (idx c1.Next s1.2) fun x33 =>
  Option.bind (idx x33 x12) fun x36 =>
  some (.inr (.inr ((x29 : (List Int)), (x36 : Int))))
def i_runWord_1 (p0 : (List Int)) (c0 : (List Int)) (c1 : Machine) (c2 : Int) (c3 : Sig) : Option ((List Int) × Int) :=
  Option.bind (cntM (i_runWord_1_b0 p0 c1 c3) p0.length 0 ((c0 : (List Int)), (c2 : Int))) fun q2 =>
  aft (fun r => some r) (fun s3 =>
    some ((s3.1 : (List Int)), (s3.2 : Int))) q2

/- slices.Index[[]int64,int64] -/
def slices_Index_I_int64_b0 (p0 : (List Int)) (p1 : Int) (v8 : Int) (s1 : Unit) : Option (Int ⊕ ((Unit) ⊕ (Unit))) :=
  Option.bind (idx p0 v8) fun x14 =>
  bif (p1 == x14) then
    some (.inl (v8 : Int))
  else
    some (.inr (.inr ()))
def slices_Index_I_int64 (p0 : (List Int)) (p1 : Int) : Option (Int) :=
  Option.bind (cntM (slices_Index_I_int64_b0 p0 p1) p0.length 0 ()) fun q2 =>
  aft (fun r => some r) (fun s3 =>
    some ((-1) : Int)) q2

/- slices.Contains[[]int64,int64] -/

def slices_Contains_I_int64 (p0 : (List Int)) (p1 : Int) : Option (Bool) :=
  Option.bind (slices_Index_I_int64 p0 p1) fun x7 =>
  some (decide (0 ≤ x7) : Bool)

/- loop.example/g00869/impl.runWord -/
def i_runWord_b0 (p0 : Sig) (p1 : Machine) (p2 : Word) (s1 : (List Int) × (List Int) × Int) : Option ((Word × Bool) ⊕ (((List Int) × (List Int) × Int) ⊕ ((List Int) × (List Int) × Int))) :=
  Option.bind (slices_Contains_I_int64 s1.1 s1.2.2) fun x23 =>
  bif (!x23) then
    Option.bind (appS 8 s1.1 ([s1.2.2] : List Int)) fun x28 =>
    Option.bind (i_runWord_1 p2.Loop s1.2.1 p1 s1.2.2 p0) fun x32 =>
    some (.inr (.inr ((x28 : (List Int)), (x32.1 : (List Int)), (x32.2 : Int))))
  else
    some (.inr (.inl ((s1.1 : (List Int)), (s1.2.1 : (List Int)), (s1.2.2 : Int))))
def i_runWord (p0 : Sig) (p1 : Machine) (p2 : Word) : Option (Word × Bool) :=
  Option.bind (i_runWord_1 p2.Stem ([] : List Int) p1 0 p0) fun x19 =>
  Option.bind (whileM (i_runWord_b0 p0 p1 p2) (2 ^ 64) ((([] : List Int) : (List Int)), (x19.1 : (List Int)), (x19.2 : Int))) fun q2 =>
  aft (fun r => some r) (fun s3 =>
    Option.bind (slices_Index_I_int64 s3.1 s3.2.2) fun x38 =>
    Option.bind (subS s3.2.1 0 (IntKind.i64.wrap ((p2.Stem.length : Int) + (IntKind.i64.wrap (x38 * (p2.Loop.length : Int)))))) fun x47 =>
    Option.bind (subS s3.2.1 (IntKind.i64.wrap ((p2.Stem.length : Int) + (IntKind.i64.wrap (x38 * (p2.Loop.length : Int))))) (s3.2.1.length : Int)) fun x52 =>
    Option.bind (appS 8 ([] : List Int) x47) fun x48 =>
    Option.bind (appS 8 ([] : List Int) x52) fun x53 =>
    Option.bind (bif decide ((((⟨x48, x53⟩ : Word).Stem).length : Int) ≤ 600) then
    some (decide ((((⟨x48, x53⟩ : Word).Loop).length : Int) ≤ 600))
    else
    some false) fun p65 =>
    some (((⟨x48, x53⟩ : Word) : Word), (p65 : Bool))) q2

/- loop.example/g00869/impl.RunWord -/

def i_RunWord (p0 : Sig) (p1 : Machine) (p2 : Word) : Option (Word) :=
  Option.bind (i_isSig p0) fun x10 =>
  Option.bind (bif (!x10) then
  some true
  else
  Option.bind (i_isMachine p0 p1) fun x15 =>
  some (!x15)) fun p17 =>
  Option.bind (bif p17 then
  some true
  else
  Option.bind (i_inputsOf p0) fun x21 =>
  Option.bind (i_isWord p2 x21) fun x22 =>
  some (!x22)) fun p24 =>
  bif p24 then
    some ((⟨([] : List Int), ([] : List Int)⟩ : Word) : Word)
  else
    Option.bind (i_runWord p0 p1 p2) fun x30 =>
    bif (!x30.2) then
      some ((⟨([] : List Int), ([] : List Int)⟩ : Word) : Word)
    else
      some (x30.1 : Word)

/- loop.example/g00869/impl.lettersOf -/

def i_lettersOf (p0 : Sig) : Option (Int) :=
  Option.bind (nn (IntKind.i64.wrap (p0.In + p0.Out))) fun _z8 =>
  some ((IntKind.i64.wrap (1 * 2 ^ (min (Int.toNat (IntKind.i64.wrap (p0.In + p0.Out))) (IntKind.bits IntKind.i64)))) : Int)

/- loop.example/g00869/impl.isSet -/
def i_isSet_b0 (p0 : (List Int)) (p1 : Int) (v9 : Int) (s1 : Unit) : Option (Bool ⊕ ((Unit) ⊕ (Unit))) :=
  Option.bind (idx p0 v9) fun x12 =>
  Option.bind (bif decide (x12 < 0) then
  some true
  else
  some (decide (p1 ≤ x12))) fun p20 =>
  Option.bind (bif p20 then
  some true
  else
  Option.bind (bif decide (0 < v9) then
  Option.bind (idx p0 (IntKind.i64.wrap (v9 - 1))) fun x29 =>
  some (decide (x12 ≤ x29))
  else
  some false) fun p32 =>
  some p32) fun p33 =>
  bif p33 then
    some (.inl (false : Bool))
  else
    some (.inr (.inr ()))
def i_isSet (p0 : (List Int)) (p1 : Int) : Option (Bool) :=
  Option.bind (cntM (i_isSet_b0 p0 p1) p0.length 0 ()) fun q2 =>
  aft (fun r => some r) (fun s3 =>
    some (true : Bool)) q2

/- loop.example/g00869/impl.hasSecond -/

def i_hasSecond (p0 : Int) : Option (Bool) :=
  Option.bind (bif (p0 == 2) then
  some true
  else
  some (p0 == 3)) fun p8 =>
  Option.bind (bif p8 then
  some true
  else
  some (p0 == 7)) fun p12 =>
  some (p12 : Bool)

/- loop.example/g00869/impl.isClause -/

def i_isClause (p0 : Sig) (p1 : Clause) : Option (Bool) :=
  Option.bind (bif decide (p1.Kind < 1) then
  some true
  else
  some (decide (7 < p1.Kind))) fun p12 =>
  Option.bind (bif p12 then
  some true
  else
  Option.bind (i_lettersOf p0) fun x17 =>
  Option.bind (i_isSet p1.A x17) fun x18 =>
  some (!x18)) fun p20 =>
  Option.bind (bif p20 then
  some true
  else
  Option.bind (i_lettersOf p0) fun x25 =>
  Option.bind (i_isSet p1.B x25) fun x26 =>
  some (!x26)) fun p28 =>
  bif p28 then
    some (false : Bool)
  else
    Option.bind (i_hasSecond p1.Kind) fun x31 =>
    Option.bind (bif x31 then
    some true
    else
    some ((p1.B.length : Int) == 0)) fun p37 =>
    some (p37 : Bool)

/- loop.example/g00869/impl.areClauses$1 -/

def i_areClauses_1 (p0 : Clause) (c0 : Sig) : Option (Bool) :=
  Option.bind (i_isClause c0 p0) fun x6 =>
  some ((!x6) : Bool)

/- slices.IndexFunc[[]loop.example/g00869/impl.Clause,loop.example/g00869/impl.Clause] -/
def slices_IndexFunc_i_Clause_i_Clause__i_areClauses_1_b0 (p0 : (List Clause)) (c1_0 : Sig) (v8 : Int) (s1 : Unit) : Option (Int ⊕ ((Unit) ⊕ (Unit))) :=
  Option.bind (idx p0 v8) fun x14 =>
  Option.bind (i_areClauses_1 x14 c1_0) fun x16 =>
  bif x16 then
    some (.inl (v8 : Int))
  else
    some (.inr (.inr ()))
def slices_IndexFunc_i_Clause_i_Clause__i_areClauses_1 (p0 : (List Clause)) (c1_0 : Sig) : Option (Int) :=
  Option.bind (cntM (slices_IndexFunc_i_Clause_i_Clause__i_areClauses_1_b0 p0 c1_0) p0.length 0 ()) fun q2 =>
  aft (fun r => some r) (fun s3 =>
    some ((-1) : Int)) q2

/- slices.ContainsFunc[[]loop.example/g00869/impl.Clause,loop.example/g00869/impl.Clause] -/

def slices_ContainsFunc_i_Clause_i_Clause__i_areClauses_1 (p0 : (List Clause)) (c1_0 : Sig) : Option (Bool) :=
  Option.bind (slices_IndexFunc_i_Clause_i_Clause__i_areClauses_1 p0 c1_0) fun x7 =>
  some (decide (0 ≤ x7) : Bool)

/- loop.example/g00869/impl.areClauses -/

def i_areClauses (p0 : Sig) (p1 : (List Clause)) : Option (Bool) :=
  Option.bind (bif decide ((p1.length : Int) ≤ 3) then
  Option.bind (slices_ContainsFunc_i_Clause_i_Clause__i_areClauses_1 p1 p0) fun x11 =>
  some (!x11)
  else
  some false) fun p13 =>
  some (p13 : Bool)

/- loop.example/g00869/impl.holdsOn$1 -/

def i_holdsOn_1 (p0 : Int) (c0 : Clause) : Option (Bool) :=
  Option.bind (slices_Contains_I_int64 c0.A p0) fun x7 =>
  some (x7 : Bool)

/- loop.example/g00869/impl.holdsOn$3 -/

def i_holdsOn_3__i_holdsOn_1 (p0 : Int) (c1_0 : Clause) : Option (Bool) :=
  Option.bind (i_holdsOn_1 p0 c1_0) fun x6 =>
  some ((!x6) : Bool)

/- slices.IndexFunc[[]int64,int64] -/
def slices_IndexFunc_I_int64__i_holdsOn_3__i_holdsOn_1_b0 (p0 : (List Int)) (c1_0_0 : Clause) (v8 : Int) (s1 : Unit) : Option (Int ⊕ ((Unit) ⊕ (Unit))) :=
  Option.bind (idx p0 v8) fun x14 =>
  Option.bind (i_holdsOn_3__i_holdsOn_1 x14 c1_0_0) fun x16 =>
  bif x16 then
    some (.inl (v8 : Int))
  else
    some (.inr (.inr ()))
def slices_IndexFunc_I_int64__i_holdsOn_3__i_holdsOn_1 (p0 : (List Int)) (c1_0_0 : Clause) : Option (Int) :=
  Option.bind (cntM (slices_IndexFunc_I_int64__i_holdsOn_3__i_holdsOn_1_b0 p0 c1_0_0) p0.length 0 ()) fun q2 =>
  aft (fun r => some r) (fun s3 =>
    some ((-1) : Int)) q2

/- slices.ContainsFunc[[]int64,int64] -/

def slices_ContainsFunc_I_int64__i_holdsOn_3__i_holdsOn_1 (p0 : (List Int)) (c1_0_0 : Clause) : Option (Bool) :=
  Option.bind (slices_IndexFunc_I_int64__i_holdsOn_3__i_holdsOn_1 p0 c1_0_0) fun x7 =>
  some (decide (0 ≤ x7) : Bool)

/- loop.example/g00869/impl.holdsOn$2 -/

def i_holdsOn_2 (p0 : Int) (c0 : Clause) : Option (Bool) :=
  Option.bind (slices_Contains_I_int64 c0.B p0) fun x7 =>
  some (x7 : Bool)

/- slices.IndexFunc[[]int64,int64] -/
def slices_IndexFunc_I_int64__i_holdsOn_2_b0 (p0 : (List Int)) (c1_0 : Clause) (v8 : Int) (s1 : Unit) : Option (Int ⊕ ((Unit) ⊕ (Unit))) :=
  Option.bind (idx p0 v8) fun x14 =>
  Option.bind (i_holdsOn_2 x14 c1_0) fun x16 =>
  bif x16 then
    some (.inl (v8 : Int))
  else
    some (.inr (.inr ()))
def slices_IndexFunc_I_int64__i_holdsOn_2 (p0 : (List Int)) (c1_0 : Clause) : Option (Int) :=
  Option.bind (cntM (slices_IndexFunc_I_int64__i_holdsOn_2_b0 p0 c1_0) p0.length 0 ()) fun q2 =>
  aft (fun r => some r) (fun s3 =>
    some ((-1) : Int)) q2

/- slices.ContainsFunc[[]int64,int64] -/

def slices_ContainsFunc_I_int64__i_holdsOn_2 (p0 : (List Int)) (c1_0 : Clause) : Option (Bool) :=
  Option.bind (slices_IndexFunc_I_int64__i_holdsOn_2 p0 c1_0) fun x7 =>
  some (decide (0 ≤ x7) : Bool)

/- slices.IndexFunc[[]int64,int64] -/
def slices_IndexFunc_I_int64__i_holdsOn_1_b0 (p0 : (List Int)) (c1_0 : Clause) (v8 : Int) (s1 : Unit) : Option (Int ⊕ ((Unit) ⊕ (Unit))) :=
  Option.bind (idx p0 v8) fun x14 =>
  Option.bind (i_holdsOn_1 x14 c1_0) fun x16 =>
  bif x16 then
    some (.inl (v8 : Int))
  else
    some (.inr (.inr ()))
def slices_IndexFunc_I_int64__i_holdsOn_1 (p0 : (List Int)) (c1_0 : Clause) : Option (Int) :=
  Option.bind (cntM (slices_IndexFunc_I_int64__i_holdsOn_1_b0 p0 c1_0) p0.length 0 ()) fun q2 =>
  aft (fun r => some r) (fun s3 =>
    some ((-1) : Int)) q2

/- slices.ContainsFunc[[]int64,int64] -/

def slices_ContainsFunc_I_int64__i_holdsOn_1 (p0 : (List Int)) (c1_0 : Clause) : Option (Bool) :=
  Option.bind (slices_IndexFunc_I_int64__i_holdsOn_1 p0 c1_0) fun x7 =>
  some (decide (0 ≤ x7) : Bool)

/- loop.example/g00869/impl.holdsOn -/
def i_holdsOn_b1 (p0 : Clause) (x28 : (List Int)) (v9 : Int) (s1 : Unit) : Option (Bool ⊕ ((Unit) ⊕ (Unit))) :=
  Option.bind (idx x28 (IntKind.i64.wrap (v9 - 1))) fun x49 =>
  Option.bind (i_holdsOn_1 x49 p0) fun x51 =>
  Option.bind (bif x51 then
  Option.bind (idx x28 v9) fun x56 =>
  Option.bind (i_holdsOn_2 x56 p0) fun x58 =>
  some (!x58)
  else
  some false) fun p60 =>
  bif p60 then
    some (.inl (false : Bool))
  else
    some (.inr (.inr ()))
def i_holdsOn_b3 (p0 : Clause) (x69 : (List Int)) (v71 : Int) (s4 : Bool) : Option (Bool ⊕ ((Bool) ⊕ (Bool))) :=
  Option.bind (idx x69 v71) fun x73 =>
  Option.bind (bif s4 then
  some true
  else
  Option.bind (i_holdsOn_1 x73 p0) fun x79 =>
  some x79) fun p80 =>
  Option.bind (bif p80 then
  Option.bind (i_holdsOn_2 x73 p0) fun x84 =>
  some (!x84)
  else
  some false) fun p86 =>
  some (.inr (.inr (p86 : Bool)))
def i_holdsOn (p0 : Clause) (p1 : Word) : Option (Bool) :=
  Option.bind (idx p1.Loop 0) fun x25 =>
  Option.bind (appS 8 ([] : List Int) p1.Stem) fun x19 =>
  Option.bind (appS 8 x19 p1.Loop) fun x22 =>
  Option.bind (appS 8 x22 ([x25] : List Int)) fun x28 =>
  bif (p0.Kind == 1) then
    Option.bind (slices_ContainsFunc_I_int64__i_holdsOn_3__i_holdsOn_1 x28 p0) fun x35 =>
    some ((!x35) : Bool)
  else
    bif (p0.Kind == 2) then
      Option.bind (cntM (i_holdsOn_b1 p0 x28) (Int.toNat ((x28.length : Int) - 1)) 1 ()) fun q2 =>
      aft (fun r => some r) (fun s3 =>
        some (true : Bool)) q2
    else
      bif (p0.Kind == 3) then
        Option.bind (appS 8 ([] : List Int) p1.Stem) fun x66 =>
        Option.bind (appS 8 x66 p1.Loop) fun x69 =>
        Option.bind (cntM (i_holdsOn_b3 p0 x69) x69.length 0 (false : Bool)) fun q5 =>
        aft (fun r => some r) (fun s6 =>
          Option.bind (bif (!s6) then
          some true
          else
          Option.bind (slices_ContainsFunc_I_int64__i_holdsOn_2 p1.Loop p0) fun x94 =>
          some x94) fun p95 =>
          some (p95 : Bool)) q5
      else
        bif (p0.Kind == 4) then
          Option.bind (slices_ContainsFunc_I_int64__i_holdsOn_1 p1.Loop p0) fun x101 =>
          some (x101 : Bool)
        else
          bif (p0.Kind == 5) then
            Option.bind (slices_ContainsFunc_I_int64__i_holdsOn_3__i_holdsOn_1 p1.Loop p0) fun x107 =>
            some ((!x107) : Bool)
          else
            bif (p0.Kind == 6) then
              Option.bind (slices_ContainsFunc_I_int64__i_holdsOn_1 x28 p0) fun x113 =>
              some (x113 : Bool)
            else
              Option.bind (slices_ContainsFunc_I_int64__i_holdsOn_1 p1.Loop p0) fun x117 =>
              Option.bind (bif (!x117) then
              some true
              else
              Option.bind (slices_ContainsFunc_I_int64__i_holdsOn_2 p1.Loop p0) fun x123 =>
              some x123) fun p124 =>
              some (p124 : Bool)

/- loop.example/g00869/impl.FirstBroken$1 -/

def i_FirstBroken_1 (p0 : Clause) (c0 : Word) : Option (Bool) :=
  Option.bind (i_holdsOn p0 c0) fun x6 =>
  some ((!x6) : Bool)

/- slices.IndexFunc[[]loop.example/g00869/impl.Clause,loop.example/g00869/impl.Clause] -/
def slices_IndexFunc_i_Clause_i_Clause__i_FirstBroken_1_b0 (p0 : (List Clause)) (c1_0 : Word) (v8 : Int) (s1 : Unit) : Option (Int ⊕ ((Unit) ⊕ (Unit))) :=
  Option.bind (idx p0 v8) fun x14 =>
  Option.bind (i_FirstBroken_1 x14 c1_0) fun x16 =>
  bif x16 then
    some (.inl (v8 : Int))
  else
    some (.inr (.inr ()))
def slices_IndexFunc_i_Clause_i_Clause__i_FirstBroken_1 (p0 : (List Clause)) (c1_0 : Word) : Option (Int) :=
  Option.bind (cntM (slices_IndexFunc_i_Clause_i_Clause__i_FirstBroken_1_b0 p0 c1_0) p0.length 0 ()) fun q2 =>
  aft (fun r => some r) (fun s3 =>
    some ((-1) : Int)) q2

/- loop.example/g00869/impl.FirstBroken -/

def i_FirstBroken (p0 : Sig) (p1 : (List Clause)) (p2 : Word) : Option (Int) :=
  Option.bind (i_isSig p0) fun x8 =>
  Option.bind (bif (!x8) then
  some true
  else
  Option.bind (i_areClauses p0 p1) fun x13 =>
  some (!x13)) fun p15 =>
  Option.bind (bif p15 then
  some true
  else
  Option.bind (i_lettersOf p0) fun x19 =>
  Option.bind (i_isWord p2 x19) fun x20 =>
  some (!x20)) fun p22 =>
  bif p22 then
    some ((-2) : Int)
  else
    Option.bind (slices_IndexFunc_i_Clause_i_Clause__i_FirstBroken_1 p1 p2) fun x25 =>
    some (x25 : Int)

/- loop.example/g00869/impl.AllHold -/

def i_AllHold (p0 : Sig) (p1 : (List Clause)) (p2 : Word) : Option (Bool) :=
  Option.bind (i_FirstBroken p0 p1 p2) fun x10 =>
  some ((x10 == (-1)) : Bool)

/- loop.example/g00869/impl.KeepsOn -/

def i_KeepsOn (p0 : Sig) (p1 : Machine) (p2 : (List Clause)) (p3 : Word) : Option (Bool) :=
  Option.bind (i_RunWord p0 p1 p3) fun x13 =>
  Option.bind (bif decide (0 < (x13.Loop.length : Int)) then
  Option.bind (i_AllHold p0 p2 x13) fun x22 =>
  some x22
  else
  some false) fun p23 =>
  some (p23 : Bool)

/- loop.example/g00869/laws.eqInt64S -/
def l_eqInt64S_b0 (p0 : (List Int)) (p1 : (List Int)) (v5 : Int) (s1 : Unit) : Option (Bool ⊕ ((Unit) ⊕ (Unit))) :=
  Option.bind (idx p0 v5) fun x19 =>
  Option.bind (idx p1 v5) fun x23 =>
  bif (x19 != x23) then
    some (.inl (false : Bool))
  else
    some (.inr (.inr ()))
def l_eqInt64S (p0 : (List Int)) (p1 : (List Int)) : Option (Bool) :=
  bif ((p0.length : Int) != (p1.length : Int)) then
    some (false : Bool)
  else
    Option.bind (cntM (l_eqInt64S_b0 p0 p1) p0.length 0 ()) fun q2 =>
    aft (fun r => some r) (fun s3 =>
      some (true : Bool)) q2

/- loop.example/g00869/laws.eqInt64SS -/
def l_eqInt64SS_b0 (p0 : (List (List Int))) (p1 : (List (List Int))) (v5 : Int) (s1 : Unit) : Option (Bool ⊕ ((Unit) ⊕ (Unit))) :=
  Option.bind (idx p0 v5) fun x19 =>
  Option.bind (idx p1 v5) fun x23 =>
  Option.bind (l_eqInt64S x19 x23) fun x25 =>
  bif (!x25) then
    some (.inl (false : Bool))
  else
    some (.inr (.inr ()))
def l_eqInt64SS (p0 : (List (List Int))) (p1 : (List (List Int))) : Option (Bool) :=
  bif ((p0.length : Int) != (p1.length : Int)) then
    some (false : Bool)
  else
    Option.bind (cntM (l_eqInt64SS_b0 p0 p1) p0.length 0 ()) fun q2 =>
    aft (fun r => some r) (fun s3 =>
      some (true : Bool)) q2

/- loop.example/g00869/laws.eqMachine -/

def l_eqMachine (p0 : Machine) (p1 : Machine) : Option (Bool) :=
  Option.bind (l_eqInt64SS p0.Next p1.Next) fun x9 =>
  bif (!x9) then
    some (false : Bool)
  else
    Option.bind (l_eqInt64SS p0.Out p1.Out) fun x15 =>
    bif (!x15) then
      some (false : Bool)
    else
      some (true : Bool)

/- loop.example/g00869/laws.eqClause -/

def l_eqClause (p0 : Clause) (p1 : Clause) : Option (Bool) :=
  bif (p0.Kind != p1.Kind) then
    some (false : Bool)
  else
    Option.bind (l_eqInt64S p0.A p1.A) fun x14 =>
    bif (!x14) then
      some (false : Bool)
    else
      Option.bind (l_eqInt64S p0.B p1.B) fun x20 =>
      bif (!x20) then
        some (false : Bool)
      else
        some (true : Bool)

/- loop.example/g00869/laws.eqClauseS -/
def l_eqClauseS_b0 (p0 : (List Clause)) (p1 : (List Clause)) (v5 : Int) (s1 : Unit) : Option (Bool ⊕ ((Unit) ⊕ (Unit))) :=
  Option.bind (idx p0 v5) fun x19 =>
  Option.bind (idx p1 v5) fun x23 =>
  Option.bind (l_eqClause x19 x23) fun x25 =>
  bif (!x25) then
    some (.inl (false : Bool))
  else
    some (.inr (.inr ()))
def l_eqClauseS (p0 : (List Clause)) (p1 : (List Clause)) : Option (Bool) :=
  bif ((p0.length : Int) != (p1.length : Int)) then
    some (false : Bool)
  else
    Option.bind (cntM (l_eqClauseS_b0 p0 p1) p0.length 0 ()) fun q2 =>
    aft (fun r => some r) (fun s3 =>
      some (true : Bool)) q2

/- loop.example/g00869/laws.eqWord -/

def l_eqWord (p0 : Word) (p1 : Word) : Option (Bool) :=
  Option.bind (l_eqInt64S p0.Stem p1.Stem) fun x9 =>
  bif (!x9) then
    some (false : Bool)
  else
    Option.bind (l_eqInt64S p0.Loop p1.Loop) fun x15 =>
    bif (!x15) then
      some (false : Bool)
    else
      some (true : Bool)

/- loop.example/g00869/laws.FnExactKeepsOn -/

def l_FnExactKeepsOn (p0 : Sig) (p1 : Machine) (p2 : (List Clause)) (p3 : Word) : Option (Bool) :=
  Option.bind (l_szMachine p1 1048576) fun x17 =>
  bif decide (x17 < 0) then
    some (true : Bool)
  else
    Option.bind (l_szClauseS p2 x17) fun x22 =>
    bif decide (x22 < 0) then
      some (true : Bool)
    else
      Option.bind (l_szWord p3 x22) fun x27 =>
      bif decide (x27 < 0) then
        some (true : Bool)
      else
        Option.bind (l_toSig p0) fun x31 =>
        Option.bind (l_toMachine p1) fun x33 =>
        Option.bind (l_toClauseS p2) fun x35 =>
        Option.bind (l_toWord p3) fun x37 =>
        Option.bind (s_KeepsOn x31 x33 x35 x37) fun x38 =>
        Option.bind (l_toMachine p1) fun x40 =>
        Option.bind (l_toClauseS p2) fun x42 =>
        Option.bind (l_toWord p3) fun x44 =>
        Option.bind (l_toSig p0) fun x46 =>
        Option.bind (i_KeepsOn x46 x40 x42 x44) fun x50 =>
        bif (x50 != x38) then
          some (false : Bool)
        else
          Option.bind (l_toMachine p1) fun x56 =>
          Option.bind (l_eqMachine x40 x56) fun x57 =>
          bif (!x57) then
            some (false : Bool)
          else
            Option.bind (l_toClauseS p2) fun x61 =>
            Option.bind (l_eqClauseS x42 x61) fun x62 =>
            bif (!x62) then
              some (false : Bool)
            else
              Option.bind (l_toWord p3) fun x66 =>
              Option.bind (l_eqWord x44 x66) fun x67 =>
              bif (!x67) then
                some (false : Bool)
              else
                some (true : Bool)

end Go.Proofs.Ytnmjfjppgpkieaa
