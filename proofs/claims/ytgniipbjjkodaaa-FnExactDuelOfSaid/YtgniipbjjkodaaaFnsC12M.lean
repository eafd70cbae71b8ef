/- The functions on data. By program. -/
import Derived.Test.YtgniipbjjkodaaaTypes
set_option linter.unusedVariables false
set_option linter.unusedSimpArgs false
namespace Go.Proofs.Ytgniipbjjkodaaa
open Go Go.Wk Go.Proofs
set_option maxRecDepth 100000
set_option maxHeartbeats 1000000

/- loop.example/g00869/laws.szInt64S -/

def l_szInt64S (p0 : (List Int)) (p1 : Int) : Option (Int) :=
  bif decide ((IntKind.i64.wrap (p1 - (p0.length : Int))) < 0) then
    some ((-1) : Int)
  else
    some ((IntKind.i64.wrap (p1 - (p0.length : Int))) : Int)

/- loop.example/g00869/laws.szInt64SS -/
def l_szInt64SS_b0 (p0 : (List (List Int))) (v5 : Int) (s1 : Int) : Option (Int ⊕ ((Int) ⊕ (Int))) :=
  Option.bind (idx p0 v5) fun x20 =>
  Option.bind (l_szInt64S x20 s1) fun x23 =>
  bif decide (x23 < 0) then
    some (.inl ((-1) : Int))
  else
    some (.inr (.inr (x23 : Int)))
def l_szInt64SS (p0 : (List (List Int))) (p1 : Int) : Option (Int) :=
  bif decide ((IntKind.i64.wrap (p1 - (p0.length : Int))) < 0) then
    some ((-1) : Int)
  else
    Option.bind (cntM (l_szInt64SS_b0 p0) p0.length 0 ((IntKind.i64.wrap (p1 - (p0.length : Int))) : Int)) fun q2 =>
    aft (fun r => some r) (fun s3 =>
      some (s3 : Int)) q2

/- loop.example/g00869/laws.szMachine -/

def l_szMachine (p0 : Machine) (p1 : Int) : Option (Int) :=
  Option.bind (l_szInt64SS p0.Next p1) fun x8 =>
  bif decide (x8 < 0) then
    some ((-1) : Int)
  else
    Option.bind (l_szInt64SS p0.Out x8) fun x14 =>
    bif decide (x14 < 0) then
      some ((-1) : Int)
    else
      some (x14 : Int)

/- loop.example/g00869/laws.szRival -/

def l_szRival (p0 : Rival) (p1 : Int) : Option (Int) :=
  Option.bind (l_szInt64S p0.In p1) fun x8 =>
  bif decide (x8 < 0) then
    some ((-1) : Int)
  else
    Option.bind (l_szInt64SS p0.Next x8) fun x14 =>
    bif decide (x14 < 0) then
      some ((-1) : Int)
    else
      some (x14 : Int)

/- loop.example/g00869/laws.toSig -/

def l_toSig (p0 : Sig) : Option (Sig) :=
  some ((⟨p0.In, p0.Out⟩ : Sig) : Sig)

/- loop.example/g00869/laws.toInt64S -/
def l_toInt64S_b0 (p0 : (List Int)) (v4 : Int) (s1 : (List Int)) : Option ((List Int) ⊕ (((List Int)) ⊕ ((List Int)))) :=
  Option.bind (idx p0 v4) fun x18 =>
  Option.bind (idx s1 v4) fun x20 =>
  Option.bind (setI s1 v4 x18) fun y2 =>
  some (.inr (.inr (y2 : (List Int))))
def l_toInt64S (p0 : (List Int)) : Option ((List Int)) :=
  Option.bind (mkS 8 (p0.length : Int) (0 : Int)) fun x7 =>
  Option.bind (cntM (l_toInt64S_b0 p0) p0.length 0 (x7 : (List Int))) fun q2 =>
  aft (fun r => some r) (fun s3 =>
    some (s3 : (List Int))) q2

/- loop.example/g00869/laws.toInt64SS -/
def l_toInt64SS_b0 (p0 : (List (List Int))) (v4 : Int) (s1 : (List (List Int))) : Option ((List (List Int)) ⊕ (((List (List Int))) ⊕ ((List (List Int))))) :=
  Option.bind (idx p0 v4) fun x18 =>
  Option.bind (l_toInt64S x18) fun x20 =>
  Option.bind (idx s1 v4) fun x21 =>
  Option.bind (setI s1 v4 (x20 : (List Int))) fun y3 =>
  some (.inr (.inr (y3 : (List (List Int)))))
def l_toInt64SS (p0 : (List (List Int))) : Option ((List (List Int))) :=
  Option.bind (mkS 24 (p0.length : Int) (([] : List Int) : (List Int))) fun x7 =>
  Option.bind (cntM (l_toInt64SS_b0 p0) p0.length 0 (x7 : (List (List Int)))) fun q2 =>
  aft (fun r => some r) (fun s3 =>
    some (s3 : (List (List Int)))) q2

/- loop.example/g00869/laws.toMachine -/

def l_toMachine (p0 : Machine) : Option (Machine) :=
  Option.bind (l_toInt64SS p0.Next) fun x6 =>
  Option.bind (l_toInt64SS p0.Out) fun x10 =>
  some ((⟨x6, x10⟩ : Machine) : Machine)

/- loop.example/g00869/laws.toRival -/

def l_toRival (p0 : Rival) : Option (Rival) :=
  Option.bind (l_toInt64S p0.In) fun x6 =>
  Option.bind (l_toInt64SS p0.Next) fun x10 =>
  some ((⟨x6, x10⟩ : Rival) : Rival)

/- loop.example/g00869/spec.l1In -/

def s_l1In (p0 : Int) (p1 : Int) (p2 : Int) : Option (Bool) :=
  Option.bind (bif decide (p1 ≤ p0) then
  some (decide (p0 ≤ p2))
  else
  some false) fun p14 =>
  some (p14 : Bool)

/- loop.example/g00869/spec.SigOk -/

def s_SigOk (p0 : Sig) : Option (Bool) :=
  Option.bind (s_l1In p0.In 1 2) fun x5 =>
  Option.bind (bif x5 then
  Option.bind (s_l1In p0.Out 1 2) fun x9 =>
  some x9
  else
  some false) fun p10 =>
  some (p10 : Bool)

/- loop.example/g00869/spec.l23Power -/
def s_l23Power_b0  (s1 : Int × Int) : Option (Int ⊕ ((Int × Int) ⊕ (Int × Int))) :=
  bif decide (0 < s1.1) then
    some (.inr (.inr (((IntKind.i64.wrap (s1.1 - 1)) : Int), ((IntKind.i64.wrap (s1.2 * 2)) : Int))))
  else
    some (.inr (.inl ((s1.1 : Int), (s1.2 : Int))))
def s_l23Power (p0 : Int) : Option (Int) :=
  Option.bind (whileM s_l23Power_b0 (2 ^ 64) ((p0 : Int), (1 : Int))) fun q2 =>
  aft (fun r => some r) (fun s3 =>
    some (s3.2 : Int)) q2

/- loop.example/g00869/spec.l29Ins -/

def s_l29Ins (p0 : Sig) : Option (Int) :=
  Option.bind (s_l23Power p0.In) fun x5 =>
  some (x5 : Int)

/- loop.example/g00869/spec.l23Below -/
def s_l23Below_b0 (p0 : (List Int)) (p1 : Int) (v5 : Int) (s1 : Unit) : Option (Bool ⊕ ((Unit) ⊕ (Unit))) :=
  Option.bind (idx p0 v5) fun x14 =>
  Option.bind (s_l1In x14 0 (IntKind.i64.wrap (p1 - 1))) fun x18 =>
  bif (!x18) then
    some (.inl (false : Bool))
  else
    some (.inr (.inr ()))
def s_l23Below (p0 : (List Int)) (p1 : Int) : Option (Bool) :=
  Option.bind (cntM (s_l23Below_b0 p0 p1) p0.length 0 ()) fun q2 =>
  aft (fun r => some r) (fun s3 =>
    some (true : Bool)) q2

/- loop.example/g00869/spec.MachineOk -/
def s_MachineOk_b0 (p0 : Sig) (p1 : Machine) (v6 : Int) (s1 : Unit) : Option (Bool ⊕ ((Unit) ⊕ (Unit))) :=
  Option.bind (idx p1.Next v6) fun x37 =>
  Option.bind (s_l29Ins p0) fun x41 =>
  Option.bind (bif ((x37.length : Int) != x41) then
  some true
  else
  Option.bind (idx p1.Out v6) fun x47 =>
  Option.bind (idx p1.Next v6) fun x53 =>
  some ((x47.length : Int) != (x53.length : Int))) fun p57 =>
  Option.bind (bif p57 then
  some true
  else
  Option.bind (idx p1.Next v6) fun x62 =>
  Option.bind (s_l23Below x62 (p1.Next.length : Int)) fun x65 =>
  some (!x65)) fun p67 =>
  Option.bind (bif p67 then
  some true
  else
  Option.bind (idx p1.Out v6) fun x72 =>
  Option.bind (s_l23Power p0.Out) fun x76 =>
  Option.bind (s_l23Below x72 x76) fun x77 =>
  some (!x77)) fun p79 =>
  bif p79 then
    some (.inl (false : Bool))
  else
    some (.inr (.inr ()))
def s_MachineOk (p0 : Sig) (p1 : Machine) : Option (Bool) :=
  Option.bind (s_SigOk p0) fun x11 =>
  Option.bind (bif (!x11) then
  some true
  else
  Option.bind (s_l1In (p1.Next.length : Int) 1 48) fun x15 =>
  some (!x15)) fun p17 =>
  Option.bind (bif p17 then
  some true
  else
  some ((p1.Out.length : Int) != (p1.Next.length : Int))) fun p26 =>
  bif p26 then
    some (false : Bool)
  else
    Option.bind (cntM (s_MachineOk_b0 p0 p1) p1.Next.length 0 ()) fun q2 =>
    aft (fun r => some r) (fun s3 =>
      some (true : Bool)) q2

/- loop.example/g00869/spec.l27Inputs -/

def s_l27Inputs (p0 : Sig) : Option (Int) :=
  Option.bind (s_l23Power p0.In) fun x5 =>
  some (x5 : Int)

/- loop.example/g00869/spec.l33Outputs -/

def s_l33Outputs (p0 : Sig) : Option (Int) :=
  Option.bind (s_l23Power p0.Out) fun x5 =>
  some (x5 : Int)

/- loop.example/g00869/spec.RivalOk -/
def s_RivalOk_b0 (p0 : Sig) (p1 : Rival) (v6 : Int) (s1 : Unit) : Option (Bool ⊕ ((Unit) ⊕ (Unit))) :=
  Option.bind (idx p1.Next v6) fun x45 =>
  Option.bind (s_l33Outputs p0) fun x49 =>
  Option.bind (bif ((x45.length : Int) != x49) then
  some true
  else
  Option.bind (idx p1.Next v6) fun x55 =>
  Option.bind (s_l23Below x55 (p1.In.length : Int)) fun x58 =>
  some (!x58)) fun p60 =>
  bif p60 then
    some (.inl (false : Bool))
  else
    some (.inr (.inr ()))
def s_RivalOk (p0 : Sig) (p1 : Rival) : Option (Bool) :=
  Option.bind (s_SigOk p0) fun x11 =>
  Option.bind (bif (!x11) then
  some true
  else
  Option.bind (s_l1In (p1.In.length : Int) 1 256) fun x15 =>
  some (!x15)) fun p17 =>
  Option.bind (bif p17 then
  some true
  else
  some ((p1.Next.length : Int) != (p1.In.length : Int))) fun p26 =>
  Option.bind (bif p26 then
  some true
  else
  Option.bind (s_l27Inputs p0) fun x31 =>
  Option.bind (s_l23Below p1.In x31) fun x32 =>
  some (!x32)) fun p34 =>
  bif p34 then
    some (false : Bool)
  else
    Option.bind (cntM (s_RivalOk_b0 p0 p1) p1.Next.length 0 ()) fun q2 =>
    aft (fun r => some r) (fun s3 =>
      some (true : Bool)) q2

/- loop.example/g00869/spec.l26Place -/
def s_l26Place_b0 (p0 : (List (List Int))) (p1 : Int) (p2 : Int) (v7 : Int) (s1 : Unit) : Option (Int ⊕ ((Unit) ⊕ (Unit))) :=
  Option.bind (idx p0 v7) fun x16 =>
  Option.bind (idx x16 0) fun x18 =>
  Option.bind (bif (x18 == p1) then
  Option.bind (idx p0 v7) fun x25 =>
  Option.bind (idx x25 1) fun x27 =>
  some (x27 == p2)
  else
  some false) fun p31 =>
  bif p31 then
    some (.inl (v7 : Int))
  else
    some (.inr (.inr ()))
def s_l26Place (p0 : (List (List Int))) (p1 : Int) (p2 : Int) : Option (Int) :=
  Option.bind (cntM (s_l26Place_b0 p0 p1 p2) p0.length 0 ()) fun q2 =>
  aft (fun r => some r) (fun s3 =>
    some ((-1) : Int)) q2

/- loop.example/g00869/spec.LetterOf -/

def s_LetterOf (p0 : Sig) (p1 : Int) (p2 : Int) : Option (Int) :=
  Option.bind (s_SigOk p0) fun x8 =>
  Option.bind (bif (!x8) then
  some true
  else
  Option.bind (s_l23Power p0.In) fun x14 =>
  Option.bind (s_l1In p1 0 (IntKind.i64.wrap (x14 - 1))) fun x16 =>
  some (!x16)) fun p18 =>
  Option.bind (bif p18 then
  some true
  else
  Option.bind (s_l23Power p0.Out) fun x23 =>
  Option.bind (s_l1In p2 0 (IntKind.i64.wrap (x23 - 1))) fun x25 =>
  some (!x25)) fun p27 =>
  bif p27 then
    some ((-1) : Int)
  else
    Option.bind (s_l23Power p0.In) fun x31 =>
    some ((IntKind.i64.wrap ((IntKind.i64.wrap (p2 * x31)) + p1)) : Int)

/- loop.example/g00869/spec.l1Copy -/

def s_l1Copy (p0 : (List Int)) : Option ((List Int)) :=
  Option.bind (appS 8 ([] : List Int) p0) fun x5 =>
  some (x5 : (List Int))

/- loop.example/g00869/spec.DuelOf -/
def s_DuelOf_b0 (p0 : Sig) (p1 : Machine) (p2 : Rival) (s1 : (List (List Int)) × (List Int) × Int × Int) : Option ((Word × Bool) ⊕ (((List (List Int)) × (List Int) × Int × Int) ⊕ ((List (List Int)) × (List Int) × Int × Int))) :=
  Option.bind (s_l26Place s1.1 s1.2.2.1 s1.2.2.2) fun x32 =>
  bif decide (x32 < 0) then
    Option.bind (appS 24 s1.1 ([([s1.2.2.1, s1.2.2.2] : List Int)] : List (List Int))) fun x39 =>
    Option.bind (idx p2.In s1.2.2.2) fun x43 =>
    Option.bind (idx p1.Out s1.2.2.1) fun x48 =>
    Option.bind (idx x48 x43) fun x51 =>
    Option.bind (s_LetterOf p0 x43 x51) fun x57 =>
    Option.bind (appS 8 s1.2.1 ([x57] : List Int)) fun x59 =>
    Option.bind (idx p1.Next s1.2.2.1) fun x63 =>
    Option.bind (idx x63 x43) fun x66 =>
    Option.bind (idx p2.Next s1.2.2.2) fun x71 =>
    Option.bind (idx x71 x51) fun x74 =>
    some (.inr (.inr ((x39 : (List (List Int))), (x59 : (List Int)), (x66 : Int), (x74 : Int))))
  else
    some (.inr (.inl ((s1.1 : (List (List Int))), (s1.2.1 : (List Int)), (s1.2.2.1 : Int), (s1.2.2.2 : Int))))
def s_DuelOf (p0 : Sig) (p1 : Machine) (p2 : Rival) : Option (Word × Bool) :=
  Option.bind (s_MachineOk p0 p1) fun x18 =>
  Option.bind (bif (!x18) then
  some true
  else
  Option.bind (s_RivalOk p0 p2) fun x23 =>
  some (!x23)) fun p25 =>
  bif p25 then
    some (((⟨([] : List Int), ([] : List Int)⟩ : Word) : Word), (false : Bool))
  else
    Option.bind (whileM (s_DuelOf_b0 p0 p1 p2) (2 ^ 64) ((([] : List (List Int)) : (List (List Int))), (([] : List Int) : (List Int)), (0 : Int), (0 : Int))) fun q2 =>
    aft (fun r => some r) (fun s3 =>
      Option.bind (s_l26Place s3.1 s3.2.2.1 s3.2.2.2) fun x79 =>
      Option.bind (subS s3.2.1 0 x79) fun x82 =>
      Option.bind (subS s3.2.1 x79 (s3.2.1.length : Int)) fun x86 =>
      Option.bind (s_l1Copy x82) fun x83 =>
      Option.bind (s_l1Copy x86) fun x87 =>
      Option.bind (bif decide (600 < (((⟨x83, x87⟩ : Word).Stem).length : Int)) then
      some true
      else
      some (decide (600 < (((⟨x83, x87⟩ : Word).Loop).length : Int)))) fun p98 =>
      bif p98 then
        some (((⟨([] : List Int), ([] : List Int)⟩ : Word) : Word), (false : Bool))
      else
        some (((⟨x83, x87⟩ : Word) : Word), (true : Bool))) q2

/- loop.example/g00869/impl.isSig -/

def i_isSig (p0 : Sig) : Option (Bool) :=
  Option.bind (bif decide (1 ≤ p0.In) then
  some (decide (p0.In ≤ 2))
  else
  some false) fun p10 =>
  Option.bind (bif p10 then
  some (decide (1 ≤ p0.Out))
  else
  some false) fun p15 =>
  Option.bind (bif p15 then
  some (decide (p0.Out ≤ 2))
  else
  some false) fun p20 =>
  some (p20 : Bool)

/- loop.example/g00869/impl.inputsOf -/

def i_inputsOf (p0 : Sig) : Option (Int) :=
  Option.bind (nn p0.In) fun _z5 =>
  some ((IntKind.i64.wrap (1 * 2 ^ (min (Int.toNat p0.In) (IntKind.bits IntKind.i64)))) : Int)

/- loop.example/g00869/impl.areLetters$1 -/

def i_areLetters_1 (p0 : Int) (c0 : Int) : Option (Bool) :=
  Option.bind (bif decide (p0 < 0) then
  some true
  else
  some (decide (c0 ≤ p0))) fun p10 =>
  some (p10 : Bool)

/- slices.IndexFunc[[]int64,int64] -/
def slices_IndexFunc_I_int64__i_areLetters_1_b0 (p0 : (List Int)) (c1_0 : Int) (v8 : Int) (s1 : Unit) : Option (Int ⊕ ((Unit) ⊕ (Unit))) :=
  Option.bind (idx p0 v8) fun x14 =>
  Option.bind (i_areLetters_1 x14 c1_0) fun x16 =>
  bif x16 then
    some (.inl (v8 : Int))
  else
    some (.inr (.inr ()))
def slices_IndexFunc_I_int64__i_areLetters_1 (p0 : (List Int)) (c1_0 : Int) : Option (Int) :=
  Option.bind (cntM (slices_IndexFunc_I_int64__i_areLetters_1_b0 p0 c1_0) p0.length 0 ()) fun q2 =>
  aft (fun r => some r) (fun s3 =>
    some ((-1) : Int)) q2

/- slices.ContainsFunc[[]int64,int64] -/

def slices_ContainsFunc_I_int64__i_areLetters_1 (p0 : (List Int)) (c1_0 : Int) : Option (Bool) :=
  Option.bind (slices_IndexFunc_I_int64__i_areLetters_1 p0 c1_0) fun x7 =>
  some (decide (0 ≤ x7) : Bool)

/- loop.example/g00869/impl.areLetters -/

def i_areLetters (p0 : (List Int)) (p1 : Int) : Option (Bool) :=
  Option.bind (slices_ContainsFunc_I_int64__i_areLetters_1 p0 p1) fun x7 =>
  some ((!x7) : Bool)

/- loop.example/g00869/impl.isMachine -/
def i_isMachine_b0 (p0 : Sig) (p1 : Machine) (v29 : Int) (s1 : Unit) : Option (Bool ⊕ ((Unit) ⊕ (Unit))) :=
  Option.bind (idx p1.Next v29) fun x32 =>
  Option.bind (i_inputsOf p0) fun x37 =>
  Option.bind (bif ((x32.length : Int) != x37) then
  some true
  else
  Option.bind (idx p1.Out v29) fun x43 =>
  some ((x43.length : Int) != (x32.length : Int))) fun p49 =>
  Option.bind (bif p49 then
  some true
  else
  Option.bind (i_areLetters x32 (p1.Next.length : Int)) fun x53 =>
  some (!x53)) fun p55 =>
  Option.bind (bif p55 then
  some true
  else
  Option.bind (idx p1.Out v29) fun x60 =>
  Option.bind (nn p0.Out) fun _z64 =>
  Option.bind (i_areLetters x60 (IntKind.i64.wrap (1 * 2 ^ (min (Int.toNat p0.Out) (IntKind.bits IntKind.i64))))) fun x65 =>
  some (!x65)) fun p67 =>
  bif p67 then
    some (.inl (false : Bool))
  else
    some (.inr (.inr ()))
def i_isMachine (p0 : Sig) (p1 : Machine) : Option (Bool) :=
  Option.bind (bif decide ((p1.Next.length : Int) < 1) then
  some true
  else
  some (decide (48 < (p1.Next.length : Int)))) fun p16 =>
  Option.bind (bif p16 then
  some true
  else
  some ((p1.Out.length : Int) != (p1.Next.length : Int))) fun p25 =>
  bif p25 then
    some (false : Bool)
  else
    Option.bind (cntM (i_isMachine_b0 p0 p1) p1.Next.length 0 ()) fun q2 =>
    aft (fun r => some r) (fun s3 =>
      some (true : Bool)) q2

/- loop.example/g00869/impl.isRival -/
def i_isRival_b0 (p0 : Sig) (p1 : Rival) (v37 : Int) (s1 : Unit) : Option (Bool ⊕ ((Unit) ⊕ (Unit))) :=
  Option.bind (idx p1.Next v37) fun x39 =>
  Option.bind (nn p0.Out) fun _z45 =>
  Option.bind (bif ((x39.length : Int) != (IntKind.i64.wrap (1 * 2 ^ (min (Int.toNat p0.Out) (IntKind.bits IntKind.i64))))) then
  some true
  else
  Option.bind (i_areLetters x39 (p1.In.length : Int)) fun x50 =>
  some (!x50)) fun p52 =>
  bif p52 then
    some (.inl (false : Bool))
  else
    some (.inr (.inr ()))
def i_isRival (p0 : Sig) (p1 : Rival) : Option (Bool) :=
  Option.bind (bif decide ((p1.In.length : Int) < 1) then
  some true
  else
  some (decide (256 < (p1.In.length : Int)))) fun p16 =>
  Option.bind (bif p16 then
  some true
  else
  some ((p1.Next.length : Int) != (p1.In.length : Int))) fun p25 =>
  Option.bind (bif p25 then
  some true
  else
  Option.bind (i_inputsOf p0) fun x30 =>
  Option.bind (i_areLetters p1.In x30) fun x31 =>
  some (!x31)) fun p33 =>
  bif p33 then
    some (false : Bool)
  else
    Option.bind (cntM (i_isRival_b0 p0 p1) p1.Next.length 0 ()) fun q2 =>
    aft (fun r => some r) (fun s3 =>
      some (true : Bool)) q2

/- loop.example/g00869/impl.cutWord -/

def i_cutWord (p0 : (List Int)) (p1 : Int) : Option (Word × Bool) :=
  Option.bind (bif decide (600 < p1) then
  some true
  else
  some (decide (600 < (IntKind.i64.wrap ((p0.length : Int) - p1))))) fun p14 =>
  bif p14 then
    some (((⟨([] : List Int), ([] : List Int)⟩ : Word) : Word), (false : Bool))
  else
    Option.bind (subS p0 0 p1) fun x19 =>
    Option.bind (subS p0 p1 (p0.length : Int)) fun x24 =>
    Option.bind (appS 8 ([] : List Int) x19) fun x20 =>
    Option.bind (appS 8 ([] : List Int) x24) fun x25 =>
    some (((⟨x20, x25⟩ : Word) : Word), (true : Bool))

/- loop.example/g00869/impl.DuelOf -/
def i_DuelOf_b0 (p0 : Sig) (p1 : Machine) (p2 : Rival) (s1 : (List Int) × Int × Int × (List ((Int × Int) × Int))) : Option ((Word × Bool) ⊕ (((List Int) × Int × Int × (List ((Int × Int) × Int))) ⊕ ((List Int) × Int × Int × (List ((Int × Int) × Int))))) :=
  Option.bind (mget kwI2 s1.2.2.2 ((s1.2.1, s1.2.2.1) : (Int × Int)) (0 : Int)) fun x37 =>
  bif x37.2 then
    Option.bind (i_cutWord s1.1 x37.1) fun x43 =>
    some (.inl ((x43.1 : Word), (x43.2 : Bool)))
  else
    Option.bind (mset kwI2 s1.2.2.2 ((s1.2.1, s1.2.2.1) : (Int × Int)) (s1.1.length : Int)) fun y13 =>
    Option.bind (idx p2.In s1.2.2.1) fun x54 =>
    Option.bind (idx p1.Out s1.2.1) fun x60 =>
    Option.bind (idx x60 x54) fun x63 =>
    Option.bind (i_inputsOf p0) fun x68 =>
    Option.bind (appS 8 s1.1 ([(IntKind.i64.wrap ((IntKind.i64.wrap (x63 * x68)) + x54))] : List Int)) fun x73 =>
    Option.bind (idx p1.Next s1.2.1) fun x78 =>
    Option.bind (idx x78 x54) fun x81 =>
    Option.bind (idx p2.Next s1.2.2.1) fun x87 =>
    Option.bind (idx x87 x63) fun x90 =>
    some (.inr (.inr ((x73 : (List Int)), (x81 : Int), (x90 : Int), (y13 : (List ((Int × Int) × Int))))))
def i_DuelOf (p0 : Sig) (p1 : Machine) (p2 : Rival) : Option (Word × Bool) :=
  Option.bind (i_isSig p0) fun x16 =>
  Option.bind (bif (!x16) then
  some true
  else
  Option.bind (i_isMachine p0 p1) fun x21 =>
  some (!x21)) fun p23 =>
  Option.bind (bif p23 then
  some true
  else
  Option.bind (i_isRival p0 p2) fun x27 =>
  some (!x27)) fun p29 =>
  bif p29 then
    some (((⟨([] : List Int), ([] : List Int)⟩ : Word) : Word), (false : Bool))
  else
    Option.bind (whileM (i_DuelOf_b0 p0 p1 p2) (2 ^ 64) ((([] : List Int) : (List Int)), (0 : Int), (0 : Int), (([] : List ((Int × Int) × Int)) : (List ((Int × Int) × Int))))) fun q2 =>
    aft (fun r => some r) (fun s3 =>
      none) q2

/- loop.example/g00869/laws.eqInt64S -/
def l_eqInt64S_b0 (p0 : (List Int)) (p1 : (List Int)) (v5 : Int) (s1 : Unit) : Option (Bool ⊕ ((Unit) ⊕ (Unit))) :=
  Option.bind (idx p0 v5) fun x19 =>
  Option.bind (idx p1 v5) fun x23 =>
  bif (x19 != x23) then
    some (.inl (false : Bool))
  else
    some (.inr (.inr ()))
def l_eqInt64S (p0 : (List Int)) (p1 : (List Int)) : Option (Bool) :=
  bif ((p0.length : Int) != (p1.length : Int)) then
    some (false : Bool)
  else
    Option.bind (cntM (l_eqInt64S_b0 p0 p1) p0.length 0 ()) fun q2 =>
    aft (fun r => some r) (fun s3 =>
      some (true : Bool)) q2

/- loop.example/g00869/laws.eqWord -/

def l_eqWord (p0 : Word) (p1 : Word) : Option (Bool) :=
  Option.bind (l_eqInt64S p0.Stem p1.Stem) fun x9 =>
  bif (!x9) then
    some (false : Bool)
  else
    Option.bind (l_eqInt64S p0.Loop p1.Loop) fun x15 =>
    bif (!x15) then
      some (false : Bool)
    else
      some (true : Bool)

/- loop.example/g00869/laws.eqInt64SS -/
def l_eqInt64SS_b0 (p0 : (List (List Int))) (p1 : (List (List Int))) (v5 : Int) (s1 : Unit) : Option (Bool ⊕ ((Unit) ⊕ (Unit))) :=
  Option.bind (idx p0 v5) fun x19 =>
  Option.bind (idx p1 v5) fun x23 =>
  Option.bind (l_eqInt64S x19 x23) fun x25 =>
  bif (!x25) then
    some (.inl (false : Bool))
  else
    some (.inr (.inr ()))
def l_eqInt64SS (p0 : (List (List Int))) (p1 : (List (List Int))) : Option (Bool) :=
  bif ((p0.length : Int) != (p1.length : Int)) then
    some (false : Bool)
  else
    Option.bind (cntM (l_eqInt64SS_b0 p0 p1) p0.length 0 ()) fun q2 =>
    aft (fun r => some r) (fun s3 =>
      some (true : Bool)) q2

/- loop.example/g00869/laws.eqMachine -/

def l_eqMachine (p0 : Machine) (p1 : Machine) : Option (Bool) :=
  Option.bind (l_eqInt64SS p0.Next p1.Next) fun x9 =>
  bif (!x9) then
    some (false : Bool)
  else
    Option.bind (l_eqInt64SS p0.Out p1.Out) fun x15 =>
    bif (!x15) then
      some (false : Bool)
    else
      some (true : Bool)

/- loop.example/g00869/laws.eqRival -/

def l_eqRival (p0 : Rival) (p1 : Rival) : Option (Bool) :=
  Option.bind (l_eqInt64S p0.In p1.In) fun x9 =>
  bif (!x9) then
    some (false : Bool)
  else
    Option.bind (l_eqInt64SS p0.Next p1.Next) fun x15 =>
    bif (!x15) then
      some (false : Bool)
    else
      some (true : Bool)

/- loop.example/g00869/laws.markInt64S -/
def l_markInt64S_b0  (v5 : Int) (s1 : Int × (List Int)) : Option ((Int × (List Int)) ⊕ ((Int × (List Int)) ⊕ (Int × (List Int)))) :=
  Option.bind (idx s1.2 v5) fun x15 =>
  Option.bind (setI s1.2 v5 s1.1) fun y15 =>
  some (.inr (.inr (((IntKind.i64.wrap (s1.1 + 1)) : Int), (y15 : (List Int)))))
def l_markInt64S (p0 : (List Int)) (p1 : Int) : Option (Int × (List Int)) :=
  Option.bind (cntM l_markInt64S_b0 p0.length 0 ((p1 : Int), (p0 : (List Int)))) fun q2 =>
  aft (fun r => some r) (fun s3 =>
    some ((s3.1 : Int), (s3.2 : (List Int)))) q2

/- loop.example/g00869/laws.markInt64SS -/
def l_markInt64SS_b0  (v5 : Int) (s1 : Int × (List (List Int))) : Option ((Int × (List (List Int))) ⊕ ((Int × (List (List Int))) ⊕ (Int × (List (List Int))))) :=
  Option.bind (idx s1.2 v5) fun x14 =>
  Option.bind (l_markInt64S x14 s1.1) fun x17 =>
  Option.bind (setI s1.2 v5 x17.2) fun yb16 =>
  some (.inr (.inr ((x17.1 : Int), (yb16 : (List (List Int))))))
def l_markInt64SS (p0 : (List (List Int))) (p1 : Int) : Option (Int × (List (List Int))) :=
  Option.bind (cntM l_markInt64SS_b0 p0.length 0 ((p1 : Int), (p0 : (List (List Int))))) fun q2 =>
  aft (fun r => some r) (fun s3 =>
    some ((s3.1 : Int), (s3.2 : (List (List Int))))) q2

/- loop.example/g00869/laws.markMachine -/

def l_markMachine (p0 : Machine) (p1 : Int) : Option (Int × (List (List Int)) × (List (List Int))) :=
  Option.bind (l_markInt64SS p0.Next p1) fun x8 =>
  Option.bind (l_markInt64SS p0.Out x8.1) fun x12 =>
  some ((x12.1 : Int), (x8.2 : (List (List Int))), (x12.2 : (List (List Int))))

/- loop.example/g00869/laws.markRival -/

def l_markRival (p0 : Rival) (p1 : Int) : Option (Int × (List Int) × (List (List Int))) :=
  Option.bind (l_markInt64S p0.In p1) fun x8 =>
  Option.bind (l_markInt64SS p0.Next x8.1) fun x12 =>
  some ((x12.1 : Int), (x8.2 : (List Int)), (x12.2 : (List (List Int))))

/- loop.example/g00869/laws.markWord -/

def l_markWord (p0 : Word) (p1 : Int) : Option (Int × (List Int) × (List Int)) :=
  Option.bind (l_markInt64S p0.Stem p1) fun x8 =>
  Option.bind (l_markInt64S p0.Loop x8.1) fun x12 =>
  some ((x12.1 : Int), (x8.2 : (List Int)), (x12.2 : (List Int)))

/- loop.example/g00869/laws.heldInt64S -/
def l_heldInt64S_b0 (p0 : (List Int)) (v5 : Int) (s1 : Int) : Option (Int ⊕ ((Int) ⊕ (Int))) :=
  Option.bind (idx p0 v5) fun x14 =>
  bif (x14 != s1) then
    some (.inl ((-1) : Int))
  else
    some (.inr (.inr ((IntKind.i64.wrap (s1 + 1)) : Int)))
def l_heldInt64S (p0 : (List Int)) (p1 : Int) : Option (Int) :=
  Option.bind (cntM (l_heldInt64S_b0 p0) p0.length 0 (p1 : Int)) fun q2 =>
  aft (fun r => some r) (fun s3 =>
    some (s3 : Int)) q2

/- loop.example/g00869/laws.heldWord -/

def l_heldWord (p0 : Word) (p1 : Int) : Option (Int) :=
  Option.bind (l_heldInt64S p0.Stem p1) fun x8 =>
  bif decide (x8 < 0) then
    some ((-1) : Int)
  else
    Option.bind (l_heldInt64S p0.Loop x8) fun x14 =>
    bif decide (x14 < 0) then
      some ((-1) : Int)
    else
      some (x14 : Int)

/- loop.example/g00869/laws.FnExactDuelOf -/

def l_FnExactDuelOf (p0 : Sig) (p1 : Machine) (p2 : Rival) : Option (Bool) :=
  Option.bind (l_szMachine p1 1048576) fun x21 =>
  bif decide (x21 < 0) then
    some (true : Bool)
  else
    Option.bind (l_szRival p2 x21) fun x26 =>
    bif decide (x26 < 0) then
      some (true : Bool)
    else
      Option.bind (l_toSig p0) fun x31 =>
      Option.bind (l_toMachine p1) fun x33 =>
      Option.bind (l_toRival p2) fun x35 =>
      Option.bind (s_DuelOf x31 x33 x35) fun x36 =>
      Option.bind (l_toMachine p1) fun x40 =>
      Option.bind (l_toRival p2) fun x42 =>
      Option.bind (l_toSig p0) fun x45 =>
      Option.bind (i_DuelOf x45 x40 x42) fun x48 =>
      Option.bind (l_eqWord x48.1 x36.1) fun x53 =>
      Option.bind (bif (!x53) then
      some true
      else
      some (x48.2 != x36.2)) fun p59 =>
      bif p59 then
        some (false : Bool)
      else
        Option.bind (l_toMachine p1) fun x62 =>
        Option.bind (l_eqMachine x40 x62) fun x63 =>
        bif (!x63) then
          some (false : Bool)
        else
          Option.bind (l_toRival p2) fun x67 =>
          Option.bind (l_eqRival x42 x67) fun x68 =>
          bif (!x68) then
            some (false : Bool)
          else
            Option.bind (l_markMachine x40 1) fun x72 =>
            Option.bind (l_markRival x42 x72.1) fun x75 =>
            Option.bind (bif decide (x75.1 < 0) then
            some true
            else
            Option.bind (l_eqWord x48.1 x36.1) fun x81 =>
            some (!x81)) fun p83 =>
            Option.bind (bif p83 then
            some true
            else
            some (x48.2 != x36.2)) fun p88 =>
            bif p88 then
              some (false : Bool)
            else
              Option.bind (l_markWord x48.1 1) fun x91 =>
              Option.bind (l_heldWord (⟨x91.2.1, x91.2.2⟩ : Word) 1) fun x94 =>
              bif decide (x94 < 0) then
                some (false : Bool)
              else
                bif (x94 != x91.1) then
                  some (false : Bool)
                else
                  Option.bind (l_toSig p0) fun x102 =>
                  Option.bind (l_toMachine p1) fun x104 =>
                  Option.bind (l_toRival p2) fun x106 =>
                  Option.bind (i_DuelOf x102 x104 x106) fun x107 =>
                  Option.bind (l_eqWord x107.1 x36.1) fun x112 =>
                  Option.bind (bif (!x112) then
                  some true
                  else
                  some (x107.2 != x36.2)) fun p118 =>
                  bif p118 then
                    some (false : Bool)
                  else
                    Option.bind (l_heldWord (⟨x91.2.1, x91.2.2⟩ : Word) 1) fun x121 =>
                    bif decide (x121 < 0) then
                      some (false : Bool)
                    else
                      bif (x121 != x91.1) then
                        some (false : Bool)
                      else
                        some (true : Bool)

/- loop.example/g00869/spec.l29Behind -/
def s_l29Behind_b0 (p0 : Machine) (p2 : (List Int)) (v7 : Int) (s1 : Int) : Option (Int ⊕ ((Int) ⊕ (Int))) :=
  Option.bind (idx p2 v7) fun x21 =>
  Option.bind (idx p0.Next s1) fun x17 =>
  Option.bind (idx x17 x21) fun x23 =>
  some (.inr (.inr (x23 : Int)))
def s_l29Behind (p0 : Machine) (p1 : Int) (p2 : (List Int)) : Option (Int) :=
  Option.bind (cntM (s_l29Behind_b0 p0 p2) p2.length 0 (p1 : Int)) fun q2 =>
  aft (fun r => some r) (fun s3 =>
    some (s3 : Int)) q2

/- loop.example/g00869/spec.l1Place -/
def s_l1Place_b0 (p0 : (List Int)) (p1 : Int) (v5 : Int) (s1 : Unit) : Option (Int ⊕ ((Unit) ⊕ (Unit))) :=
  Option.bind (idx p0 v5) fun x14 =>
  bif (x14 == p1) then
    some (.inl (v5 : Int))
  else
    some (.inr (.inr ()))
def s_l1Place (p0 : (List Int)) (p1 : Int) : Option (Int) :=
  Option.bind (cntM (s_l1Place_b0 p0 p1) p0.length 0 ()) fun q2 =>
  aft (fun r => some r) (fun s3 =>
    some ((-1) : Int)) q2

/- loop.example/g00869/spec.l29Letters -/
def s_l29Letters_b0 (p0 : Sig) (p1 : Machine) (p3 : (List Int)) (v10 : Int) (s1 : Int × (List Int)) : Option ((List Int) ⊕ ((Int × (List Int)) ⊕ (Int × (List Int)))) :=
  Option.bind (idx p3 v10) fun x26 =>
  Option.bind (idx p3 v10) fun x35 =>
  Option.bind (idx p1.Out s1.1) fun x22 =>
  Option.bind (idx x22 x26) fun x28 =>
  Option.bind (s_l29Ins p0) fun x31 =>
  Option.bind (appS 8 s1.2 ([(IntKind.i64.wrap ((IntKind.i64.wrap (x28 * x31)) + x35))] : List Int)) fun x39 =>
  Option.bind (idx p3 v10) fun x47 =>
  Option.bind (idx p1.Next s1.1) fun x43 =>
  Option.bind (idx x43 x47) fun x49 =>
  some (.inr (.inr ((x49 : Int), (x39 : (List Int)))))
def s_l29Letters (p0 : Sig) (p1 : Machine) (p2 : Int) (p3 : (List Int)) : Option ((List Int)) :=
  Option.bind (cntM (s_l29Letters_b0 p0 p1 p3) p3.length 0 ((p2 : Int), (([] : List Int) : (List Int)))) fun q2 =>
  aft (fun r => some r) (fun s3 =>
    some (s3.2 : (List Int))) q2

/- loop.example/g00869/impl.isWord -/

def i_isWord (p0 : Word) (p1 : Int) : Option (Bool) :=
  Option.bind (bif decide ((p0.Stem.length : Int) ≤ 600) then
  some (decide (1 ≤ (p0.Loop.length : Int)))
  else
  some false) fun p14 =>
  Option.bind (bif p14 then
  some (decide ((p0.Loop.length : Int) ≤ 600))
  else
  some false) fun p20 =>
  Option.bind (bif p20 then
  Option.bind (i_areLetters p0.Stem p1) fun x25 =>
  some x25
  else
  some false) fun p26 =>
  Option.bind (bif p26 then
  Option.bind (i_areLetters p0.Loop p1) fun x31 =>
  some x31
  else
  some false) fun p32 =>
  some (p32 : Bool)

/- slices.Index[[]int64,int64] -/
def slices_Index_I_int64_b0 (p0 : (List Int)) (p1 : Int) (v8 : Int) (s1 : Unit) : Option (Int ⊕ ((Unit) ⊕ (Unit))) :=
  Option.bind (idx p0 v8) fun x14 =>
  bif (p1 == x14) then
    some (.inl (v8 : Int))
  else
    some (.inr (.inr ()))
def slices_Index_I_int64 (p0 : (List Int)) (p1 : Int) : Option (Int) :=
  Option.bind (cntM (slices_Index_I_int64_b0 p0 p1) p0.length 0 ()) fun q2 =>
  aft (fun r => some r) (fun s3 =>
    some ((-1) : Int)) q2

end Go.Proofs.Ytgniipbjjkodaaa
