/- The functions on data. By program. -/
import Derived.Test.YtnpmbkaoeihdmaaDoorTypes
set_option linter.unusedVariables false
set_option linter.unusedSimpArgs false
namespace Go.Proofs.YtnpmbkaoeihdmaaDoor
open Go Go.Wk Go.Proofs
set_option maxRecDepth 100000
set_option maxHeartbeats 1000000

/- loop.example/g00869/laws.szInt64S -/

def l_szInt64S (p0 : (List Int)) (p1 : Int) : Option (Int) :=
  bif decide ((IntKind.i64.wrap (p1 - (p0.length : Int))) < 0) then
    some ((-1) : Int)
  else
    some ((IntKind.i64.wrap (p1 - (p0.length : Int))) : Int)

/- loop.example/g00869/laws.szInt64SS -/
def l_szInt64SS_b0 (p0 : (List (List Int))) (v5 : Int) (s1 : Int) : Option (Int ⊕ ((Int) ⊕ (Int))) :=
  Option.bind (idx p0 v5) fun x20 =>
  Option.bind (l_szInt64S x20 s1) fun x23 =>
  bif decide (x23 < 0) then
    some (.inl ((-1) : Int))
  else
    some (.inr (.inr (x23 : Int)))
def l_szInt64SS (p0 : (List (List Int))) (p1 : Int) : Option (Int) :=
  bif decide ((IntKind.i64.wrap (p1 - (p0.length : Int))) < 0) then
    some ((-1) : Int)
  else
    Option.bind (cntM (l_szInt64SS_b0 p0) p0.length 0 ((IntKind.i64.wrap (p1 - (p0.length : Int))) : Int)) fun q2 =>
    aft (fun r => some r) (fun s3 =>
      some (s3 : Int)) q2

/- loop.example/g00869/laws.szMachine -/

def l_szMachine (p0 : Machine) (p1 : Int) : Option (Int) :=
  Option.bind (l_szInt64SS p0.Next p1) fun x8 =>
  bif decide (x8 < 0) then
    some ((-1) : Int)
  else
    Option.bind (l_szInt64SS p0.Out x8) fun x14 =>
    bif decide (x14 < 0) then
      some ((-1) : Int)
    else
      some (x14 : Int)

/- loop.example/g00869/laws.toSig -/

def l_toSig (p0 : Sig) : Option (Sig) :=
  some ((⟨p0.In, p0.Out⟩ : Sig) : Sig)

/- loop.example/g00869/laws.toInt64S -/
def l_toInt64S_b0 (p0 : (List Int)) (v4 : Int) (s1 : (List Int)) : Option ((List Int) ⊕ (((List Int)) ⊕ ((List Int)))) :=
  Option.bind (idx p0 v4) fun x18 =>
  Option.bind (idx s1 v4) fun x20 =>
  Option.bind (setI s1 v4 x18) fun y2 =>
  some (.inr (.inr (y2 : (List Int))))
def l_toInt64S (p0 : (List Int)) : Option ((List Int)) :=
  Option.bind (mkS 8 (p0.length : Int) (0 : Int)) fun x7 =>
  Option.bind (cntM (l_toInt64S_b0 p0) p0.length 0 (x7 : (List Int))) fun q2 =>
  aft (fun r => some r) (fun s3 =>
    some (s3 : (List Int))) q2

/- loop.example/g00869/laws.toInt64SS -/
def l_toInt64SS_b0 (p0 : (List (List Int))) (v4 : Int) (s1 : (List (List Int))) : Option ((List (List Int)) ⊕ (((List (List Int))) ⊕ ((List (List Int))))) :=
  Option.bind (idx p0 v4) fun x18 =>
  Option.bind (l_toInt64S x18) fun x20 =>
  Option.bind (idx s1 v4) fun x21 =>
  Option.bind (setI s1 v4 (x20 : (List Int))) fun y3 =>
  some (.inr (.inr (y3 : (List (List Int)))))
def l_toInt64SS (p0 : (List (List Int))) : Option ((List (List Int))) :=
  Option.bind (mkS 24 (p0.length : Int) (([] : List Int) : (List Int))) fun x7 =>
  Option.bind (cntM (l_toInt64SS_b0 p0) p0.length 0 (x7 : (List (List Int)))) fun q2 =>
  aft (fun r => some r) (fun s3 =>
    some (s3 : (List (List Int)))) q2

/- loop.example/g00869/laws.toMachine -/

def l_toMachine (p0 : Machine) : Option (Machine) :=
  Option.bind (l_toInt64SS p0.Next) fun x6 =>
  Option.bind (l_toInt64SS p0.Out) fun x10 =>
  some ((⟨x6, x10⟩ : Machine) : Machine)

/- loop.example/g00869/spec.l1In -/

def s_l1In (p0 : Int) (p1 : Int) (p2 : Int) : Option (Bool) :=
  Option.bind (bif decide (p1 ≤ p0) then
  some (decide (p0 ≤ p2))
  else
  some false) fun p14 =>
  some (p14 : Bool)

/- loop.example/g00869/spec.SigOk -/

def s_SigOk (p0 : Sig) : Option (Bool) :=
  Option.bind (s_l1In p0.In 1 2) fun x5 =>
  Option.bind (bif x5 then
  Option.bind (s_l1In p0.Out 1 2) fun x9 =>
  some x9
  else
  some false) fun p10 =>
  some (p10 : Bool)

/- loop.example/g00869/spec.l23Power -/
def s_l23Power_b0  (s1 : Int × Int) : Option (Int ⊕ ((Int × Int) ⊕ (Int × Int))) :=
  bif decide (0 < s1.1) then
    some (.inr (.inr (((IntKind.i64.wrap (s1.1 - 1)) : Int), ((IntKind.i64.wrap (s1.2 * 2)) : Int))))
  else
    some (.inr (.inl ((s1.1 : Int), (s1.2 : Int))))
def s_l23Power (p0 : Int) : Option (Int) :=
  Option.bind (whileM s_l23Power_b0 (2 ^ 64) ((p0 : Int), (1 : Int))) fun q2 =>
  aft (fun r => some r) (fun s3 =>
    some (s3.2 : Int)) q2

/- loop.example/g00869/spec.l29Ins -/

def s_l29Ins (p0 : Sig) : Option (Int) :=
  Option.bind (s_l23Power p0.In) fun x5 =>
  some (x5 : Int)

/- loop.example/g00869/spec.l23Below -/
def s_l23Below_b0 (p0 : (List Int)) (p1 : Int) (v5 : Int) (s1 : Unit) : Option (Bool ⊕ ((Unit) ⊕ (Unit))) :=
  Option.bind (idx p0 v5) fun x14 =>
  Option.bind (s_l1In x14 0 (IntKind.i64.wrap (p1 - 1))) fun x18 =>
  bif (!x18) then
    some (.inl (false : Bool))
  else
    some (.inr (.inr ()))
def s_l23Below (p0 : (List Int)) (p1 : Int) : Option (Bool) :=
  Option.bind (cntM (s_l23Below_b0 p0 p1) p0.length 0 ()) fun q2 =>
  aft (fun r => some r) (fun s3 =>
    some (true : Bool)) q2

/- loop.example/g00869/spec.MachineOk -/
def s_MachineOk_b0 (p0 : Sig) (p1 : Machine) (v6 : Int) (s1 : Unit) : Option (Bool ⊕ ((Unit) ⊕ (Unit))) :=
  Option.bind (idx p1.Next v6) fun x37 =>
  Option.bind (s_l29Ins p0) fun x41 =>
  Option.bind (bif ((x37.length : Int) != x41) then
  some true
  else
  Option.bind (idx p1.Out v6) fun x47 =>
  Option.bind (idx p1.Next v6) fun x53 =>
  some ((x47.length : Int) != (x53.length : Int))) fun p57 =>
  Option.bind (bif p57 then
  some true
  else
  Option.bind (idx p1.Next v6) fun x62 =>
  Option.bind (s_l23Below x62 (p1.Next.length : Int)) fun x65 =>
  some (!x65)) fun p67 =>
  Option.bind (bif p67 then
  some true
  else
  Option.bind (idx p1.Out v6) fun x72 =>
  Option.bind (s_l23Power p0.Out) fun x76 =>
  Option.bind (s_l23Below x72 x76) fun x77 =>
  some (!x77)) fun p79 =>
  bif p79 then
    some (.inl (false : Bool))
  else
    some (.inr (.inr ()))
def s_MachineOk (p0 : Sig) (p1 : Machine) : Option (Bool) :=
  Option.bind (s_SigOk p0) fun x11 =>
  Option.bind (bif (!x11) then
  some true
  else
  Option.bind (s_l1In (p1.Next.length : Int) 1 48) fun x15 =>
  some (!x15)) fun p17 =>
  Option.bind (bif p17 then
  some true
  else
  some ((p1.Out.length : Int) != (p1.Next.length : Int))) fun p26 =>
  bif p26 then
    some (false : Bool)
  else
    Option.bind (cntM (s_MachineOk_b0 p0 p1) p1.Next.length 0 ()) fun q2 =>
    aft (fun r => some r) (fun s3 =>
      some (true : Bool)) q2

/- loop.example/g00869/spec.l1Int -/
def s_l1Int_b0  (s1 : Int × ByteArray) : Option (ByteArray ⊕ ((Int × ByteArray) ⊕ (Int × ByteArray))) :=
  Option.bind (bif (eqB s1.2 (ByteArray.mk #[])) then
  some true
  else
  some (s1.1 != 0)) fun p13 =>
  bif p13 then
    Option.bind (bif decide ((Int.tmod s1.1 10) < 0) then
      some ((IntKind.i64.wrap (0 - (Int.tmod s1.1 10))) : Int)
    else
      some ((Int.tmod s1.1 10) : Int)) fun q4 =>
    Option.bind (catB (strB ([(IntKind.u8.wrap (IntKind.i64.wrap (48 + q4)))] : List Int)) s1.2) fun x26 =>
    some (.inr (.inr (((IntKind.i64.wrap (Int.tdiv s1.1 10)) : Int), (x26 : ByteArray))))
  else
    some (.inr (.inl ((s1.1 : Int), (s1.2 : ByteArray))))
def s_l1Int (p0 : Int) : Option (ByteArray) :=
  Option.bind (whileM s_l1Int_b0 (2 ^ 64) ((p0 : Int), ((ByteArray.mk #[]) : ByteArray))) fun q2 =>
  aft (fun r => some r) (fun s3 =>
    Option.bind (bif decide (p0 < 0) then
      Option.bind (catB (ByteArray.mk #[45]) s3.2) fun x31 =>
      some (x31 : ByteArray)
    else
      some (s3.2 : ByteArray)) fun q5 =>
    some (q5 : ByteArray)) q2

/- loop.example/g00869/spec.l1Words -/
def s_l1Words_b0 (p0 : (List ByteArray)) (p1 : ByteArray) (v6 : Int) (s1 : ByteArray) : Option (ByteArray ⊕ ((ByteArray) ⊕ (ByteArray))) :=
  Option.bind (bif decide (0 < v6) then
    Option.bind (catB s1 p1) fun x17 =>
    some (x17 : ByteArray)
  else
    some (s1 : ByteArray)) fun q4 =>
  Option.bind (idx p0 v6) fun x21 =>
  Option.bind (catB q4 x21) fun x23 =>
  some (.inr (.inr (x23 : ByteArray)))
def s_l1Words (p0 : (List ByteArray)) (p1 : ByteArray) : Option (ByteArray) :=
  Option.bind (cntM (s_l1Words_b0 p0 p1) p0.length 0 ((ByteArray.mk #[]) : ByteArray)) fun q2 =>
  aft (fun r => some r) (fun s3 =>
    some (s3 : ByteArray)) q2

/- loop.example/g00869/spec.MachineText -/
def s_MachineText_b2 (p1 : Machine) (v6 : Int) (s4 : (List ByteArray) × Int) : Option (ByteArray ⊕ (((List ByteArray) × Int) ⊕ ((List ByteArray) × Int))) :=
  Option.bind (idx p1.Next v6) fun x26 =>
  bif decide (s4.2 < (x26.length : Int)) then
    Option.bind (idx p1.Next v6) fun x36 =>
    Option.bind (idx x36 s4.2) fun x39 =>
    Option.bind (idx p1.Out v6) fun x46 =>
    Option.bind (idx x46 s4.2) fun x49 =>
    Option.bind (s_l1Int x39) fun x41 =>
    Option.bind (catB x41 (ByteArray.mk #[47])) fun x42 =>
    Option.bind (s_l1Int x49) fun x51 =>
    Option.bind (catB x42 x51) fun x52 =>
    Option.bind (appS 16 s4.1 ([x52] : List ByteArray)) fun x54 =>
    some (.inr (.inr ((x54 : (List ByteArray)), ((IntKind.i64.wrap (s4.2 + 1)) : Int))))
  else
    some (.inr (.inl ((s4.1 : (List ByteArray)), (s4.2 : Int))))
def s_MachineText_b0 (p1 : Machine) (v6 : Int) (s1 : (List Int)) : Option (ByteArray ⊕ (((List Int)) ⊕ ((List Int)))) :=
  Option.bind (whileM (s_MachineText_b2 p1 v6) (2 ^ 64) ((([] : List ByteArray) : (List ByteArray)), (0 : Int))) fun q5 =>
  aft (fun r => some (.inl r)) (fun s6 =>
    Option.bind (s_l1Words s6.1 (ByteArray.mk #[32])) fun x57 =>
    Option.bind (appS 1 s1 (bytesB x57)) fun x58 =>
    Option.bind (appS 1 x58 ([10] : List Int)) fun x61 =>
    some (.inr (.inr (x61 : (List Int))))) q5
def s_MachineText (p0 : Sig) (p1 : Machine) : Option (ByteArray) :=
  Option.bind (s_MachineOk p0 p1) fun x11 =>
  bif (!x11) then
    some ((ByteArray.mk #[]) : ByteArray)
  else
    Option.bind (cntM (s_MachineText_b0 p1) p1.Next.length 0 (([] : List Int) : (List Int))) fun q2 =>
    aft (fun r => some r) (fun s3 =>
      some ((strB s3) : ByteArray)) q2

/- loop.example/g00869/impl.isSig -/

def i_isSig (p0 : Sig) : Option (Bool) :=
  Option.bind (bif decide (1 ≤ p0.In) then
  some (decide (p0.In ≤ 2))
  else
  some false) fun p10 =>
  Option.bind (bif p10 then
  some (decide (1 ≤ p0.Out))
  else
  some false) fun p15 =>
  Option.bind (bif p15 then
  some (decide (p0.Out ≤ 2))
  else
  some false) fun p20 =>
  some (p20 : Bool)

/- loop.example/g00869/impl.inputsOf -/

def i_inputsOf (p0 : Sig) : Option (Int) :=
  Option.bind (nn p0.In) fun _z5 =>
  some ((IntKind.i64.wrap (1 * 2 ^ (min (Int.toNat p0.In) (IntKind.bits IntKind.i64)))) : Int)

/- loop.example/g00869/impl.areLetters$1 -/

def i_areLetters_1 (p0 : Int) (c0 : Int) : Option (Bool) :=
  Option.bind (bif decide (p0 < 0) then
  some true
  else
  some (decide (c0 ≤ p0))) fun p10 =>
  some (p10 : Bool)

/- slices.IndexFunc[[]int64,int64] -/
def slices_IndexFunc_I_int64__i_areLetters_1_b0 (p0 : (List Int)) (c1_0 : Int) (v8 : Int) (s1 : Unit) : Option (Int ⊕ ((Unit) ⊕ (Unit))) :=
  Option.bind (idx p0 v8) fun x14 =>
  Option.bind (i_areLetters_1 x14 c1_0) fun x16 =>
  bif x16 then
    some (.inl (v8 : Int))
  else
    some (.inr (.inr ()))
def slices_IndexFunc_I_int64__i_areLetters_1 (p0 : (List Int)) (c1_0 : Int) : Option (Int) :=
  Option.bind (cntM (slices_IndexFunc_I_int64__i_areLetters_1_b0 p0 c1_0) p0.length 0 ()) fun q2 =>
  aft (fun r => some r) (fun s3 =>
    some ((-1) : Int)) q2

/- slices.ContainsFunc[[]int64,int64] -/

def slices_ContainsFunc_I_int64__i_areLetters_1 (p0 : (List Int)) (c1_0 : Int) : Option (Bool) :=
  Option.bind (slices_IndexFunc_I_int64__i_areLetters_1 p0 c1_0) fun x7 =>
  some (decide (0 ≤ x7) : Bool)

/- loop.example/g00869/impl.areLetters -/

def i_areLetters (p0 : (List Int)) (p1 : Int) : Option (Bool) :=
  Option.bind (slices_ContainsFunc_I_int64__i_areLetters_1 p0 p1) fun x7 =>
  some ((!x7) : Bool)

/- loop.example/g00869/impl.isMachine -/
def i_isMachine_b0 (p0 : Sig) (p1 : Machine) (v29 : Int) (s1 : Unit) : Option (Bool ⊕ ((Unit) ⊕ (Unit))) :=
  Option.bind (idx p1.Next v29) fun x32 =>
  Option.bind (i_inputsOf p0) fun x37 =>
  Option.bind (bif ((x32.length : Int) != x37) then
  some true
  else
  Option.bind (idx p1.Out v29) fun x43 =>
  some ((x43.length : Int) != (x32.length : Int))) fun p49 =>
  Option.bind (bif p49 then
  some true
  else
  Option.bind (i_areLetters x32 (p1.Next.length : Int)) fun x53 =>
  some (!x53)) fun p55 =>
  Option.bind (bif p55 then
  some true
  else
  Option.bind (idx p1.Out v29) fun x60 =>
  Option.bind (nn p0.Out) fun _z64 =>
  Option.bind (i_areLetters x60 (IntKind.i64.wrap (1 * 2 ^ (min (Int.toNat p0.Out) (IntKind.bits IntKind.i64))))) fun x65 =>
  some (!x65)) fun p67 =>
  bif p67 then
    some (.inl (false : Bool))
  else
    some (.inr (.inr ()))
def i_isMachine (p0 : Sig) (p1 : Machine) : Option (Bool) :=
  Option.bind (bif decide ((p1.Next.length : Int) < 1) then
  some true
  else
  some (decide (48 < (p1.Next.length : Int)))) fun p16 =>
  Option.bind (bif p16 then
  some true
  else
  some ((p1.Out.length : Int) != (p1.Next.length : Int))) fun p25 =>
  bif p25 then
    some (false : Bool)
  else
    Option.bind (cntM (i_isMachine_b0 p0 p1) p1.Next.length 0 ()) fun q2 =>
    aft (fun r => some r) (fun s3 =>
      some (true : Bool)) q2

/- strconv.FormatInt -/
def strconv_FormatInt (p0 p1 : Int) : Option (ByteArray) := fmtB p0 p1


/- loop.example/g00869/impl.decimal -/

def i_decimal (p0 : Int) : Option (ByteArray) :=
  Option.bind (strconv_FormatInt p0 10) fun x4 =>
  some (x4 : ByteArray)

/- strings.Join -/
def strings_Join (p0 : (List ByteArray)) (p1 : ByteArray) : Option (ByteArray) := joinB p0 p1


/- loop.example/g00869/impl.MachineText -/
def i_MachineText_b2 (p1 : Machine) (v23 : Int) (x26 : (List Int)) (v31 : Int) (s4 : (List ByteArray)) : Option (ByteArray ⊕ (((List ByteArray)) ⊕ ((List ByteArray)))) :=
  Option.bind (idx x26 v31) fun x34 =>
  Option.bind (idx p1.Out v23) fun x43 =>
  Option.bind (idx x43 v31) fun x46 =>
  Option.bind (i_decimal x34) fun x38 =>
  Option.bind (catB x38 (ByteArray.mk #[47])) fun x39 =>
  Option.bind (i_decimal x46) fun x48 =>
  Option.bind (catB x39 x48) fun x49 =>
  Option.bind (appS 16 s4 ([x49] : List ByteArray)) fun x51 =>
  some (.inr (.inr (x51 : (List ByteArray))))
def i_MachineText_b0 (p1 : Machine) (v23 : Int) (s1 : ByteArray) : Option (ByteArray ⊕ ((ByteArray) ⊕ (ByteArray))) :=
  Option.bind (idx p1.Next v23) fun x26 =>
  Option.bind (cntM (i_MachineText_b2 p1 v23 x26) x26.length 0 (([] : List ByteArray) : (List ByteArray))) fun q5 =>
  aft (fun r => some (.inl r)) (fun s6 =>
    Option.bind (strings_Join s6 (ByteArray.mk #[32])) fun x55 =>
    Option.bind (catB x55 (ByteArray.mk #[10])) fun x56 =>
    Option.bind (catB s1 x56) fun x57 =>
    some (.inr (.inr (x57 : ByteArray)))) q5
def i_MachineText (p0 : Sig) (p1 : Machine) : Option (ByteArray) :=
  Option.bind (i_isSig p0) fun x12 =>
  Option.bind (bif (!x12) then
  some true
  else
  Option.bind (i_isMachine p0 p1) fun x17 =>
  some (!x17)) fun p19 =>
  bif p19 then
    some ((ByteArray.mk #[]) : ByteArray)
  else
    Option.bind (cntM (i_MachineText_b0 p1) p1.Next.length 0 ((ByteArray.mk #[]) : ByteArray)) fun q2 =>
    aft (fun r => some r) (fun s3 =>
      some (s3 : ByteArray)) q2

/- loop.example/g00869/laws.eqInt64S -/
def l_eqInt64S_b0 (p0 : (List Int)) (p1 : (List Int)) (v5 : Int) (s1 : Unit) : Option (Bool ⊕ ((Unit) ⊕ (Unit))) :=
  Option.bind (idx p0 v5) fun x19 =>
  Option.bind (idx p1 v5) fun x23 =>
  bif (x19 != x23) then
    some (.inl (false : Bool))
  else
    some (.inr (.inr ()))
def l_eqInt64S (p0 : (List Int)) (p1 : (List Int)) : Option (Bool) :=
  bif ((p0.length : Int) != (p1.length : Int)) then
    some (false : Bool)
  else
    Option.bind (cntM (l_eqInt64S_b0 p0 p1) p0.length 0 ()) fun q2 =>
    aft (fun r => some r) (fun s3 =>
      some (true : Bool)) q2

/- loop.example/g00869/laws.eqInt64SS -/
def l_eqInt64SS_b0 (p0 : (List (List Int))) (p1 : (List (List Int))) (v5 : Int) (s1 : Unit) : Option (Bool ⊕ ((Unit) ⊕ (Unit))) :=
  Option.bind (idx p0 v5) fun x19 =>
  Option.bind (idx p1 v5) fun x23 =>
  Option.bind (l_eqInt64S x19 x23) fun x25 =>
  bif (!x25) then
    some (.inl (false : Bool))
  else
    some (.inr (.inr ()))
def l_eqInt64SS (p0 : (List (List Int))) (p1 : (List (List Int))) : Option (Bool) :=
  bif ((p0.length : Int) != (p1.length : Int)) then
    some (false : Bool)
  else
    Option.bind (cntM (l_eqInt64SS_b0 p0 p1) p0.length 0 ()) fun q2 =>
    aft (fun r => some r) (fun s3 =>
      some (true : Bool)) q2

/- loop.example/g00869/laws.eqMachine -/

def l_eqMachine (p0 : Machine) (p1 : Machine) : Option (Bool) :=
  Option.bind (l_eqInt64SS p0.Next p1.Next) fun x9 =>
  bif (!x9) then
    some (false : Bool)
  else
    Option.bind (l_eqInt64SS p0.Out p1.Out) fun x15 =>
    bif (!x15) then
      some (false : Bool)
    else
      some (true : Bool)

/- loop.example/g00869/laws.FnExactMachineText -/

def l_FnExactMachineText (p0 : Sig) (p1 : Machine) : Option (Bool) :=
  Option.bind (l_szMachine p1 1048576) fun x11 =>
  bif decide (x11 < 0) then
    some (true : Bool)
  else
    Option.bind (l_toSig p0) fun x15 =>
    Option.bind (l_toMachine p1) fun x17 =>
    Option.bind (s_MachineText x15 x17) fun x18 =>
    Option.bind (l_toMachine p1) fun x20 =>
    Option.bind (l_toSig p0) fun x22 =>
    Option.bind (i_MachineText x22 x20) fun x24 =>
    bif (!(eqB x24 x18)) then
      some (false : Bool)
    else
      Option.bind (l_toMachine p1) fun x30 =>
      Option.bind (l_eqMachine x20 x30) fun x31 =>
      bif (!x31) then
        some (false : Bool)
      else
        some (true : Bool)

end Go.Proofs.YtnpmbkaoeihdmaaDoor
