/- The functions on data. By program. -/
import Derived.Test.YtnpmbkaoeihdmaaDoorTypes
set_option linter.unusedVariables false
set_option linter.unusedSimpArgs false
namespace Go.Proofs.YtnpmbkaoeihdmaaDoor
open Go Go.Wk Go.Proofs
set_option maxRecDepth 100000
set_option maxHeartbeats 1000000

/- loop.example/g00869/laws.toEdit -/

def l_toEdit (p0 : Edit) : Option (Edit) :=
  some ((⟨p0.Kind, p0.V, p0.N⟩ : Edit) : Edit)

/- loop.example/g00869/spec.l1In -/

def s_l1In (p0 : Int) (p1 : Int) (p2 : Int) : Option (Bool) :=
  Option.bind (bif decide (p1 ≤ p0) then
  some (decide (p0 ≤ p2))
  else
  some false) fun p14 =>
  some (p14 : Bool)

/- loop.example/g00869/spec.l32Words -/

def s_l32Words  : Option ((List ByteArray)) :=
  some (([(ByteArray.mk #[]), (ByteArray.mk #[112, 114, 105, 111]), (ByteArray.mk #[111, 119, 110, 101, 114]), (ByteArray.mk #[97, 100, 100]), (ByteArray.mk #[99, 117, 116])] : List ByteArray) : (List ByteArray))

/- loop.example/g00869/spec.l1Int -/
def s_l1Int_b0  (s1 : Int × ByteArray) : Option (ByteArray ⊕ ((Int × ByteArray) ⊕ (Int × ByteArray))) :=
  Option.bind (bif (eqB s1.2 (ByteArray.mk #[])) then
  some true
  else
  some (s1.1 != 0)) fun p13 =>
  bif p13 then
    Option.bind (bif decide ((Int.tmod s1.1 10) < 0) then
      some ((IntKind.i64.wrap (0 - (Int.tmod s1.1 10))) : Int)
    else
      some ((Int.tmod s1.1 10) : Int)) fun q4 =>
    Option.bind (catB (strB ([(IntKind.u8.wrap (IntKind.i64.wrap (48 + q4)))] : List Int)) s1.2) fun x26 =>
    some (.inr (.inr (((IntKind.i64.wrap (Int.tdiv s1.1 10)) : Int), (x26 : ByteArray))))
  else
    some (.inr (.inl ((s1.1 : Int), (s1.2 : ByteArray))))
def s_l1Int (p0 : Int) : Option (ByteArray) :=
  Option.bind (whileM s_l1Int_b0 (2 ^ 64) ((p0 : Int), ((ByteArray.mk #[]) : ByteArray))) fun q2 =>
  aft (fun r => some r) (fun s3 =>
    Option.bind (bif decide (p0 < 0) then
      Option.bind (catB (ByteArray.mk #[45]) s3.2) fun x31 =>
      some (x31 : ByteArray)
    else
      some (s3.2 : ByteArray)) fun q5 =>
    some (q5 : ByteArray)) q2

/- loop.example/g00869/spec.EditText -/

def s_EditText (p0 : Edit) : Option (ByteArray) :=
  Option.bind (s_l1In p0.Kind 1 4) fun x5 =>
  Option.bind (bif (!x5) then
  some true
  else
  Option.bind (s_l1In p0.V 0 255) fun x10 =>
  some (!x10)) fun p12 =>
  Option.bind (bif p12 then
  some true
  else
  Option.bind (s_l1In p0.N 0 255) fun x16 =>
  some (!x16)) fun p18 =>
  bif p18 then
    some ((ByteArray.mk #[]) : ByteArray)
  else
    Option.bind (s_l32Words) fun x19 =>
    Option.bind (idx x19 p0.Kind) fun x22 =>
    Option.bind (catB x22 (ByteArray.mk #[32])) fun x24 =>
    Option.bind (s_l1Int p0.V) fun x27 =>
    Option.bind (catB x24 x27) fun x28 =>
    Option.bind (catB x28 (ByteArray.mk #[32])) fun x29 =>
    Option.bind (s_l1Int p0.N) fun x32 =>
    Option.bind (catB x29 x32) fun x33 =>
    some (x33 : ByteArray)

/- strconv.FormatInt -/
def strconv_FormatInt (p0 p1 : Int) : Option (ByteArray) := fmtB p0 p1


/- loop.example/g00869/impl.decimal -/

def i_decimal (p0 : Int) : Option (ByteArray) :=
  Option.bind (strconv_FormatInt p0 10) fun x4 =>
  some (x4 : ByteArray)

/- loop.example/g00869/impl.EditText -/

def i_EditText (p0 : Edit) : Option (ByteArray) :=
  Option.bind (bif decide (p0.Kind < 1) then
  some true
  else
  some (decide (4 < p0.Kind))) fun p10 =>
  Option.bind (bif p10 then
  some true
  else
  some (decide (p0.V < 0))) fun p15 =>
  Option.bind (bif p15 then
  some true
  else
  some (decide (256 ≤ p0.V))) fun p20 =>
  Option.bind (bif p20 then
  some true
  else
  some (decide (p0.N < 0))) fun p25 =>
  Option.bind (bif p25 then
  some true
  else
  some (decide (256 ≤ p0.N))) fun p30 =>
  bif p30 then
    some ((ByteArray.mk #[]) : ByteArray)
  else
    Option.bind (idx namesE0 (IntKind.i64.wrap (p0.Kind - 1))) fun x34 =>
    Option.bind (catB x34 (ByteArray.mk #[32])) fun x36 =>
    Option.bind (i_decimal p0.V) fun x39 =>
    Option.bind (catB x36 x39) fun x40 =>
    Option.bind (catB x40 (ByteArray.mk #[32])) fun x41 =>
    Option.bind (i_decimal p0.N) fun x44 =>
    Option.bind (catB x41 x44) fun x45 =>
    some (x45 : ByteArray)

/- loop.example/g00869/laws.FnExactEditText -/

def l_FnExactEditText (p0 : Edit) : Option (Bool) :=
  Option.bind (l_toEdit p0) fun x6 =>
  Option.bind (s_EditText x6) fun x7 =>
  Option.bind (l_toEdit p0) fun x9 =>
  Option.bind (i_EditText x9) fun x10 =>
  bif (!(eqB x10 x7)) then
    some (false : Bool)
  else
    some (true : Bool)

end Go.Proofs.YtnpmbkaoeihdmaaDoor
