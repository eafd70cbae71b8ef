/- The functions on data. By program. -/
import Derived.Test.YtnpmbkaoeihdmaaDoorTypes
set_option linter.unusedVariables false
set_option linter.unusedSimpArgs false
namespace Go.Proofs.YtnpmbkaoeihdmaaDoor
open Go Go.Wk Go.Proofs
set_option maxRecDepth 100000
set_option maxHeartbeats 1000000

/- loop.example/g00869/spec.l1Split -/
def s_l1Split_b0 (p0 : ByteArray) (p1 : Int) (s1 : (List ByteArray) × Int × Int) : Option ((List ByteArray) ⊕ (((List ByteArray) × Int × Int) ⊕ ((List ByteArray) × Int × Int))) :=
  bif decide (s1.2.2 ≤ (p0.size : Int)) then
    Option.bind (bif (s1.2.2 == (p0.size : Int)) then
    some true
    else
    Option.bind (idxB p0 s1.2.2) fun x22 =>
    some (x22 == p1)) fun p25 =>
    Option.bind (bif p25 then
      Option.bind (subB p0 s1.2.1 s1.2.2) fun x30 =>
      Option.bind (appS 16 s1.1 ([x30] : List ByteArray)) fun x32 =>
      some ((x32 : (List ByteArray)), ((IntKind.i64.wrap (s1.2.2 + 1)) : Int))
    else
      some ((s1.1 : (List ByteArray)), (s1.2.1 : Int))) fun q4 =>
    some (.inr (.inr ((q4.1 : (List ByteArray)), (q4.2 : Int), ((IntKind.i64.wrap (s1.2.2 + 1)) : Int))))
  else
    some (.inr (.inl ((s1.1 : (List ByteArray)), (s1.2.1 : Int), (s1.2.2 : Int))))
def s_l1Split (p0 : ByteArray) (p1 : Int) : Option ((List ByteArray)) :=
  Option.bind (whileM (s_l1Split_b0 p0 p1) (2 ^ 64) ((([] : List ByteArray) : (List ByteArray)), (0 : Int), (0 : Int))) fun q2 =>
  aft (fun r => some r) (fun s3 =>
    some (s3.1 : (List ByteArray))) q2

/- loop.example/g00869/spec.l1Read -/
def s_l1Read_b0 (p0 : ByteArray) (v5 : Int) (s1 : Int) : Option ((Int × Bool) ⊕ ((Int) ⊕ (Int))) :=
  Option.bind (idxB p0 v5) fun x32 =>
  Option.bind (bif decide (x32 < 48) then
  some true
  else
  Option.bind (idxB p0 v5) fun x37 =>
  some (decide (57 < x37))) fun p39 =>
  bif p39 then
    some (.inl ((0 : Int), (false : Bool)))
  else
    Option.bind (idxB p0 v5) fun x44 =>
    some (.inr (.inr ((IntKind.i64.wrap ((IntKind.i64.wrap (s1 * 10)) + (IntKind.i64.wrap (IntKind.u8.wrap (x44 - 48))))) : Int)))
def s_l1Read (p0 : ByteArray) : Option (Int × Bool) :=
  Option.bind (bif decide ((p0.size : Int) < 1) then
  some true
  else
  some (decide (9 < (p0.size : Int)))) fun p13 =>
  Option.bind (bif p13 then
  some true
  else
  Option.bind (idxB p0 0) fun x16 =>
  Option.bind (bif (x16 == 48) then
  some (decide (1 < (p0.size : Int)))
  else
  some false) fun p22 =>
  some p22) fun p23 =>
  bif p23 then
    some ((0 : Int), (false : Bool))
  else
    Option.bind (rng (p0.size : Int)) fun _ =>
    Option.bind (cntM (s_l1Read_b0 p0) (Int.toNat ((p0.size : Int) - 0)) 0 (0 : Int)) fun q2 =>
    aft (fun r => some r) (fun s3 =>
      some ((s3 : Int), (true : Bool))) q2

/- loop.example/g00869/spec.l1In -/

def s_l1In (p0 : Int) (p1 : Int) (p2 : Int) : Option (Bool) :=
  Option.bind (bif decide (p1 ≤ p0) then
  some (decide (p0 ≤ p2))
  else
  some false) fun p14 =>
  some (p14 : Bool)

/- loop.example/g00869/spec.l32Words -/

def s_l32Words  : Option ((List ByteArray)) :=
  some (([(ByteArray.mk #[]), (ByteArray.mk #[112, 114, 105, 111]), (ByteArray.mk #[111, 119, 110, 101, 114]), (ByteArray.mk #[97, 100, 100]), (ByteArray.mk #[99, 117, 116])] : List ByteArray) : (List ByteArray))

/- loop.example/g00869/spec.l1Int -/
def s_l1Int_b0  (s1 : Int × ByteArray) : Option (ByteArray ⊕ ((Int × ByteArray) ⊕ (Int × ByteArray))) :=
  Option.bind (bif (eqB s1.2 (ByteArray.mk #[])) then
  some true
  else
  some (s1.1 != 0)) fun p13 =>
  bif p13 then
    Option.bind (bif decide ((Int.tmod s1.1 10) < 0) then
      some ((IntKind.i64.wrap (0 - (Int.tmod s1.1 10))) : Int)
    else
      some ((Int.tmod s1.1 10) : Int)) fun q4 =>
    Option.bind (catB (strB ([(IntKind.u8.wrap (IntKind.i64.wrap (48 + q4)))] : List Int)) s1.2) fun x26 =>
    some (.inr (.inr (((IntKind.i64.wrap (Int.tdiv s1.1 10)) : Int), (x26 : ByteArray))))
  else
    some (.inr (.inl ((s1.1 : Int), (s1.2 : ByteArray))))
def s_l1Int (p0 : Int) : Option (ByteArray) :=
  Option.bind (whileM s_l1Int_b0 (2 ^ 64) ((p0 : Int), ((ByteArray.mk #[]) : ByteArray))) fun q2 =>
  aft (fun r => some r) (fun s3 =>
    Option.bind (bif decide (p0 < 0) then
      Option.bind (catB (ByteArray.mk #[45]) s3.2) fun x31 =>
      some (x31 : ByteArray)
    else
      some (s3.2 : ByteArray)) fun q5 =>
    some (q5 : ByteArray)) q2

/- loop.example/g00869/spec.EditText -/

def s_EditText (p0 : Edit) : Option (ByteArray) :=
  Option.bind (s_l1In p0.Kind 1 4) fun x5 =>
  Option.bind (bif (!x5) then
  some true
  else
  Option.bind (s_l1In p0.V 0 255) fun x10 =>
  some (!x10)) fun p12 =>
  Option.bind (bif p12 then
  some true
  else
  Option.bind (s_l1In p0.N 0 255) fun x16 =>
  some (!x16)) fun p18 =>
  bif p18 then
    some ((ByteArray.mk #[]) : ByteArray)
  else
    Option.bind (s_l32Words) fun x19 =>
    Option.bind (idx x19 p0.Kind) fun x22 =>
    Option.bind (catB x22 (ByteArray.mk #[32])) fun x24 =>
    Option.bind (s_l1Int p0.V) fun x27 =>
    Option.bind (catB x24 x27) fun x28 =>
    Option.bind (catB x28 (ByteArray.mk #[32])) fun x29 =>
    Option.bind (s_l1Int p0.N) fun x32 =>
    Option.bind (catB x29 x32) fun x33 =>
    some (x33 : ByteArray)

/- loop.example/g00869/spec.TextEdit -/
def s_TextEdit_b0 (p0 : ByteArray) (x25 : Int × Bool) (x32 : Int × Bool) (s1 : Int) : Option ((Edit × Bool) ⊕ ((Int) ⊕ (Int))) :=
  bif decide (s1 ≤ 4) then
    Option.bind (s_EditText (⟨s1, x25.1, x32.1⟩ : Edit)) fun x51 =>
    Option.bind (bif (eqB x51 p0) then
    some (!(eqB p0 (ByteArray.mk #[])))
    else
    some false) fun p57 =>
    bif p57 then
      some (.inl (((⟨s1, x25.1, x32.1⟩ : Edit) : Edit), (true : Bool)))
    else
      some (.inr (.inr ((IntKind.i64.wrap (s1 + 1)) : Int)))
  else
    some (.inr (.inl (s1 : Int)))
def s_TextEdit (p0 : ByteArray) : Option (Edit × Bool) :=
  bif decide (20 < (p0.size : Int)) then
    some (((⟨0, 0, 0⟩ : Edit) : Edit), (false : Bool))
  else
    Option.bind (s_l1Split p0 32) fun x16 =>
    bif ((x16.length : Int) != 3) then
      some (((⟨0, 0, 0⟩ : Edit) : Edit), (false : Bool))
    else
      Option.bind (idx x16 1) fun x23 =>
      Option.bind (s_l1Read x23) fun x25 =>
      Option.bind (idx x16 2) fun x30 =>
      Option.bind (s_l1Read x30) fun x32 =>
      Option.bind (bif (!x25.2) then
      some true
      else
      some (!x32.2)) fun p40 =>
      bif p40 then
        some (((⟨0, 0, 0⟩ : Edit) : Edit), (false : Bool))
      else
        Option.bind (whileM (s_TextEdit_b0 p0 x25 x32) (2 ^ 64) (1 : Int)) fun q2 =>
        aft (fun r => some r) (fun s3 =>
          some (((⟨0, 0, 0⟩ : Edit) : Edit), (false : Bool))) q2

/- strings.Split -/
def strings_Split (p0 p1 : ByteArray) : Option ((List ByteArray)) := splitS p0 p1


/- slices.Index[[]string,string] -/
def slices_Index_string_string_b0 (p0 : (List ByteArray)) (p1 : ByteArray) (v8 : Int) (s1 : Unit) : Option (Int ⊕ ((Unit) ⊕ (Unit))) :=
  Option.bind (idx p0 v8) fun x14 =>
  bif (eqB p1 x14) then
    some (.inl (v8 : Int))
  else
    some (.inr (.inr ()))
def slices_Index_string_string (p0 : (List ByteArray)) (p1 : ByteArray) : Option (Int) :=
  Option.bind (cntM (slices_Index_string_string_b0 p0 p1) p0.length 0 ()) fun q2 =>
  aft (fun r => some r) (fun s3 =>
    some ((-1) : Int)) q2

/- loop.example/g00869/impl.readNumber -/
def i_readNumber_b0 (p0 : ByteArray) (v7 : Int) (s1 : Int) : Option ((Int × Bool) ⊕ ((Int) ⊕ (Int))) :=
  Option.bind (idxB p0 v7) fun x33 =>
  Option.bind (bif decide (x33 < 48) then
  some true
  else
  Option.bind (idxB p0 v7) fun x38 =>
  some (decide (57 < x38))) fun p40 =>
  bif p40 then
    some (.inl ((0 : Int), (false : Bool)))
  else
    Option.bind (idxB p0 v7) fun x45 =>
    some (.inr (.inr ((IntKind.i64.wrap ((IntKind.i64.wrap (10 * s1)) + (IntKind.i64.wrap (IntKind.u8.wrap (x45 - 48))))) : Int)))
def i_readNumber (p0 : ByteArray) (p1 : Int) : Option (Int × Bool) :=
  Option.bind (bif (eqB p0 (ByteArray.mk #[])) then
  some true
  else
  some (decide (9 < (p0.size : Int)))) fun p14 =>
  Option.bind (bif p14 then
  some true
  else
  Option.bind (idxB p0 0) fun x17 =>
  Option.bind (bif (x17 == 48) then
  some (decide (1 < (p0.size : Int)))
  else
  some false) fun p23 =>
  some p23) fun p24 =>
  bif p24 then
    some ((0 : Int), (false : Bool))
  else
    Option.bind (rng (p0.size : Int)) fun _ =>
    Option.bind (cntM (i_readNumber_b0 p0) (Int.toNat ((p0.size : Int) - 0)) 0 (0 : Int)) fun q2 =>
    aft (fun r => some r) (fun s3 =>
      some ((s3 : Int), (decide (s3 < p1) : Bool))) q2

/- loop.example/g00869/impl.TextEdit -/

def i_TextEdit (p0 : ByteArray) : Option (Edit × Bool) :=
  Option.bind (strings_Split p0 (ByteArray.mk #[32])) fun x11 =>
  Option.bind (idx x11 0) fun x14 =>
  Option.bind (slices_Index_string_string namesE0 x14) fun x16 =>
  Option.bind (bif decide (x16 < 0) then
  some true
  else
  some ((x11.length : Int) != 3)) fun p23 =>
  bif p23 then
    some (((⟨0, 0, 0⟩ : Edit) : Edit), (false : Bool))
  else
    Option.bind (idx x11 1) fun x27 =>
    Option.bind (i_readNumber x27 256) fun x29 =>
    Option.bind (idx x11 2) fun x34 =>
    Option.bind (i_readNumber x34 256) fun x36 =>
    Option.bind (bif (!x29.2) then
    some true
    else
    some (!x36.2)) fun p44 =>
    bif p44 then
      some (((⟨0, 0, 0⟩ : Edit) : Edit), (false : Bool))
    else
      some (((⟨(IntKind.i64.wrap (x16 + 1)), x29.1, x36.1⟩ : Edit) : Edit), (true : Bool))

/- loop.example/g00869/laws.eqEdit -/

def l_eqEdit (p0 : Edit) (p1 : Edit) : Option (Bool) :=
  bif (p0.Kind != p1.Kind) then
    some (false : Bool)
  else
    bif (p0.V != p1.V) then
      some (false : Bool)
    else
      bif (p0.N != p1.N) then
        some (false : Bool)
      else
        some (true : Bool)

/- loop.example/g00869/laws.FnExactTextEdit -/

def l_FnExactTextEdit (p0 : ByteArray) : Option (Bool) :=
  bif decide (1048576 < (p0.size : Int)) then
    some (true : Bool)
  else
    Option.bind (s_TextEdit p0) fun x12 =>
    Option.bind (i_TextEdit p0) fun x17 =>
    Option.bind (l_eqEdit x17.1 x12.1) fun x22 =>
    Option.bind (bif (!x22) then
    some true
    else
    some (x17.2 != x12.2)) fun p28 =>
    bif p28 then
      some (false : Bool)
    else
      some (true : Bool)

/- strconv.FormatInt -/
def strconv_FormatInt (p0 p1 : Int) : Option (ByteArray) := fmtB p0 p1


/- loop.example/g00869/impl.decimal -/

def i_decimal (p0 : Int) : Option (ByteArray) :=
  Option.bind (strconv_FormatInt p0 10) fun x4 =>
  some (x4 : ByteArray)

/- loop.example/g00869/impl.EditText -/

def i_EditText (p0 : Edit) : Option (ByteArray) :=
  Option.bind (bif decide (p0.Kind < 1) then
  some true
  else
  some (decide (4 < p0.Kind))) fun p10 =>
  Option.bind (bif p10 then
  some true
  else
  some (decide (p0.V < 0))) fun p15 =>
  Option.bind (bif p15 then
  some true
  else
  some (decide (256 ≤ p0.V))) fun p20 =>
  Option.bind (bif p20 then
  some true
  else
  some (decide (p0.N < 0))) fun p25 =>
  Option.bind (bif p25 then
  some true
  else
  some (decide (256 ≤ p0.N))) fun p30 =>
  bif p30 then
    some ((ByteArray.mk #[]) : ByteArray)
  else
    Option.bind (idx namesE0 (IntKind.i64.wrap (p0.Kind - 1))) fun x34 =>
    Option.bind (catB x34 (ByteArray.mk #[32])) fun x36 =>
    Option.bind (i_decimal p0.V) fun x39 =>
    Option.bind (catB x36 x39) fun x40 =>
    Option.bind (catB x40 (ByteArray.mk #[32])) fun x41 =>
    Option.bind (i_decimal p0.N) fun x44 =>
    Option.bind (catB x41 x44) fun x45 =>
    some (x45 : ByteArray)

end Go.Proofs.YtnpmbkaoeihdmaaDoor
