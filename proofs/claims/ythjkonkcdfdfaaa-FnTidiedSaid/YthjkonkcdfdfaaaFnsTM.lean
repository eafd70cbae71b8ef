/- The functions on data. By program. -/
import Derived.Test.YthjkonkcdfdfaaaTypes
set_option linter.unusedVariables false
set_option linter.unusedSimpArgs false
namespace Go.Proofs.Ythjkonkcdfdfaaa
open Go Go.Wk Go.Proofs
set_option maxRecDepth 100000
set_option maxHeartbeats 1000000

/- loop.example/g00869/laws.big -/

def l_big (p0 : (List Int)) : Option (Bool) :=
  some (decide (4096 < (p0.length : Int)) : Bool)

/- loop.example/g00869/spec.l1New -/
def s_l1New_b0 (p0 : (List Int)) (v4 : Int) (s1 : Int) : Option (l1Cur ⊕ ((Int) ⊕ (Int))) :=
  Option.bind (idx p0 v4) fun x18 =>
  some (.inr (.inr ((IntKind.i64.wrap (BitVec.toNat (BitVec.ofInt (IntKind.bits IntKind.i64) (IntKind.i64.wrap ((IntKind.i64.wrap ((IntKind.i64.wrap (s1 * 313)) + (IntKind.i64.wrap x18))) + 11)) &&& BitVec.ofInt (IntKind.bits IntKind.i64) 1073741823))) : Int)))
def s_l1New (p0 : (List Int)) : Option (l1Cur) :=
  Option.bind (cntM (s_l1New_b0 p0) p0.length 0 ((IntKind.i64.wrap (560017 + (p0.length : Int))) : Int)) fun q2 =>
  aft (fun r => some r) (fun s3 =>
    some ((⟨p0, 0, s3⟩ : l1Cur) : l1Cur)) q2

/- loop.example/g00869/spec.l1Byte -/

def s_l1Byte (p0 : l1Cur) : Option (Int × Int × Int) :=
  Option.bind (bif decide (p0.i < (p0.b.length : Int)) then
    Option.bind (idx p0.b p0.i) fun x44 =>
    some (((IntKind.i64.wrap (BitVec.toNat (BitVec.ofInt (IntKind.bits IntKind.i64) (IntKind.i64.wrap ((IntKind.i64.wrap (BitVec.toNat (BitVec.ofInt (IntKind.bits IntKind.i64) (IntKind.i64.wrap (BitVec.toNat (BitVec.ofInt (IntKind.bits IntKind.i64) (Int.fdiv (IntKind.i64.wrap ((IntKind.i64.wrap (p0.h * 6364136223846793005)) + 1442695040888963407)) (2 ^ (min (Int.toNat 33) (IntKind.bits IntKind.i64)))) ^^^ BitVec.ofInt (IntKind.bits IntKind.i64) (Int.fdiv (IntKind.i64.wrap ((IntKind.i64.wrap (p0.h * 6364136223846793005)) + 1442695040888963407)) (2 ^ (min (Int.toNat 45) (IntKind.bits IntKind.i64))))))) &&& BitVec.ofInt (IntKind.bits IntKind.i64) 255))) + (IntKind.i64.wrap x44))) &&& BitVec.ofInt (IntKind.bits IntKind.i64) 255))) : Int), ((IntKind.i64.wrap (p0.i + 1)) : Int))
  else
    some (((IntKind.i64.wrap (BitVec.toNat (BitVec.ofInt (IntKind.bits IntKind.i64) (IntKind.i64.wrap (BitVec.toNat (BitVec.ofInt (IntKind.bits IntKind.i64) (Int.fdiv (IntKind.i64.wrap ((IntKind.i64.wrap (p0.h * 6364136223846793005)) + 1442695040888963407)) (2 ^ (min (Int.toNat 33) (IntKind.bits IntKind.i64)))) ^^^ BitVec.ofInt (IntKind.bits IntKind.i64) (Int.fdiv (IntKind.i64.wrap ((IntKind.i64.wrap (p0.h * 6364136223846793005)) + 1442695040888963407)) (2 ^ (min (Int.toNat 45) (IntKind.bits IntKind.i64))))))) &&& BitVec.ofInt (IntKind.bits IntKind.i64) 255))) : Int), (p0.i : Int))) fun q1 =>
  some ((q1.1 : Int), (q1.2 : Int), ((IntKind.i64.wrap ((IntKind.i64.wrap (p0.h * 6364136223846793005)) + 1442695040888963407)) : Int))

/- loop.example/g00869/spec.l1Below -/

def s_l1Below (p0 : l1Cur) (p1 : Int) : Option (Int × Int × Int) :=
  bif decide (p1 ≤ 0) then
    some ((0 : Int), (p0.i : Int), (p0.h : Int))
  else
    bif decide (p1 ≤ 256) then
      Option.bind (s_l1Byte p0) fun x14 =>
      Option.bind (nz p1) fun _z16 =>
      some (((Int.tmod x14.1 p1) : Int), (x14.2.1 : Int), (x14.2.2 : Int))
    else
      Option.bind (s_l1Byte p0) fun x18 =>
      Option.bind (s_l1Byte (⟨p0.b, x18.2.1, x18.2.2⟩ : l1Cur)) fun x20 =>
      Option.bind (s_l1Byte (⟨p0.b, x20.2.1, x20.2.2⟩ : l1Cur)) fun x22 =>
      Option.bind (s_l1Byte (⟨p0.b, x22.2.1, x22.2.2⟩ : l1Cur)) fun x24 =>
      Option.bind (nz p1) fun _z36 =>
      some (((Int.tmod (IntKind.i64.wrap ((IntKind.i64.wrap ((IntKind.i64.wrap ((IntKind.i64.wrap (x18.1 * 16777216)) + (IntKind.i64.wrap (x20.1 * 65536)))) + (IntKind.i64.wrap (x22.1 * 256)))) + x24.1)) p1) : Int), (x24.2.1 : Int), (x24.2.2 : Int))

/- loop.example/g00869/spec.l31Signals -/

def s_l31Signals (p0 : Circuit) : Option (Int) :=
  some ((IntKind.i64.wrap ((IntKind.i64.wrap ((IntKind.i64.wrap (1 + p0.Inputs)) + p0.Latches)) + (p0.Gates.length : Int))) : Int)

/- loop.example/g00869/spec.l31Draw -/
def s_l31Draw_b0 (p0 : l1Cur) (x10 : Int × Int × Int) (x13 : Int × Int × Int) (s1 : Int × Int × Int × (List Gate)) : Option ((Circuit × Int × Int) ⊕ ((Int × Int × Int × (List Gate)) ⊕ (Int × Int × Int × (List Gate)))) :=
  bif decide (0 < s1.1) then
    Option.bind (s_l31Signals (⟨(IntKind.i64.wrap (1 + x10.1)), x13.1, ([] : List Int), s1.2.2.2, ([] : List Int)⟩ : Circuit)) fun x22 =>
    Option.bind (s_l1Below (⟨p0.b, s1.2.1, s1.2.2.1⟩ : l1Cur) (IntKind.i64.wrap (2 * x22))) fun x28 =>
    Option.bind (s_l1Below (⟨p0.b, x28.2.1, x28.2.2⟩ : l1Cur) (IntKind.i64.wrap (2 * x22))) fun x31 =>
    Option.bind (appS 16 s1.2.2.2 ([(⟨x28.1, x31.1⟩ : Gate)] : List Gate)) fun x34 =>
    some (.inr (.inr (((IntKind.i64.wrap (s1.1 - 1)) : Int), (x31.2.1 : Int), (x31.2.2 : Int), (x34 : (List Gate)))))
  else
    some (.inr (.inl ((s1.1 : Int), (s1.2.1 : Int), (s1.2.2.1 : Int), (s1.2.2.2 : (List Gate)))))
def s_l31Draw_b2 (p0 : l1Cur) (x37 : Int) (v7 : Int) (s4 : Int × Int × (List Int)) : Option ((Circuit × Int × Int) ⊕ ((Int × Int × (List Int)) ⊕ (Int × Int × (List Int)))) :=
  Option.bind (s_l1Below (⟨p0.b, s4.1, s4.2.1⟩ : l1Cur) (IntKind.i64.wrap (2 * x37))) fun x49 =>
  Option.bind (appS 8 s4.2.2 ([x49.1] : List Int)) fun x51 =>
  some (.inr (.inr ((x49.2.1 : Int), (x49.2.2 : Int), (x51 : (List Int)))))
def s_l31Draw_b4 (p0 : l1Cur) (x37 : Int) (s7 : Int × Int × Int × (List Int)) : Option ((Circuit × Int × Int) ⊕ ((Int × Int × Int × (List Int)) ⊕ (Int × Int × Int × (List Int)))) :=
  bif decide (0 < s7.1) then
    Option.bind (s_l1Below (⟨p0.b, s7.2.1, s7.2.2.1⟩ : l1Cur) (IntKind.i64.wrap (2 * x37))) fun x64 =>
    Option.bind (appS 8 s7.2.2.2 ([x64.1] : List Int)) fun x66 =>
    some (.inr (.inr (((IntKind.i64.wrap (s7.1 - 1)) : Int), (x64.2.1 : Int), (x64.2.2 : Int), (x66 : (List Int)))))
  else
    some (.inr (.inl ((s7.1 : Int), (s7.2.1 : Int), (s7.2.2.1 : Int), (s7.2.2.2 : (List Int)))))
def s_l31Draw (p0 : l1Cur) : Option (Circuit × Int × Int) :=
  Option.bind (s_l1Below p0 2) fun x10 =>
  Option.bind (s_l1Below (⟨p0.b, x10.2.1, x10.2.2⟩ : l1Cur) 4) fun x13 =>
  Option.bind (s_l1Below (⟨p0.b, x13.2.1, x13.2.2⟩ : l1Cur) 9) fun x16 =>
  Option.bind (whileM (s_l31Draw_b0 p0 x10 x13) (2 ^ 64) ((x16.1 : Int), (x16.2.1 : Int), (x16.2.2 : Int), (([] : List Gate) : (List Gate)))) fun q2 =>
  aft (fun r => some r) (fun s3 =>
    Option.bind (s_l31Signals (⟨(IntKind.i64.wrap (1 + x10.1)), x13.1, ([] : List Int), s3.2.2.2, ([] : List Int)⟩ : Circuit)) fun x37 =>
    Option.bind (rng x13.1) fun _ =>
    Option.bind (cntM (s_l31Draw_b2 p0 x37) (Int.toNat (x13.1 - 0)) 0 ((s3.2.1 : Int), (s3.2.2.1 : Int), (([] : List Int) : (List Int)))) fun q5 =>
    aft (fun r => some r) (fun s6 =>
      Option.bind (s_l1Below (⟨p0.b, s6.1, s6.2.1⟩ : l1Cur) 2) fun x54 =>
      Option.bind (whileM (s_l31Draw_b4 p0 x37) (2 ^ 64) (((IntKind.i64.wrap (1 + x54.1)) : Int), (x54.2.1 : Int), (x54.2.2 : Int), (([] : List Int) : (List Int)))) fun q8 =>
      aft (fun r => some r) (fun s9 =>
        some (((⟨(IntKind.i64.wrap (1 + x10.1)), x13.1, s6.2.2, s3.2.2.2, s9.2.2.2⟩ : Circuit) : Circuit), (s9.2.1 : Int), (s9.2.2.1 : Int))) q8) q5) q2

/- loop.example/g00869/spec.l1Once -/

def s_l1Once (p0 : l1Cur) (p1 : Int) : Option (Bool × Int × Int) :=
  Option.bind (s_l1Below p0 p1) fun x7 =>
  some (((x7.1 == 0) : Bool), (x7.2.1 : Int), (x7.2.2 : Int))

/- loop.example/g00869/spec.l1Odd -/

def s_l1Odd (p0 : l1Cur) : Option (Int × Int × Int) :=
  Option.bind (s_l1Below p0 10) fun x5 =>
  Option.bind (idx ([(-1), 0, 1, 2147483648, (-2147483648), 1099511627776, 4611686018427387904, (-4611686018427387904), 9223372036854775807, (-9223372036854775808)] : List Int) x5.1) fun x6 =>
  some ((x6 : Int), (x5.2.1 : Int), (x5.2.2 : Int))

/- loop.example/g00869/spec.l1Min -/

def s_l1Min (p0 : Int) (p1 : Int) : Option (Int) :=
  bif decide (p0 < p1) then
    some (p0 : Int)
  else
    some (p1 : Int)

/- loop.example/g00869/spec.l1Num -/

def s_l1Num (p0 : l1Cur) (p1 : Int) : Option (Int × Int × Int) :=
  Option.bind (s_l1Once p0 10) fun x6 =>
  bif x6.1 then
    Option.bind (s_l1Odd (⟨p0.b, x6.2.1, x6.2.2⟩ : l1Cur)) fun x11 =>
    Option.bind (s_l1Below (⟨p0.b, x11.2.1, x11.2.2⟩ : l1Cur) 4) fun x14 =>
    Option.bind (idx ([(-1), p1, (IntKind.i64.wrap (p1 + 1)), x11.1] : List Int) x14.1) fun x15 =>
    some ((x15 : Int), (x14.2.1 : Int), (x14.2.2 : Int))
  else
    Option.bind (s_l1Once (⟨p0.b, x6.2.1, x6.2.2⟩ : l1Cur) 2) fun x18 =>
    bif x18.1 then
      Option.bind (s_l1Min p1 4) fun x21 =>
      Option.bind (s_l1Below (⟨p0.b, x18.2.1, x18.2.2⟩ : l1Cur) (IntKind.i64.wrap (x21 + 1))) fun x23 =>
      some ((x23.1 : Int), (x23.2.1 : Int), (x23.2.2 : Int))
    else
      Option.bind (s_l1Below (⟨p0.b, x18.2.1, x18.2.2⟩ : l1Cur) (IntKind.i64.wrap (p1 + 1))) fun x27 =>
      some ((x27.1 : Int), (x27.2.1 : Int), (x27.2.2 : Int))

/- loop.example/g00869/spec.l31DrawAny -/
def s_l31DrawAny_b1 (p0 : l1Cur) (s7 : Int × Int × (List Int)) : Option ((Circuit × Int × Int) ⊕ ((Int × Int × (List Int)) ⊕ (Int × Int × (List Int)))) :=
  Option.bind (s_l1Below (⟨p0.b, s7.1, s7.2.1⟩ : l1Cur) 2) fun x53 =>
  bif decide ((s7.2.2.length : Int) < (IntKind.i64.wrap (4 + x53.1))) then
    Option.bind (appS 8 s7.2.2 ([1] : List Int)) fun x59 =>
    some (.inr (.inr ((x53.2.1 : Int), (x53.2.2 : Int), (x59 : (List Int)))))
  else
    some (.inr (.inl ((x53.2.1 : Int), (x53.2.2 : Int), (s7.2.2 : (List Int)))))
def s_l31DrawAny (p0 : l1Cur) : Option (Circuit × Int × Int) :=
  Option.bind (s_l31Draw p0) fun x5 =>
  Option.bind (s_l1Once (⟨p0.b, x5.2.1, x5.2.2⟩ : l1Cur) 7) fun x7 =>
  Option.bind (bif x7.1 then
    Option.bind (s_l1Below (⟨p0.b, x7.2.1, x7.2.2⟩ : l1Cur) 6) fun x9 =>
    Option.bind (bif (x9.1 == 0) then
      Option.bind (s_l1Below (⟨p0.b, x9.2.1, x9.2.2⟩ : l1Cur) 4) fun x14 =>
      Option.bind (idx ([(-1), 0, 4, 5] : List Int) x14.1) fun x15 =>
      some ((x14.2.1 : Int), (x14.2.2 : Int), (x15 : Int), (x5.1.Latches : Int), (x5.1.Next : (List Int)), (x5.1.Gates : (List Gate)), (x5.1.Outs : (List Int)))
    else
      Option.bind (bif (x9.1 == 1) then
        Option.bind (s_l1Num (⟨p0.b, x9.2.1, x9.2.2⟩ : l1Cur) 6) fun x21 =>
        some ((x21.2.1 : Int), (x21.2.2 : Int), (x21.1 : Int), (x5.1.Next : (List Int)), (x5.1.Gates : (List Gate)), (x5.1.Outs : (List Int)))
      else
        Option.bind (bif (x9.1 == 2) then
          Option.bind (s_l31Signals x5.1) fun x29 =>
          Option.bind (s_l1Num (⟨p0.b, x9.2.1, x9.2.2⟩ : l1Cur) (IntKind.i64.wrap (2 * x29))) fun x31 =>
          Option.bind (appS 8 x5.1.Outs ([x31.1] : List Int)) fun x33 =>
          some ((x31.2.1 : Int), (x31.2.2 : Int), (x5.1.Next : (List Int)), (x5.1.Gates : (List Gate)), (x33 : (List Int)))
        else
          Option.bind (bif (x9.1 == 3) then
            Option.bind (s_l1Num (⟨p0.b, x9.2.1, x9.2.2⟩ : l1Cur) 30) fun x40 =>
            Option.bind (s_l1Num (⟨p0.b, x40.2.1, x40.2.2⟩ : l1Cur) 30) fun x42 =>
            Option.bind (appS 16 x5.1.Gates ([(⟨x40.1, x42.1⟩ : Gate)] : List Gate)) fun x45 =>
            some ((x42.2.1 : Int), (x42.2.2 : Int), (x5.1.Next : (List Int)), (x45 : (List Gate)), (x5.1.Outs : (List Int)))
          else
            Option.bind (bif (x9.1 == 4) then
              Option.bind (whileM (s_l31DrawAny_b1 p0) (2 ^ 64) ((x9.2.1 : Int), (x9.2.2 : Int), (x5.1.Outs : (List Int)))) fun q8 =>
              aft (fun r => none) (fun s9 =>
                some ((s9.1 : Int), (s9.2.1 : Int), (x5.1.Next : (List Int)), (s9.2.2 : (List Int)))) q8
            else
              Option.bind (bif (x9.1 == 5) then
                Option.bind (appS 8 x5.1.Next ([0] : List Int)) fun x66 =>
                some (x66 : (List Int))
              else
                some (x5.1.Next : (List Int))) fun q10 =>
              some ((x9.2.1 : Int), (x9.2.2 : Int), (q10 : (List Int)), (x5.1.Outs : (List Int)))) fun q6 =>
            some ((q6.1 : Int), (q6.2.1 : Int), (q6.2.2.1 : (List Int)), (x5.1.Gates : (List Gate)), (q6.2.2.2 : (List Int)))) fun q5 =>
          some ((q5.1 : Int), (q5.2.1 : Int), (q5.2.2.1 : (List Int)), (q5.2.2.2.1 : (List Gate)), (q5.2.2.2.2 : (List Int)))) fun q4 =>
        some ((q4.1 : Int), (q4.2.1 : Int), (x5.1.Latches : Int), (q4.2.2.1 : (List Int)), (q4.2.2.2.1 : (List Gate)), (q4.2.2.2.2 : (List Int)))) fun q3 =>
      some ((q3.1 : Int), (q3.2.1 : Int), (x5.1.Inputs : Int), (q3.2.2.1 : Int), (q3.2.2.2.1 : (List Int)), (q3.2.2.2.2.1 : (List Gate)), (q3.2.2.2.2.2 : (List Int)))) fun q2 =>
    some ((q2.1 : Int), (q2.2.1 : Int), (q2.2.2.1 : Int), (q2.2.2.2.1 : Int), (q2.2.2.2.2.1 : (List Int)), (q2.2.2.2.2.2.1 : (List Gate)), (q2.2.2.2.2.2.2 : (List Int)))
  else
    some ((x7.2.1 : Int), (x7.2.2 : Int), (x5.1.Inputs : Int), (x5.1.Latches : Int), (x5.1.Next : (List Int)), (x5.1.Gates : (List Gate)), (x5.1.Outs : (List Int)))) fun q1 =>
  some (((⟨q1.2.2.1, q1.2.2.2.1, q1.2.2.2.2.1, q1.2.2.2.2.2.1, q1.2.2.2.2.2.2⟩ : Circuit) : Circuit), (q1.1 : Int), (q1.2.1 : Int))

/- loop.example/g00869/spec.DrawTidiedCircuit -/

def s_DrawTidiedCircuit (p0 : (List Int)) : Option (Circuit) :=
  Option.bind (s_l1New p0) fun x5 =>
  Option.bind (s_l31DrawAny x5) fun x7 =>
  some (x7.1 : Circuit)

/- loop.example/g00869/impl.areLetters$1 -/

def i_areLetters_1 (p0 : Int) (c0 : Int) : Option (Bool) :=
  Option.bind (bif decide (p0 < 0) then
  some true
  else
  some (decide (c0 ≤ p0))) fun p10 =>
  some (p10 : Bool)

/- slices.IndexFunc[[]int64,int64] -/
def slices_IndexFunc_I_int64__i_areLetters_1_b0 (p0 : (List Int)) (c1_0 : Int) (v8 : Int) (s1 : Unit) : Option (Int ⊕ ((Unit) ⊕ (Unit))) :=
  Option.bind (idx p0 v8) fun x14 =>
  Option.bind (i_areLetters_1 x14 c1_0) fun x16 =>
  bif x16 then
    some (.inl (v8 : Int))
  else
    some (.inr (.inr ()))
def slices_IndexFunc_I_int64__i_areLetters_1 (p0 : (List Int)) (c1_0 : Int) : Option (Int) :=
  Option.bind (cntM (slices_IndexFunc_I_int64__i_areLetters_1_b0 p0 c1_0) p0.length 0 ()) fun q2 =>
  aft (fun r => some r) (fun s3 =>
    some ((-1) : Int)) q2

/- slices.ContainsFunc[[]int64,int64] -/

def slices_ContainsFunc_I_int64__i_areLetters_1 (p0 : (List Int)) (c1_0 : Int) : Option (Bool) :=
  Option.bind (slices_IndexFunc_I_int64__i_areLetters_1 p0 c1_0) fun x7 =>
  some (decide (0 ≤ x7) : Bool)

/- loop.example/g00869/impl.areLetters -/

def i_areLetters (p0 : (List Int)) (p1 : Int) : Option (Bool) :=
  Option.bind (slices_ContainsFunc_I_int64__i_areLetters_1 p0 p1) fun x7 =>
  some ((!x7) : Bool)

/- loop.example/g00869/impl.signalsOf -/

def i_signalsOf (p0 : Circuit) : Option (Int) :=
  some ((IntKind.i64.wrap ((IntKind.i64.wrap ((IntKind.i64.wrap (1 + p0.Inputs)) + p0.Latches)) + (p0.Gates.length : Int))) : Int)

/- loop.example/g00869/impl.isCircuit -/
def i_isCircuit_b0 (p0 : Circuit) (v53 : Int) (s1 : Unit) : Option (Bool ⊕ ((Unit) ⊕ (Unit))) :=
  Option.bind (idx p0.Gates v53) fun x56 =>
  Option.bind (i_areLetters ([x56.A, x56.B] : List Int) (IntKind.i64.wrap (2 * (IntKind.i64.wrap ((IntKind.i64.wrap ((IntKind.i64.wrap (1 + p0.Inputs)) + p0.Latches)) + v53))))) fun x67 =>
  bif (!x67) then
    some (.inl (false : Bool))
  else
    some (.inr (.inr ()))
def i_isCircuit (p0 : Circuit) : Option (Bool) :=
  Option.bind (bif decide (p0.Inputs < 0) then
  some true
  else
  some (decide (4 < p0.Inputs))) fun p13 =>
  Option.bind (bif p13 then
  some true
  else
  some (decide (p0.Latches < 0))) fun p18 =>
  Option.bind (bif p18 then
  some true
  else
  some (decide (6 < p0.Latches))) fun p23 =>
  Option.bind (bif p23 then
  some true
  else
  some ((p0.Next.length : Int) != p0.Latches)) fun p31 =>
  Option.bind (bif p31 then
  some true
  else
  some (decide (8000 < (p0.Gates.length : Int)))) fun p37 =>
  Option.bind (bif p37 then
  some true
  else
  some (decide (4 < (p0.Outs.length : Int)))) fun p43 =>
  bif p43 then
    some (false : Bool)
  else
    Option.bind (cntM (i_isCircuit_b0 p0) p0.Gates.length 0 ()) fun q2 =>
    aft (fun r => some r) (fun s3 =>
      Option.bind (i_signalsOf p0) fun x73 =>
      Option.bind (i_areLetters p0.Next (IntKind.i64.wrap (2 * x73))) fun x75 =>
      Option.bind (bif x75 then
      Option.bind (i_signalsOf p0) fun x80 =>
      Option.bind (i_areLetters p0.Outs (IntKind.i64.wrap (2 * x80))) fun x82 =>
      some x82
      else
      some false) fun p83 =>
      some (p83 : Bool)) q2

/- (*loop.example/g00869/impl.builder).learn -/

def i_builder_learn (p0 : builder) (p1 : Gate) (p2 : Int) : Option ((List (Gate × Int))) :=
  Option.bind (mget kwGate p0.known ((⟨(if p1.B < p1.A then p1.B else p1.A), (if p1.A < p1.B then p1.B else p1.A)⟩ : Gate) : Gate) (0 : Int)) fun x25 =>
  Option.bind (bif (!x25.2) then
    Option.bind (mset kwGate p0.known ((⟨(if p1.B < p1.A then p1.B else p1.A), (if p1.A < p1.B then p1.B else p1.A)⟩ : Gate) : Gate) p2) fun y14 =>
    some (y14 : (List (Gate × Int)))
  else
    some (p0.known : (List (Gate × Int)))) fun q1 =>
  some (q1 : (List (Gate × Int)))

/- loop.example/g00869/impl.newBuilder -/
def i_newBuilder_b0 (p0 : Circuit) (x10 : (List Int)) (x15 : (List Gate)) (x20 : (List Int)) (v35 : Int) (s1 : (List (Gate × Int))) : Option (builder ⊕ (((List (Gate × Int))) ⊕ ((List (Gate × Int))))) :=
  Option.bind (idx x15 v35) fun x38 =>
  Option.bind (i_builder_learn (⟨(⟨p0.Inputs, p0.Latches, x10, x15, x20⟩ : Circuit), false, s1⟩ : builder) x38 (IntKind.i64.wrap (2 * (IntKind.i64.wrap ((IntKind.i64.wrap ((IntKind.i64.wrap (1 + p0.Inputs)) + p0.Latches)) + v35))))) fun x46 =>
  some (.inr (.inr (x46 : (List (Gate × Int)))))
def i_newBuilder (p0 : Circuit) : Option (builder) :=
  Option.bind (appS 8 ([] : List Int) p0.Next) fun x10 =>
  Option.bind (appS 16 ([] : List Gate) p0.Gates) fun x15 =>
  Option.bind (appS 8 ([] : List Int) p0.Outs) fun x20 =>
  Option.bind (cntM (i_newBuilder_b0 p0 x10 x15 x20) x15.length 0 (([] : List (Gate × Int)) : (List (Gate × Int)))) fun q2 =>
  aft (fun r => some r) (fun s3 =>
    some ((⟨(⟨p0.Inputs, p0.Latches, x10, x15, x20⟩ : Circuit), false, s3⟩ : builder) : builder)) q2

/- loop.example/g00869/impl.tidied$1 -/

def i_tidied_1 (p0 : Int) (c0 : (List Int)) : Option (Int) :=
  Option.bind (idx c0 (IntKind.i64.wrap (Int.tdiv p0 2))) fun x7 =>
  some ((IntKind.i64.wrap (BitVec.toNat (BitVec.ofInt (IntKind.bits IntKind.i64) x7 ^^^ BitVec.ofInt (IntKind.bits IntKind.i64) (IntKind.i64.wrap (BitVec.toNat (BitVec.ofInt (IntKind.bits IntKind.i64) p0 &&& BitVec.ofInt (IntKind.bits IntKind.i64) 1)))))) : Int)

/- (*loop.example/g00869/impl.builder).join -/

def i_builder_join (p0 : builder) (p1 : Int) (p2 : Int) : Option (Int × (List Gate) × Bool × (List (Gate × Int))) :=
  Option.bind (bif (p1 == 0) then
  some true
  else
  some (p2 == 0)) fun p17 =>
  Option.bind (bif p17 then
  some true
  else
  some (p1 == (IntKind.i64.wrap (BitVec.toNat (BitVec.ofInt (IntKind.bits IntKind.i64) p2 ^^^ BitVec.ofInt (IntKind.bits IntKind.i64) 1))))) fun p23 =>
  bif p23 then
    some ((0 : Int), (p0.c.Gates : (List Gate)), (p0.full : Bool), (p0.known : (List (Gate × Int))))
  else
    bif (p1 == 1) then
      some ((p2 : Int), (p0.c.Gates : (List Gate)), (p0.full : Bool), (p0.known : (List (Gate × Int))))
    else
      Option.bind (bif (p2 == 1) then
      some true
      else
      some (p1 == p2)) fun p35 =>
      bif p35 then
        some ((p1 : Int), (p0.c.Gates : (List Gate)), (p0.full : Bool), (p0.known : (List (Gate × Int))))
      else
        Option.bind (mget kwGate p0.known ((⟨(if p2 < p1 then p2 else p1), (if p1 < p2 then p2 else p1)⟩ : Gate) : Gate) (0 : Int)) fun x50 =>
        bif x50.2 then
          some ((x50.1 : Int), (p0.c.Gates : (List Gate)), (p0.full : Bool), (p0.known : (List (Gate × Int))))
        else
          bif decide (8000 ≤ (p0.c.Gates.length : Int)) then
            some ((0 : Int), (p0.c.Gates : (List Gate)), (true : Bool), (p0.known : (List (Gate × Int))))
          else
            Option.bind (i_signalsOf p0.c) fun x69 =>
            Option.bind (appS 16 p0.c.Gates ([(⟨(if p2 < p1 then p2 else p1), (if p1 < p2 then p2 else p1)⟩ : Gate)] : List Gate)) fun x79 =>
            Option.bind (i_builder_learn (⟨(⟨p0.c.Inputs, p0.c.Latches, p0.c.Next, x79, p0.c.Outs⟩ : Circuit), p0.full, p0.known⟩ : builder) (⟨(if p2 < p1 then p2 else p1), (if p1 < p2 then p2 else p1)⟩ : Gate) (IntKind.i64.wrap (2 * x69))) fun x86 =>
            some (((IntKind.i64.wrap (2 * x69)) : Int), (x79 : (List Gate)), (p0.full : Bool), (x86 : (List (Gate × Int))))

/- loop.example/g00869/impl.withoutUnused$1 -/

def i_withoutUnused_1 (p0 : Int) (c0 : (List Int)) : Option (Int) :=
  Option.bind (idx c0 (IntKind.i64.wrap (Int.tdiv p0 2))) fun x7 =>
  some ((IntKind.i64.wrap ((IntKind.i64.wrap (2 * x7)) + (IntKind.i64.wrap (BitVec.toNat (BitVec.ofInt (IntKind.bits IntKind.i64) p0 &&& BitVec.ofInt (IntKind.bits IntKind.i64) 1))))) : Int)

/- loop.example/g00869/impl.withoutUnused -/
def i_withoutUnused_b0  (v26 : Int) (s1 : (List Int)) : Option (Circuit ⊕ (((List Int)) ⊕ ((List Int)))) :=
  Option.bind (idx s1 v26) fun x32 =>
  Option.bind (setI s1 v26 v26) fun y29 =>
  some (.inr (.inr (y29 : (List Int))))
def i_withoutUnused_b2 (p0 : Circuit) (p1 : (List Bool)) (v43 : Int) (s4 : (List Gate) × (List Int)) : Option (Circuit ⊕ (((List Gate) × (List Int)) ⊕ ((List Gate) × (List Int)))) :=
  Option.bind (idx p0.Gates v43) fun x46 =>
  Option.bind (idx p1 (IntKind.i64.wrap ((IntKind.i64.wrap ((IntKind.i64.wrap (1 + p0.Inputs)) + p0.Latches)) + v43))) fun x52 =>
  Option.bind (bif x52 then
    Option.bind (i_signalsOf (⟨p0.Inputs, p0.Latches, ([] : List Int), s4.1, ([] : List Int)⟩ : Circuit)) fun x59 =>
    Option.bind (idx s4.2 (IntKind.i64.wrap ((IntKind.i64.wrap ((IntKind.i64.wrap (1 + p0.Inputs)) + p0.Latches)) + v43))) fun x60 =>
    Option.bind (setI s4.2 (IntKind.i64.wrap ((IntKind.i64.wrap ((IntKind.i64.wrap (1 + p0.Inputs)) + p0.Latches)) + v43)) x59) fun y30 =>
    Option.bind (i_withoutUnused_1 x46.A y30) fun x66 =>
    Option.bind (i_withoutUnused_1 x46.B y30) fun x70 =>
    Option.bind (appS 16 s4.1 ([(⟨x66, x70⟩ : Gate)] : List Gate)) fun x73 =>
    some ((x73 : (List Gate)), (y30 : (List Int)))
  else
    some ((s4.1 : (List Gate)), (s4.2 : (List Int)))) fun q7 =>
  some (.inr (.inr ((q7.1 : (List Gate)), (q7.2 : (List Int)))))
def i_withoutUnused_b4 (p0 : Circuit) (s6 : (List Gate) × (List Int)) (v79 : Int) (s8 : (List Int)) : Option (Circuit ⊕ (((List Int)) ⊕ ((List Int)))) :=
  Option.bind (idx p0.Next v79) fun x81 =>
  Option.bind (i_withoutUnused_1 x81 s6.2) fun x87 =>
  Option.bind (appS 8 s8 ([x87] : List Int)) fun x89 =>
  some (.inr (.inr (x89 : (List Int))))
def i_withoutUnused_b6 (p0 : Circuit) (s6 : (List Gate) × (List Int)) (v95 : Int) (s11 : (List Int)) : Option (Circuit ⊕ (((List Int)) ⊕ ((List Int)))) :=
  Option.bind (idx p0.Outs v95) fun x97 =>
  Option.bind (i_withoutUnused_1 x97 s6.2) fun x103 =>
  Option.bind (appS 8 s11 ([x103] : List Int)) fun x105 =>
  some (.inr (.inr (x105 : (List Int))))
def i_withoutUnused (p0 : Circuit) (p1 : (List Bool)) : Option (Circuit) :=
  Option.bind (i_signalsOf p0) fun x23 =>
  Option.bind (mkS 8 x23 (0 : Int)) fun x24 =>
  Option.bind (rng (IntKind.i64.wrap ((IntKind.i64.wrap (1 + p0.Inputs)) + p0.Latches))) fun _ =>
  Option.bind (cntM i_withoutUnused_b0 (Int.toNat ((IntKind.i64.wrap ((IntKind.i64.wrap (1 + p0.Inputs)) + p0.Latches)) - 0)) 0 (x24 : (List Int))) fun q2 =>
  aft (fun r => some r) (fun s3 =>
    Option.bind (cntM (i_withoutUnused_b2 p0 p1) p0.Gates.length 0 ((([] : List Gate) : (List Gate)), (s3 : (List Int)))) fun q5 =>
    aft (fun r => some r) (fun s6 =>
      Option.bind (cntM (i_withoutUnused_b4 p0 s6) p0.Next.length 0 (([] : List Int) : (List Int))) fun q9 =>
      aft (fun r => some r) (fun s10 =>
        Option.bind (cntM (i_withoutUnused_b6 p0 s6) p0.Outs.length 0 (([] : List Int) : (List Int))) fun q12 =>
        aft (fun r => some r) (fun s13 =>
          some ((⟨p0.Inputs, p0.Latches, s10, s6.1, s13⟩ : Circuit) : Circuit)) q12) q9) q5) q2

/- loop.example/g00869/impl.tidied -/
def i_tidied_b0  (v33 : Int) (s1 : (List Int)) : Option (Circuit ⊕ (((List Int)) ⊕ ((List Int)))) :=
  Option.bind (appS 8 s1 ([(IntKind.i64.wrap (2 * v33))] : List Int)) fun x40 =>
  some (.inr (.inr (x40 : (List Int))))
def i_tidied_b2 (p0 : Circuit) (x24 : builder) (v46 : Int) (s4 : (List Int) × (List Gate) × Bool × (List (Gate × Int))) : Option (Circuit ⊕ (((List Int) × (List Gate) × Bool × (List (Gate × Int))) ⊕ ((List Int) × (List Gate) × Bool × (List (Gate × Int))))) :=
  Option.bind (idx p0.Gates v46) fun x48 =>
  Option.bind (i_tidied_1 x48.A s4.1) fun x55 =>
  Option.bind (i_tidied_1 x48.B s4.1) fun x59 =>
  Option.bind (i_builder_join (⟨(⟨x24.c.Inputs, x24.c.Latches, x24.c.Next, s4.2.1, x24.c.Outs⟩ : Circuit), s4.2.2.1, s4.2.2.2⟩ : builder) x55 x59) fun x60 =>
  Option.bind (appS 8 s4.1 ([x60.1] : List Int)) fun x62 =>
  some (.inr (.inr ((x62 : (List Int)), (x60.2.1 : (List Gate)), (x60.2.2.1 : Bool), (x60.2.2.2 : (List (Gate × Int))))))
def i_tidied_b4 (p0 : Circuit) (s6 : (List Int) × (List Gate) × Bool × (List (Gate × Int))) (v75 : Int) (s7 : (List Int)) : Option (Circuit ⊕ (((List Int)) ⊕ ((List Int)))) :=
  Option.bind (idx p0.Next v75) fun x77 =>
  Option.bind (i_tidied_1 x77 s6.1) fun x83 =>
  Option.bind (appS 8 s7 ([x83] : List Int)) fun x85 =>
  some (.inr (.inr (x85 : (List Int))))
def i_tidied_b6 (p0 : Circuit) (s6 : (List Int) × (List Gate) × Bool × (List (Gate × Int))) (v91 : Int) (s10 : (List Int)) : Option (Circuit ⊕ (((List Int)) ⊕ ((List Int)))) :=
  Option.bind (idx p0.Outs v91) fun x93 =>
  Option.bind (i_tidied_1 x93 s6.1) fun x99 =>
  Option.bind (appS 8 s10 ([x99] : List Int)) fun x101 =>
  some (.inr (.inr (x101 : (List Int))))
def i_tidied_b8 (x113 : (List Int)) (v115 : Int) (s13 : (List Bool)) : Option (Circuit ⊕ (((List Bool)) ⊕ ((List Bool)))) :=
  Option.bind (idx x113 v115) fun x117 =>
  Option.bind (idx s13 (IntKind.i64.wrap (Int.tdiv x117 2))) fun x122 =>
  Option.bind (setI s13 (IntKind.i64.wrap (Int.tdiv x117 2)) true) fun y25 =>
  some (.inr (.inr (y25 : (List Bool))))
def i_tidied_b10 (p0 : Circuit) (s6 : (List Int) × (List Gate) × Bool × (List (Gate × Int))) (s16 : Int × (List Bool)) : Option (Circuit ⊕ ((Int × (List Bool)) ⊕ (Int × (List Bool)))) :=
  bif decide (0 ≤ s16.1) then
    Option.bind (idx s16.2 (IntKind.i64.wrap ((IntKind.i64.wrap ((IntKind.i64.wrap (1 + p0.Inputs)) + p0.Latches)) + s16.1))) fun x136 =>
    Option.bind (bif x136 then
      Option.bind (idx s6.2.1 s16.1) fun x142 =>
      Option.bind (idx s16.2 (IntKind.i64.wrap (Int.tdiv x142.A 2))) fun x146 =>
      Option.bind (setI s16.2 (IntKind.i64.wrap (Int.tdiv x142.A 2)) true) fun y26 =>
      Option.bind (idx s6.2.1 s16.1) fun x151 =>
      Option.bind (idx y26 (IntKind.i64.wrap (Int.tdiv x151.B 2))) fun x155 =>
      Option.bind (setI y26 (IntKind.i64.wrap (Int.tdiv x151.B 2)) true) fun y27 =>
      some (y27 : (List Bool))
    else
      some (s16.2 : (List Bool))) fun q19 =>
    some (.inr (.inr (((IntKind.i64.wrap (s16.1 - 1)) : Int), (q19 : (List Bool)))))
  else
    some (.inr (.inl ((s16.1 : Int), (s16.2 : (List Bool)))))
def i_tidied (p0 : Circuit) : Option (Circuit) :=
  Option.bind (i_newBuilder (⟨p0.Inputs, p0.Latches, ([] : List Int), ([] : List Gate), ([] : List Int)⟩ : Circuit)) fun x24 =>
  Option.bind (rng (IntKind.i64.wrap ((IntKind.i64.wrap (1 + p0.Inputs)) + p0.Latches))) fun _ =>
  Option.bind (cntM i_tidied_b0 (Int.toNat ((IntKind.i64.wrap ((IntKind.i64.wrap (1 + p0.Inputs)) + p0.Latches)) - 0)) 0 (([] : List Int) : (List Int))) fun q2 =>
  aft (fun r => some r) (fun s3 =>
    Option.bind (cntM (i_tidied_b2 p0 x24) p0.Gates.length 0 ((s3 : (List Int)), (x24.c.Gates : (List Gate)), (x24.full : Bool), (x24.known : (List (Gate × Int))))) fun q5 =>
    aft (fun r => some r) (fun s6 =>
      Option.bind (cntM (i_tidied_b4 p0 s6) p0.Next.length 0 (([] : List Int) : (List Int))) fun q8 =>
      aft (fun r => some r) (fun s9 =>
        Option.bind (cntM (i_tidied_b6 p0 s6) p0.Outs.length 0 (([] : List Int) : (List Int))) fun q11 =>
        aft (fun r => some r) (fun s12 =>
          Option.bind (i_signalsOf (⟨x24.c.Inputs, x24.c.Latches, s9, s6.2.1, s12⟩ : Circuit)) fun x105 =>
          Option.bind (mkS 1 x105 (false : Bool)) fun x106 =>
          Option.bind (appS 8 ([] : List Int) s9) fun x110 =>
          Option.bind (appS 8 x110 s12) fun x113 =>
          Option.bind (cntM (i_tidied_b8 x113) x113.length 0 (x106 : (List Bool))) fun q14 =>
          aft (fun r => some r) (fun s15 =>
            Option.bind (whileM (i_tidied_b10 p0 s6) (2 ^ 64) (((IntKind.i64.wrap ((s6.2.1.length : Int) - 1)) : Int), (s15 : (List Bool)))) fun q17 =>
            aft (fun r => some r) (fun s18 =>
              Option.bind (i_withoutUnused (⟨x24.c.Inputs, x24.c.Latches, s9, s6.2.1, s12⟩ : Circuit) s18.2) fun x158 =>
              some (x158 : Circuit)) q17) q14) q11) q8) q5) q2

/- loop.example/g00869/impl.TidiedCircuit -/

def i_TidiedCircuit (p0 : Circuit) : Option (Circuit) :=
  Option.bind (i_isCircuit p0) fun x4 =>
  bif (!x4) then
    some ((⟨0, 0, ([] : List Int), ([] : List Gate), ([] : List Int)⟩ : Circuit) : Circuit)
  else
    Option.bind (i_tidied p0) fun x8 =>
    some (x8 : Circuit)

/- loop.example/g00869/spec.l1In -/

def s_l1In (p0 : Int) (p1 : Int) (p2 : Int) : Option (Bool) :=
  Option.bind (bif decide (p1 ≤ p0) then
  some (decide (p0 ≤ p2))
  else
  some false) fun p14 =>
  some (p14 : Bool)

/- loop.example/g00869/spec.l31Literals -/
def s_l31Literals_b0 (p0 : (List Int)) (p1 : Int) (v5 : Int) (s1 : Unit) : Option (Bool ⊕ ((Unit) ⊕ (Unit))) :=
  Option.bind (idx p0 v5) fun x14 =>
  Option.bind (s_l1In x14 0 (IntKind.i64.wrap ((IntKind.i64.wrap (2 * p1)) - 1))) fun x19 =>
  bif (!x19) then
    some (.inl (false : Bool))
  else
    some (.inr (.inr ()))
def s_l31Literals (p0 : (List Int)) (p1 : Int) : Option (Bool) :=
  Option.bind (cntM (s_l31Literals_b0 p0 p1) p0.length 0 ()) fun q2 =>
  aft (fun r => some r) (fun s3 =>
    some (true : Bool)) q2

/- loop.example/g00869/spec.CircuitOk -/
def s_CircuitOk_b0 (p0 : Circuit) (v3 : Int) (s1 : Unit) : Option (Bool ⊕ ((Unit) ⊕ (Unit))) :=
  Option.bind (idx p0.Gates v3) fun x55 =>
  Option.bind (s_l1In x55.A 0 (IntKind.i64.wrap ((IntKind.i64.wrap (2 * (IntKind.i64.wrap ((IntKind.i64.wrap ((IntKind.i64.wrap (1 + p0.Inputs)) + p0.Latches)) + v3)))) - 1))) fun x59 =>
  Option.bind (bif (!x59) then
  some true
  else
  Option.bind (idx p0.Gates v3) fun x65 =>
  Option.bind (s_l1In x65.B 0 (IntKind.i64.wrap ((IntKind.i64.wrap (2 * (IntKind.i64.wrap ((IntKind.i64.wrap ((IntKind.i64.wrap (1 + p0.Inputs)) + p0.Latches)) + v3)))) - 1))) fun x69 =>
  some (!x69)) fun p71 =>
  bif p71 then
    some (.inl (false : Bool))
  else
    some (.inr (.inr ()))
def s_CircuitOk (p0 : Circuit) : Option (Bool) :=
  Option.bind (s_l1In p0.Inputs 0 4) fun x7 =>
  Option.bind (bif (!x7) then
  some true
  else
  Option.bind (s_l1In p0.Latches 0 6) fun x12 =>
  some (!x12)) fun p14 =>
  Option.bind (bif p14 then
  some true
  else
  some (decide (8000 < (p0.Gates.length : Int)))) fun p20 =>
  Option.bind (bif p20 then
  some true
  else
  some (decide (4 < (p0.Outs.length : Int)))) fun p26 =>
  Option.bind (bif p26 then
  some true
  else
  some ((p0.Next.length : Int) != p0.Latches)) fun p34 =>
  bif p34 then
    some (false : Bool)
  else
    Option.bind (cntM (s_CircuitOk_b0 p0) p0.Gates.length 0 ()) fun q2 =>
    aft (fun r => some r) (fun s3 =>
      Option.bind (s_l31Signals p0) fun x75 =>
      Option.bind (s_l31Literals p0.Next x75) fun x76 =>
      Option.bind (bif x76 then
      Option.bind (s_l31Signals p0) fun x81 =>
      Option.bind (s_l31Literals p0.Outs x81) fun x82 =>
      some x82
      else
      some false) fun p83 =>
      some (p83 : Bool)) q2

/- loop.example/g00869/impl.DepthOf -/
def i_DepthOf_b0 (p0 : Circuit) (x17 : Int) (v25 : Int) (s1 : (List Int)) : Option (Int ⊕ (((List Int)) ⊕ ((List Int)))) :=
  Option.bind (idx p0.Gates v25) fun x28 =>
  Option.bind (idx s1 (IntKind.i64.wrap (Int.tdiv x28.A 2))) fun x38 =>
  Option.bind (idx s1 (IntKind.i64.wrap (Int.tdiv x28.B 2))) fun x44 =>
  Option.bind (idx s1 (IntKind.i64.wrap ((IntKind.i64.wrap (x17 - (p0.Gates.length : Int))) + v25))) fun x48 =>
  Option.bind (setI s1 (IntKind.i64.wrap ((IntKind.i64.wrap (x17 - (p0.Gates.length : Int))) + v25)) (IntKind.i64.wrap (1 + (if x38 < x44 then x44 else x38)))) fun y35 =>
  some (.inr (.inr (y35 : (List Int))))
def i_DepthOf_b2 (s3 : (List Int)) (x56 : (List Int)) (v58 : Int) (s4 : Int) : Option (Int ⊕ ((Int) ⊕ (Int))) :=
  Option.bind (idx x56 v58) fun x60 =>
  Option.bind (idx s3 (IntKind.i64.wrap (Int.tdiv x60 2))) fun x66 =>
  some (.inr (.inr ((if s4 < x66 then x66 else s4) : Int)))
def i_DepthOf (p0 : Circuit) : Option (Int) :=
  Option.bind (i_isCircuit p0) fun x11 =>
  bif (!x11) then
    some ((-1) : Int)
  else
    Option.bind (i_signalsOf p0) fun x14 =>
    Option.bind (mkS 8 x14 (0 : Int)) fun x15 =>
    Option.bind (i_signalsOf p0) fun x17 =>
    Option.bind (cntM (i_DepthOf_b0 p0 x17) p0.Gates.length 0 (x15 : (List Int))) fun q2 =>
    aft (fun r => some r) (fun s3 =>
      Option.bind (appS 8 ([] : List Int) p0.Next) fun x53 =>
      Option.bind (appS 8 x53 p0.Outs) fun x56 =>
      Option.bind (cntM (i_DepthOf_b2 s3 x56) x56.length 0 (0 : Int)) fun q5 =>
      aft (fun r => some r) (fun s6 =>
        some (s6 : Int)) q5) q2

/- loop.example/g00869/spec.l1Max -/

def s_l1Max (p0 : Int) (p1 : Int) : Option (Int) :=
  bif decide (p1 < p0) then
    some (p0 : Int)
  else
    some (p1 : Int)

/- loop.example/g00869/spec.DepthOf -/
def s_DepthOf_b0 (p0 : Circuit) (v4 : Int) (s1 : (List Int)) : Option (Int ⊕ (((List Int)) ⊕ ((List Int)))) :=
  Option.bind (idx p0.Gates v4) fun x30 =>
  Option.bind (idx s1 (IntKind.i64.wrap (Int.tdiv x30.A 2))) fun x34 =>
  Option.bind (idx p0.Gates v4) fun x40 =>
  Option.bind (idx s1 (IntKind.i64.wrap (Int.tdiv x40.B 2))) fun x44 =>
  Option.bind (s_l1Max x34 x44) fun x46 =>
  Option.bind (appS 8 s1 ([(IntKind.i64.wrap (1 + x46))] : List Int)) fun x49 =>
  some (.inr (.inr (x49 : (List Int))))
def s_DepthOf_b2 (p0 : Circuit) (s3 : (List Int)) (v6 : Int) (s4 : Int) : Option (Int ⊕ ((Int) ⊕ (Int))) :=
  Option.bind (idx p0.Next v6) fun x62 =>
  Option.bind (idx s3 (IntKind.i64.wrap (Int.tdiv x62 2))) fun x65 =>
  Option.bind (s_l1Max s4 x65) fun x67 =>
  some (.inr (.inr (x67 : Int)))
def s_DepthOf_b4 (p0 : Circuit) (s3 : (List Int)) (v7 : Int) (s7 : Int) : Option (Int ⊕ ((Int) ⊕ (Int))) :=
  Option.bind (idx p0.Outs v7) fun x80 =>
  Option.bind (idx s3 (IntKind.i64.wrap (Int.tdiv x80 2))) fun x83 =>
  Option.bind (s_l1Max s7 x83) fun x85 =>
  some (.inr (.inr (x85 : Int)))
def s_DepthOf (p0 : Circuit) : Option (Int) :=
  Option.bind (s_CircuitOk p0) fun x9 =>
  bif (!x9) then
    some ((-1) : Int)
  else
    Option.bind (mkS 8 (IntKind.i64.wrap ((IntKind.i64.wrap (1 + p0.Inputs)) + p0.Latches)) (0 : Int)) fun x17 =>
    Option.bind (cntM (s_DepthOf_b0 p0) p0.Gates.length 0 (x17 : (List Int))) fun q2 =>
    aft (fun r => some r) (fun s3 =>
      Option.bind (cntM (s_DepthOf_b2 p0 s3) p0.Next.length 0 (0 : Int)) fun q5 =>
      aft (fun r => some r) (fun s6 =>
        Option.bind (cntM (s_DepthOf_b4 p0 s3) p0.Outs.length 0 (s6 : Int)) fun q8 =>
        aft (fun r => some r) (fun s9 =>
          some (s9 : Int)) q8) q5) q2

/- loop.example/g00869/impl.stepOf$1 -/

def i_stepOf_1 (p0 : Int) (c0 : (List Int)) : Option (Int) :=
  Option.bind (idx c0 (IntKind.i64.wrap (Int.tdiv p0 2))) fun x7 =>
  some ((IntKind.i64.wrap (BitVec.toNat (BitVec.ofInt (IntKind.bits IntKind.i64) x7 ^^^ BitVec.ofInt (IntKind.bits IntKind.i64) (IntKind.i64.wrap (BitVec.toNat (BitVec.ofInt (IntKind.bits IntKind.i64) p0 &&& BitVec.ofInt (IntKind.bits IntKind.i64) 1)))))) : Int)

/- loop.example/g00869/impl.stepOf -/
def i_stepOf_b0 (p2 : Int) (v25 : Int) (s1 : (List Int)) : Option ((Int × Int) ⊕ (((List Int)) ⊕ ((List Int)))) :=
  Option.bind (nn v25) fun _z31 =>
  Option.bind (appS 8 s1 ([(IntKind.i64.wrap (BitVec.toNat (BitVec.ofInt (IntKind.bits IntKind.i64) (Int.fdiv p2 (2 ^ (min (Int.toNat v25) (IntKind.bits IntKind.i64)))) &&& BitVec.ofInt (IntKind.bits IntKind.i64) 1)))] : List Int)) fun x34 =>
  some (.inr (.inr (x34 : (List Int))))
def i_stepOf_b2 (p1 : Int) (v38 : Int) (s4 : (List Int)) : Option ((Int × Int) ⊕ (((List Int)) ⊕ ((List Int)))) :=
  Option.bind (nn v38) fun _z44 =>
  Option.bind (appS 8 s4 ([(IntKind.i64.wrap (BitVec.toNat (BitVec.ofInt (IntKind.bits IntKind.i64) (Int.fdiv p1 (2 ^ (min (Int.toNat v38) (IntKind.bits IntKind.i64)))) &&& BitVec.ofInt (IntKind.bits IntKind.i64) 1)))] : List Int)) fun x47 =>
  some (.inr (.inr (x47 : (List Int))))
def i_stepOf_b4 (p0 : Circuit) (v53 : Int) (s7 : (List Int)) : Option ((Int × Int) ⊕ (((List Int)) ⊕ ((List Int)))) :=
  Option.bind (idx p0.Gates v53) fun x55 =>
  Option.bind (i_stepOf_1 x55.A s7) fun x61 =>
  Option.bind (i_stepOf_1 x55.B s7) fun x65 =>
  Option.bind (appS 8 s7 ([(IntKind.i64.wrap (BitVec.toNat (BitVec.ofInt (IntKind.bits IntKind.i64) x61 &&& BitVec.ofInt (IntKind.bits IntKind.i64) x65)))] : List Int)) fun x68 =>
  some (.inr (.inr (x68 : (List Int))))
def i_stepOf_b6 (p0 : Circuit) (s9 : (List Int)) (v73 : Int) (s10 : Int) : Option ((Int × Int) ⊕ ((Int) ⊕ (Int))) :=
  Option.bind (idx p0.Next v73) fun x76 =>
  Option.bind (i_stepOf_1 x76 s9) fun x81 =>
  Option.bind (nn v73) fun _z83 =>
  some (.inr (.inr ((IntKind.i64.wrap (BitVec.toNat (BitVec.ofInt (IntKind.bits IntKind.i64) s10 ||| BitVec.ofInt (IntKind.bits IntKind.i64) (IntKind.i64.wrap (x81 * 2 ^ (min (Int.toNat v73) (IntKind.bits IntKind.i64))))))) : Int)))
def i_stepOf_b8 (p0 : Circuit) (s9 : (List Int)) (v89 : Int) (s13 : Int) : Option ((Int × Int) ⊕ ((Int) ⊕ (Int))) :=
  Option.bind (idx p0.Outs v89) fun x92 =>
  Option.bind (i_stepOf_1 x92 s9) fun x97 =>
  Option.bind (nn v89) fun _z99 =>
  some (.inr (.inr ((IntKind.i64.wrap (BitVec.toNat (BitVec.ofInt (IntKind.bits IntKind.i64) s13 ||| BitVec.ofInt (IntKind.bits IntKind.i64) (IntKind.i64.wrap (x97 * 2 ^ (min (Int.toNat v89) (IntKind.bits IntKind.i64))))))) : Int)))
def i_stepOf (p0 : Circuit) (p1 : Int) (p2 : Int) : Option (Int × Int) :=
  Option.bind (i_signalsOf p0) fun x21 =>
  Option.bind (mkC 8 1 x21 (0 : Int)) fun x22 =>
  Option.bind (rng p0.Inputs) fun _ =>
  Option.bind (cntM (i_stepOf_b0 p2) (Int.toNat (p0.Inputs - 0)) 0 (x22 : (List Int))) fun q2 =>
  aft (fun r => some r) (fun s3 =>
    Option.bind (rng p0.Latches) fun _ =>
    Option.bind (cntM (i_stepOf_b2 p1) (Int.toNat (p0.Latches - 0)) 0 (s3 : (List Int))) fun q5 =>
    aft (fun r => some r) (fun s6 =>
      Option.bind (cntM (i_stepOf_b4 p0) p0.Gates.length 0 (s6 : (List Int))) fun q8 =>
      aft (fun r => some r) (fun s9 =>
        Option.bind (cntM (i_stepOf_b6 p0 s9) p0.Next.length 0 (0 : Int)) fun q11 =>
        aft (fun r => some r) (fun s12 =>
          Option.bind (cntM (i_stepOf_b8 p0 s9) p0.Outs.length 0 (0 : Int)) fun q14 =>
          aft (fun r => some r) (fun s15 =>
            some ((s12 : Int), (s15 : Int))) q14) q11) q8) q5) q2

/- loop.example/g00869/impl.StepOf -/

def i_StepOf (p0 : Circuit) (p1 : Int) (p2 : Int) : Option (Int × Int) :=
  Option.bind (i_isCircuit p0) fun x11 =>
  Option.bind (bif (!x11) then
  some true
  else
  some (decide (p1 < 0))) fun p16 =>
  Option.bind (bif p16 then
  some true
  else
  Option.bind (nn p0.Latches) fun _z21 =>
  some (decide ((IntKind.i64.wrap (1 * 2 ^ (min (Int.toNat p0.Latches) (IntKind.bits IntKind.i64)))) ≤ p1))) fun p23 =>
  Option.bind (bif p23 then
  some true
  else
  some (decide (p2 < 0))) fun p27 =>
  Option.bind (bif p27 then
  some true
  else
  Option.bind (nn p0.Inputs) fun _z32 =>
  some (decide ((IntKind.i64.wrap (1 * 2 ^ (min (Int.toNat p0.Inputs) (IntKind.bits IntKind.i64)))) ≤ p2))) fun p34 =>
  bif p34 then
    some (((-1) : Int), ((-1) : Int))
  else
    Option.bind (i_stepOf p0 p1 p2) fun x39 =>
    some ((x39.1 : Int), (x39.2 : Int))

/- loop.example/g00869/spec.l31Pow -/

def s_l31Pow (p0 : Int) : Option (Int) :=
  Option.bind (nn (IntKind.u64.wrap p0)) fun _z5 =>
  some ((IntKind.i64.wrap (1 * 2 ^ (min (Int.toNat (IntKind.u64.wrap p0)) (IntKind.bits IntKind.i64)))) : Int)

/- loop.example/g00869/spec.l31True -/

def s_l31True (p0 : (List Bool)) (p1 : Int) : Option (Bool) :=
  Option.bind (idx p0 (IntKind.i64.wrap (Int.tdiv p1 2))) fun x8 =>
  some ((x8 != ((Int.tmod p1 2) == 1)) : Bool)

/- loop.example/g00869/spec.l31Number -/
def s_l31Number_b0 (p0 : (List Bool)) (p1 : (List Int)) (v6 : Int) (s1 : Int) : Option (Int ⊕ ((Int) ⊕ (Int))) :=
  Option.bind (idx p1 v6) fun x16 =>
  Option.bind (s_l31True p0 x16) fun x18 =>
  Option.bind (bif x18 then
    Option.bind (s_l31Pow v6) fun x21 =>
    some ((IntKind.i64.wrap (s1 + x21)) : Int)
  else
    some (s1 : Int)) fun q4 =>
  some (.inr (.inr (q4 : Int)))
def s_l31Number (p0 : (List Bool)) (p1 : (List Int)) : Option (Int) :=
  Option.bind (cntM (s_l31Number_b0 p0 p1) p1.length 0 (0 : Int)) fun q2 =>
  aft (fun r => some r) (fun s3 =>
    some (s3 : Int)) q2

/- loop.example/g00869/spec.l31Step -/
def s_l31Step_b0 (p2 : Int) (v9 : Int) (s1 : (List Bool)) : Option ((Int × Int) ⊕ (((List Bool)) ⊕ ((List Bool)))) :=
  Option.bind (s_l31Pow v9) fun x22 =>
  Option.bind (nz x22) fun _z23 =>
  Option.bind (appS 1 s1 ([((Int.tmod (IntKind.i64.wrap (Int.tdiv p2 x22)) 2) == 1)] : List Bool)) fun x27 =>
  some (.inr (.inr (x27 : (List Bool))))
def s_l31Step_b2 (p1 : Int) (v10 : Int) (s4 : (List Bool)) : Option ((Int × Int) ⊕ (((List Bool)) ⊕ ((List Bool)))) :=
  Option.bind (s_l31Pow v10) fun x37 =>
  Option.bind (nz x37) fun _z38 =>
  Option.bind (appS 1 s4 ([((Int.tmod (IntKind.i64.wrap (Int.tdiv p1 x37)) 2) == 1)] : List Bool)) fun x42 =>
  some (.inr (.inr (x42 : (List Bool))))
def s_l31Step_b4 (p0 : Circuit) (v11 : Int) (s7 : (List Bool)) : Option ((Int × Int) ⊕ (((List Bool)) ⊕ ((List Bool)))) :=
  Option.bind (idx p0.Gates v11) fun x55 =>
  Option.bind (s_l31True s7 x55.A) fun x58 =>
  Option.bind (bif x58 then
  Option.bind (idx p0.Gates v11) fun x64 =>
  Option.bind (s_l31True s7 x64.B) fun x67 =>
  some x67
  else
  some false) fun p68 =>
  Option.bind (appS 1 s7 ([p68] : List Bool)) fun x70 =>
  some (.inr (.inr (x70 : (List Bool))))
def s_l31Step (p0 : Circuit) (p1 : Int) (p2 : Int) : Option (Int × Int) :=
  Option.bind (rng p0.Inputs) fun _ =>
  Option.bind (cntM (s_l31Step_b0 p2) (Int.toNat (p0.Inputs - 0)) 0 (([false] : List Bool) : (List Bool))) fun q2 =>
  aft (fun r => some r) (fun s3 =>
    Option.bind (rng p0.Latches) fun _ =>
    Option.bind (cntM (s_l31Step_b2 p1) (Int.toNat (p0.Latches - 0)) 0 (s3 : (List Bool))) fun q5 =>
    aft (fun r => some r) (fun s6 =>
      Option.bind (cntM (s_l31Step_b4 p0) p0.Gates.length 0 (s6 : (List Bool))) fun q8 =>
      aft (fun r => some r) (fun s9 =>
        Option.bind (s_l31Number s9 p0.Next) fun x74 =>
        Option.bind (s_l31Number s9 p0.Outs) fun x78 =>
        some ((x74 : Int), (x78 : Int))) q8) q5) q2

/- loop.example/g00869/spec.StepOf -/

def s_StepOf (p0 : Circuit) (p1 : Int) (p2 : Int) : Option (Int × Int) :=
  Option.bind (s_CircuitOk p0) fun x9 =>
  Option.bind (bif (!x9) then
  some true
  else
  Option.bind (s_l31Pow p0.Latches) fun x15 =>
  Option.bind (s_l1In p1 0 (IntKind.i64.wrap (x15 - 1))) fun x17 =>
  some (!x17)) fun p19 =>
  Option.bind (bif p19 then
  some true
  else
  Option.bind (s_l31Pow p0.Inputs) fun x24 =>
  Option.bind (s_l1In p2 0 (IntKind.i64.wrap (x24 - 1))) fun x26 =>
  some (!x26)) fun p28 =>
  bif p28 then
    some (((-1) : Int), ((-1) : Int))
  else
    Option.bind (s_l31Step p0 p1 p2) fun x32 =>
    some ((x32.1 : Int), (x32.2 : Int))

/- loop.example/g00869/laws.likeInts -/
def l_likeInts_b0 (p0 : (List Int)) (p1 : (List Int)) (v5 : Int) (s1 : Unit) : Option (Bool ⊕ ((Unit) ⊕ (Unit))) :=
  Option.bind (idx p0 v5) fun x19 =>
  Option.bind (idx p1 v5) fun x23 =>
  bif (x19 != x23) then
    some (.inl (false : Bool))
  else
    some (.inr (.inr ()))
def l_likeInts (p0 : (List Int)) (p1 : (List Int)) : Option (Bool) :=
  bif ((p0.length : Int) != (p1.length : Int)) then
    some (false : Bool)
  else
    Option.bind (cntM (l_likeInts_b0 p0 p1) p0.length 0 ()) fun q2 =>
    aft (fun r => some r) (fun s3 =>
      some (true : Bool)) q2

/- loop.example/g00869/laws.FnTidied -/
def l_FnTidied_b2 (x18 : Circuit) (v5 : Int) (v6 : Int) (s4 : Unit) : Option (Bool ⊕ ((Unit) ⊕ (Unit))) :=
  Option.bind (idx x18.Gates v6) fun x82 =>
  Option.bind (idx x18.Gates v5) fun x87 =>
  bif ((x82.A == x87.A) && (x82.B == x87.B)) then
    some (.inl (false : Bool))
  else
    some (.inr (.inr ()))
def l_FnTidied_b0 (x18 : Circuit) (v5 : Int) (s1 : Unit) : Option (Bool ⊕ ((Unit) ⊕ (Unit))) :=
  Option.bind (rng v5) fun _ =>
  Option.bind (cntM (l_FnTidied_b2 x18 v5) (Int.toNat (v5 - 0)) 0 ()) fun q5 =>
  aft (fun r => some (.inl r)) (fun s6 =>
    some (.inr (.inr ()))) q5
def l_FnTidied_b4 (x16 : Circuit) (x18 : Circuit) (v7 : Int) (s7 : Unit) : Option (Bool ⊕ ((Unit) ⊕ (Unit))) :=
  Option.bind (i_StepOf x18 v7 (Int.tmod v7 2)) fun x99 =>
  Option.bind (s_StepOf x16 v7 (Int.tmod v7 2)) fun x107 =>
  Option.bind (bif (x99.1 != x107.1) then
  some true
  else
  some (x99.2 != x107.2)) fun p117 =>
  bif p117 then
    some (.inl (false : Bool))
  else
    some (.inr (.inr ()))
def l_FnTidied (p0 : (List Int)) : Option (Bool) :=
  Option.bind (l_big p0) fun x14 =>
  bif x14 then
    some (true : Bool)
  else
    Option.bind (s_DrawTidiedCircuit p0) fun x16 =>
    Option.bind (i_TidiedCircuit x16) fun x18 =>
    Option.bind (s_CircuitOk x16) fun x20 =>
    bif (!x20) then
      Option.bind (bif ((x18.Gates.length : Int) == 0) then
      some ((x18.Outs.length : Int) == 0)
      else
      some false) fun p31 =>
      some (p31 : Bool)
    else
      Option.bind (s_CircuitOk x18) fun x33 =>
      Option.bind (bif (!x33) then
      some true
      else
      some (decide ((x16.Gates.length : Int) < (x18.Gates.length : Int)))) fun p43 =>
      Option.bind (bif p43 then
      some true
      else
      some ((x18.Outs.length : Int) != (x16.Outs.length : Int))) fun p52 =>
      Option.bind (bif p52 then
      some true
      else
      some (x18.Latches != x16.Latches)) fun p59 =>
      Option.bind (bif p59 then
      some true
      else
      Option.bind (i_DepthOf x18) fun x62 =>
      Option.bind (s_DepthOf x16) fun x64 =>
      some (decide (x64 < x62))) fun p66 =>
      bif p66 then
        some (false : Bool)
      else
        Option.bind (cntM (l_FnTidied_b0 x18) x18.Gates.length 0 ()) fun q2 =>
        aft (fun r => some r) (fun s3 =>
          Option.bind (cntM (l_FnTidied_b4 x16 x18) (Int.toNat (8 - 0)) 0 ()) fun q8 =>
          aft (fun r => some r) (fun s9 =>
            Option.bind (i_TidiedCircuit x18) fun x119 =>
            Option.bind (bif ((x119.Gates.length : Int) == (x18.Gates.length : Int)) then
            Option.bind (l_likeInts x119.Outs x18.Outs) fun x132 =>
            some x132
            else
            some false) fun p133 =>
            Option.bind (bif p133 then
            Option.bind (l_likeInts x119.Next x18.Next) fun x139 =>
            some x139
            else
            some false) fun p140 =>
            some (p140 : Bool)) q8) q2

/- loop.example/g00869/spec.l31DrawLiteral -/

def s_l31DrawLiteral (p0 : l1Cur) (p1 : Circuit) : Option (Int × Int × Int) :=
  Option.bind (s_l1Once p0 12) fun x6 =>
  bif x6.1 then
    Option.bind (s_l1Num (⟨p0.b, x6.2.1, x6.2.2⟩ : l1Cur) 40) fun x8 =>
    some ((x8.1 : Int), (x8.2.1 : Int), (x8.2.2 : Int))
  else
    Option.bind (s_CircuitOk p1) fun x10 =>
    bif (!x10) then
      Option.bind (s_l1Below (⟨p0.b, x6.2.1, x6.2.2⟩ : l1Cur) 4) fun x13 =>
      some ((x13.1 : Int), (x13.2.1 : Int), (x13.2.2 : Int))
    else
      Option.bind (s_l31Signals p1) fun x16 =>
      Option.bind (s_l1Below (⟨p0.b, x6.2.1, x6.2.2⟩ : l1Cur) (IntKind.i64.wrap (2 * x16))) fun x18 =>
      some ((x18.1 : Int), (x18.2.1 : Int), (x18.2.2 : Int))

/- loop.example/g00869/spec.DrawChosenBy -/

def s_DrawChosenBy (p0 : (List Int)) : Option (Circuit × Int × Int × Int) :=
  Option.bind (s_l1New p0) fun x11 =>
  Option.bind (s_l31DrawAny x11) fun x13 =>
  Option.bind (s_l31DrawLiteral (⟨x11.b, x13.2.1, x13.2.2⟩ : l1Cur) x13.1) fun x16 =>
  Option.bind (s_l31DrawLiteral (⟨x11.b, x16.2.1, x16.2.2⟩ : l1Cur) x13.1) fun x19 =>
  Option.bind (s_l31DrawLiteral (⟨x11.b, x19.2.1, x19.2.2⟩ : l1Cur) x13.1) fun x23 =>
  some ((x13.1 : Circuit), (x23.1 : Int), (x16.1 : Int), (x19.1 : Int))

/- loop.example/g00869/spec.l31Turn -/

def s_l31Turn (p0 : Int) : Option (Int) :=
  bif ((Int.tmod p0 2) == 1) then
    some ((IntKind.i64.wrap (p0 - 1)) : Int)
  else
    some ((IntKind.i64.wrap (p0 + 1)) : Int)

/- loop.example/g00869/spec.l31Join -/
def s_l31Join_b1 (p0 : Circuit) (x41 : Int) (x44 : Int) (v9 : Int) (s1 : Unit) : Option ((Circuit × Int) ⊕ ((Unit) ⊕ (Unit))) :=
  Option.bind (idx p0.Gates v9) fun x56 =>
  Option.bind (bif ((x56.A == x41) && (x56.B == x44)) then
  some true
  else
  Option.bind (idx p0.Gates v9) fun x64 =>
  Option.bind (bif (x64.A == x44) then
  Option.bind (idx p0.Gates v9) fun x74 =>
  some (x74.B == x41)
  else
  some false) fun p80 =>
  some p80) fun p81 =>
  bif p81 then
    some (.inl ((p0 : Circuit), ((IntKind.i64.wrap (2 * (IntKind.i64.wrap ((IntKind.i64.wrap ((IntKind.i64.wrap (1 + p0.Inputs)) + p0.Latches)) + v9)))) : Int)))
  else
    some (.inr (.inr ()))
def s_l31Join (p0 : Circuit) (p1 : Int) (p2 : Int) : Option (Circuit × Int) :=
  Option.bind (bif (p1 == 0) then
  some true
  else
  some (p2 == 0)) fun p16 =>
  Option.bind (bif p16 then
  some true
  else
  Option.bind (s_l31Turn p2) fun x20 =>
  some (p1 == x20)) fun p22 =>
  bif p22 then
    some ((p0 : Circuit), (0 : Int))
  else
    bif (p1 == 1) then
      some ((p0 : Circuit), (p2 : Int))
    else
      Option.bind (bif (p2 == 1) then
      some true
      else
      some (p1 == p2)) fun p36 =>
      bif p36 then
        some ((p0 : Circuit), (p1 : Int))
      else
        Option.bind (s_l1Min p1 p2) fun x41 =>
        Option.bind (s_l1Max p1 p2) fun x44 =>
        Option.bind (cntM (s_l31Join_b1 p0 x41 x44) p0.Gates.length 0 ()) fun q2 =>
        aft (fun r => some r) (fun s3 =>
          bif decide (8000 ≤ (p0.Gates.length : Int)) then
            some (((⟨0, 0, ([] : List Int), ([] : List Gate), ([] : List Int)⟩ : Circuit) : Circuit), ((-1) : Int))
          else
            Option.bind (appS 16 p0.Gates ([(⟨x41, x44⟩ : Gate)] : List Gate)) fun x101 =>
            Option.bind (s_l31Signals (⟨p0.Inputs, p0.Latches, p0.Next, x101, p0.Outs⟩ : Circuit)) fun x105 =>
            some (((⟨p0.Inputs, p0.Latches, p0.Next, x101, p0.Outs⟩ : Circuit) : Circuit), ((IntKind.i64.wrap (2 * (IntKind.i64.wrap (x105 - 1)))) : Int))) q2

/- loop.example/g00869/spec.l31Choose -/

def s_l31Choose (p0 : Circuit) (p1 : Int) (p2 : Int) (p3 : Int) : Option (Circuit × Int) :=
  bif (p2 == p3) then
    some ((p0 : Circuit), (p2 : Int))
  else
    Option.bind (s_l31Join p0 p1 p2) fun x22 =>
    bif decide (x22.2 < 0) then
      some (((⟨0, 0, ([] : List Int), ([] : List Gate), ([] : List Int)⟩ : Circuit) : Circuit), ((-1) : Int))
    else
      Option.bind (s_l31Turn p1) fun x31 =>
      Option.bind (s_l31Join x22.1 x31 p3) fun x33 =>
      bif decide (x33.2 < 0) then
        some (((⟨0, 0, ([] : List Int), ([] : List Gate), ([] : List Int)⟩ : Circuit) : Circuit), ((-1) : Int))
      else
        Option.bind (s_l31Turn x22.2) fun x42 =>
        Option.bind (s_l31Turn x33.2) fun x44 =>
        Option.bind (s_l31Join x33.1 x42 x44) fun x45 =>
        bif decide (x45.2 < 0) then
          some (((⟨0, 0, ([] : List Int), ([] : List Gate), ([] : List Int)⟩ : Circuit) : Circuit), ((-1) : Int))
        else
          Option.bind (s_l31Turn x45.2) fun x53 =>
          some ((x45.1 : Circuit), (x53 : Int))

/- loop.example/g00869/impl.isSig -/

def i_isSig (p0 : Sig) : Option (Bool) :=
  Option.bind (bif decide (1 ≤ p0.In) then
  some (decide (p0.In ≤ 2))
  else
  some false) fun p10 =>
  Option.bind (bif p10 then
  some (decide (1 ≤ p0.Out))
  else
  some false) fun p15 =>
  Option.bind (bif p15 then
  some (decide (p0.Out ≤ 2))
  else
  some false) fun p20 =>
  some (p20 : Bool)

/- loop.example/g00869/spec.SigOk -/

def s_SigOk (p0 : Sig) : Option (Bool) :=
  Option.bind (s_l1In p0.In 1 2) fun x5 =>
  Option.bind (bif x5 then
  Option.bind (s_l1In p0.Out 1 2) fun x9 =>
  some x9
  else
  some false) fun p10 =>
  some (p10 : Bool)

/- loop.example/g00869/spec.l23Below -/
def s_l23Below_b0 (p0 : (List Int)) (p1 : Int) (v5 : Int) (s1 : Unit) : Option (Bool ⊕ ((Unit) ⊕ (Unit))) :=
  Option.bind (idx p0 v5) fun x14 =>
  Option.bind (s_l1In x14 0 (IntKind.i64.wrap (p1 - 1))) fun x18 =>
  bif (!x18) then
    some (.inl (false : Bool))
  else
    some (.inr (.inr ()))
def s_l23Below (p0 : (List Int)) (p1 : Int) : Option (Bool) :=
  Option.bind (cntM (s_l23Below_b0 p0 p1) p0.length 0 ()) fun q2 =>
  aft (fun r => some r) (fun s3 =>
    some (true : Bool)) q2

/- loop.example/g00869/spec.l23Power -/
def s_l23Power_b0  (s1 : Int × Int) : Option (Int ⊕ ((Int × Int) ⊕ (Int × Int))) :=
  bif decide (0 < s1.1) then
    some (.inr (.inr (((IntKind.i64.wrap (s1.1 - 1)) : Int), ((IntKind.i64.wrap (s1.2 * 2)) : Int))))
  else
    some (.inr (.inl ((s1.1 : Int), (s1.2 : Int))))
def s_l23Power (p0 : Int) : Option (Int) :=
  Option.bind (whileM s_l23Power_b0 (2 ^ 64) ((p0 : Int), (1 : Int))) fun q2 =>
  aft (fun r => some r) (fun s3 =>
    some (s3.2 : Int)) q2

end Go.Proofs.Ythjkonkcdfdfaaa
