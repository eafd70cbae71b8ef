/- The functions on data. By program. -/
import Derived.Test.YthjkonkcdfdfaaaTypes
set_option linter.unusedVariables false
set_option linter.unusedSimpArgs false
namespace Go.Proofs.Ythjkonkcdfdfaaa
open Go Go.Wk Go.Proofs
set_option maxRecDepth 100000
set_option maxHeartbeats 1000000

/- loop.example/g00869/laws.big -/

def l_big (p0 : (List Int)) : Option (Bool) :=
  some (decide (4096 < (p0.length : Int)) : Bool)

/- loop.example/g00869/spec.l1New -/
def s_l1New_b0 (p0 : (List Int)) (v4 : Int) (s1 : Int) : Option (l1Cur ⊕ ((Int) ⊕ (Int))) :=
  Option.bind (idx p0 v4) fun x18 =>
  some (.inr (.inr ((IntKind.i64.wrap (BitVec.toNat (BitVec.ofInt (IntKind.bits IntKind.i64) (IntKind.i64.wrap ((IntKind.i64.wrap ((IntKind.i64.wrap (s1 * 313)) + (IntKind.i64.wrap x18))) + 11)) &&& BitVec.ofInt (IntKind.bits IntKind.i64) 1073741823))) : Int)))
def s_l1New (p0 : (List Int)) : Option (l1Cur) :=
  Option.bind (cntM (s_l1New_b0 p0) p0.length 0 ((IntKind.i64.wrap (560017 + (p0.length : Int))) : Int)) fun q2 =>
  aft (fun r => some r) (fun s3 =>
    some ((⟨p0, 0, s3⟩ : l1Cur) : l1Cur)) q2

/- loop.example/g00869/spec.l1Byte -/

def s_l1Byte (p0 : l1Cur) : Option (Int × Int × Int) :=
  Option.bind (bif decide (p0.i < (p0.b.length : Int)) then
    Option.bind (idx p0.b p0.i) fun x44 =>
    some (((IntKind.i64.wrap (BitVec.toNat (BitVec.ofInt (IntKind.bits IntKind.i64) (IntKind.i64.wrap ((IntKind.i64.wrap (BitVec.toNat (BitVec.ofInt (IntKind.bits IntKind.i64) (IntKind.i64.wrap (BitVec.toNat (BitVec.ofInt (IntKind.bits IntKind.i64) (Int.fdiv (IntKind.i64.wrap ((IntKind.i64.wrap (p0.h * 6364136223846793005)) + 1442695040888963407)) (2 ^ (min (Int.toNat 33) (IntKind.bits IntKind.i64)))) ^^^ BitVec.ofInt (IntKind.bits IntKind.i64) (Int.fdiv (IntKind.i64.wrap ((IntKind.i64.wrap (p0.h * 6364136223846793005)) + 1442695040888963407)) (2 ^ (min (Int.toNat 45) (IntKind.bits IntKind.i64))))))) &&& BitVec.ofInt (IntKind.bits IntKind.i64) 255))) + (IntKind.i64.wrap x44))) &&& BitVec.ofInt (IntKind.bits IntKind.i64) 255))) : Int), ((IntKind.i64.wrap (p0.i + 1)) : Int))
  else
    some (((IntKind.i64.wrap (BitVec.toNat (BitVec.ofInt (IntKind.bits IntKind.i64) (IntKind.i64.wrap (BitVec.toNat (BitVec.ofInt (IntKind.bits IntKind.i64) (Int.fdiv (IntKind.i64.wrap ((IntKind.i64.wrap (p0.h * 6364136223846793005)) + 1442695040888963407)) (2 ^ (min (Int.toNat 33) (IntKind.bits IntKind.i64)))) ^^^ BitVec.ofInt (IntKind.bits IntKind.i64) (Int.fdiv (IntKind.i64.wrap ((IntKind.i64.wrap (p0.h * 6364136223846793005)) + 1442695040888963407)) (2 ^ (min (Int.toNat 45) (IntKind.bits IntKind.i64))))))) &&& BitVec.ofInt (IntKind.bits IntKind.i64) 255))) : Int), (p0.i : Int))) fun q1 =>
  some ((q1.1 : Int), (q1.2 : Int), ((IntKind.i64.wrap ((IntKind.i64.wrap (p0.h * 6364136223846793005)) + 1442695040888963407)) : Int))

/- loop.example/g00869/spec.l1Below -/

def s_l1Below (p0 : l1Cur) (p1 : Int) : Option (Int × Int × Int) :=
  bif decide (p1 ≤ 0) then
    some ((0 : Int), (p0.i : Int), (p0.h : Int))
  else
    bif decide (p1 ≤ 256) then
      Option.bind (s_l1Byte p0) fun x14 =>
      Option.bind (nz p1) fun _z16 =>
      some (((Int.tmod x14.1 p1) : Int), (x14.2.1 : Int), (x14.2.2 : Int))
    else
      Option.bind (s_l1Byte p0) fun x18 =>
      Option.bind (s_l1Byte (⟨p0.b, x18.2.1, x18.2.2⟩ : l1Cur)) fun x20 =>
      Option.bind (s_l1Byte (⟨p0.b, x20.2.1, x20.2.2⟩ : l1Cur)) fun x22 =>
      Option.bind (s_l1Byte (⟨p0.b, x22.2.1, x22.2.2⟩ : l1Cur)) fun x24 =>
      Option.bind (nz p1) fun _z36 =>
      some (((Int.tmod (IntKind.i64.wrap ((IntKind.i64.wrap ((IntKind.i64.wrap ((IntKind.i64.wrap (x18.1 * 16777216)) + (IntKind.i64.wrap (x20.1 * 65536)))) + (IntKind.i64.wrap (x22.1 * 256)))) + x24.1)) p1) : Int), (x24.2.1 : Int), (x24.2.2 : Int))

/- loop.example/g00869/spec.l31DrawSig -/

def s_l31DrawSig (p0 : l1Cur) : Option (Sig × Int × Int) :=
  Option.bind (s_l1Below p0 2) fun x4 =>
  Option.bind (s_l1Below (⟨p0.b, x4.2.1, x4.2.2⟩ : l1Cur) 2) fun x7 =>
  some (((⟨(IntKind.i64.wrap (1 + x4.1)), (IntKind.i64.wrap (1 + x7.1))⟩ : Sig) : Sig), (x7.2.1 : Int), (x7.2.2 : Int))

/- loop.example/g00869/spec.l31Pow -/

def s_l31Pow (p0 : Int) : Option (Int) :=
  Option.bind (nn (IntKind.u64.wrap p0)) fun _z5 =>
  some ((IntKind.i64.wrap (1 * 2 ^ (min (Int.toNat (IntKind.u64.wrap p0)) (IntKind.bits IntKind.i64)))) : Int)

/- loop.example/g00869/spec.l31DrawMachine -/
def s_l31DrawMachine_b2 (p0 : l1Cur) (p1 : Sig) (x13 : Int × Int × Int) (s4 : (List Int) × (List Int) × Int × Int × Int) : Option ((Machine × Int × Int) ⊕ (((List Int) × (List Int) × Int × Int × Int) ⊕ ((List Int) × (List Int) × Int × Int × Int))) :=
  Option.bind (s_l31Pow p1.In) fun x25 =>
  bif decide (s4.2.2.1 < x25) then
    Option.bind (s_l1Below (⟨p0.b, s4.2.2.2.1, s4.2.2.2.2⟩ : l1Cur) (IntKind.i64.wrap (1 + x13.1))) fun x32 =>
    Option.bind (appS 8 s4.1 ([x32.1] : List Int)) fun x34 =>
    Option.bind (s_l31Pow p1.Out) fun x39 =>
    Option.bind (s_l1Below (⟨p0.b, x32.2.1, x32.2.2⟩ : l1Cur) x39) fun x40 =>
    Option.bind (appS 8 s4.2.1 ([x40.1] : List Int)) fun x42 =>
    some (.inr (.inr ((x34 : (List Int)), (x42 : (List Int)), ((IntKind.i64.wrap (s4.2.2.1 + 1)) : Int), (x40.2.1 : Int), (x40.2.2 : Int))))
  else
    some (.inr (.inl ((s4.1 : (List Int)), (s4.2.1 : (List Int)), (s4.2.2.1 : Int), (s4.2.2.2.1 : Int), (s4.2.2.2.2 : Int))))
def s_l31DrawMachine_b0 (p0 : l1Cur) (p1 : Sig) (x13 : Int × Int × Int) (v7 : Int) (s1 : Int × Int × (List (List Int)) × (List (List Int))) : Option ((Machine × Int × Int) ⊕ ((Int × Int × (List (List Int)) × (List (List Int))) ⊕ (Int × Int × (List (List Int)) × (List (List Int))))) :=
  Option.bind (whileM (s_l31DrawMachine_b2 p0 p1 x13) (2 ^ 64) ((([] : List Int) : (List Int)), (([] : List Int) : (List Int)), (0 : Int), (s1.1 : Int), (s1.2.1 : Int))) fun q5 =>
  aft (fun r => some (.inl r)) (fun s6 =>
    Option.bind (appS 24 s1.2.2.1 ([s6.1] : List (List Int))) fun x47 =>
    Option.bind (appS 24 s1.2.2.2 ([s6.2.1] : List (List Int))) fun x53 =>
    some (.inr (.inr ((s6.2.2.2.1 : Int), (s6.2.2.2.2 : Int), (x47 : (List (List Int))), (x53 : (List (List Int))))))) q5
def s_l31DrawMachine (p0 : l1Cur) (p1 : Sig) : Option (Machine × Int × Int) :=
  Option.bind (s_l1Below p0 6) fun x13 =>
  Option.bind (rng (IntKind.i64.wrap (1 + x13.1))) fun _ =>
  Option.bind (cntM (s_l31DrawMachine_b0 p0 p1 x13) (Int.toNat ((IntKind.i64.wrap (1 + x13.1)) - 0)) 0 ((x13.2.1 : Int), (x13.2.2 : Int), (([] : List (List Int)) : (List (List Int))), (([] : List (List Int)) : (List (List Int))))) fun q2 =>
  aft (fun r => some r) (fun s3 =>
    some (((⟨s3.2.2.1, s3.2.2.2⟩ : Machine) : Machine), (s3.1 : Int), (s3.2.1 : Int))) q2

/- loop.example/g00869/spec.l1Once -/

def s_l1Once (p0 : l1Cur) (p1 : Int) : Option (Bool × Int × Int) :=
  Option.bind (s_l1Below p0 p1) fun x7 =>
  some (((x7.1 == 0) : Bool), (x7.2.1 : Int), (x7.2.2 : Int))

/- loop.example/g00869/spec.l1Odd -/

def s_l1Odd (p0 : l1Cur) : Option (Int × Int × Int) :=
  Option.bind (s_l1Below p0 10) fun x5 =>
  Option.bind (idx ([(-1), 0, 1, 2147483648, (-2147483648), 1099511627776, 4611686018427387904, (-4611686018427387904), 9223372036854775807, (-9223372036854775808)] : List Int) x5.1) fun x6 =>
  some ((x6 : Int), (x5.2.1 : Int), (x5.2.2 : Int))

/- loop.example/g00869/spec.l1Min -/

def s_l1Min (p0 : Int) (p1 : Int) : Option (Int) :=
  bif decide (p0 < p1) then
    some (p0 : Int)
  else
    some (p1 : Int)

/- loop.example/g00869/spec.l1Num -/

def s_l1Num (p0 : l1Cur) (p1 : Int) : Option (Int × Int × Int) :=
  Option.bind (s_l1Once p0 10) fun x6 =>
  bif x6.1 then
    Option.bind (s_l1Odd (⟨p0.b, x6.2.1, x6.2.2⟩ : l1Cur)) fun x11 =>
    Option.bind (s_l1Below (⟨p0.b, x11.2.1, x11.2.2⟩ : l1Cur) 4) fun x14 =>
    Option.bind (idx ([(-1), p1, (IntKind.i64.wrap (p1 + 1)), x11.1] : List Int) x14.1) fun x15 =>
    some ((x15 : Int), (x14.2.1 : Int), (x14.2.2 : Int))
  else
    Option.bind (s_l1Once (⟨p0.b, x6.2.1, x6.2.2⟩ : l1Cur) 2) fun x18 =>
    bif x18.1 then
      Option.bind (s_l1Min p1 4) fun x21 =>
      Option.bind (s_l1Below (⟨p0.b, x18.2.1, x18.2.2⟩ : l1Cur) (IntKind.i64.wrap (x21 + 1))) fun x23 =>
      some ((x23.1 : Int), (x23.2.1 : Int), (x23.2.2 : Int))
    else
      Option.bind (s_l1Below (⟨p0.b, x18.2.1, x18.2.2⟩ : l1Cur) (IntKind.i64.wrap (p1 + 1))) fun x27 =>
      some ((x27.1 : Int), (x27.2.1 : Int), (x27.2.2 : Int))

/- loop.example/g00869/spec.l1From -/

def s_l1From (p0 : l1Cur) (p1 : Int) (p2 : Int) : Option (Int × Int × Int) :=
  Option.bind (s_l1Below p0 (IntKind.i64.wrap ((IntKind.i64.wrap (p2 - p1)) + 1))) fun x13 =>
  some (((IntKind.i64.wrap (p1 + x13.1)) : Int), (x13.2.1 : Int), (x13.2.2 : Int))

/- loop.example/g00869/spec.l31DrawPair -/

def s_l31DrawPair (p0 : l1Cur) : Option (Sig × Machine × Int × Int) :=
  Option.bind (s_l31DrawSig p0) fun x7 =>
  Option.bind (s_l31DrawMachine (⟨p0.b, x7.2.1, x7.2.2⟩ : l1Cur) x7.1) fun x10 =>
  Option.bind (s_l1Once (⟨p0.b, x10.2.1, x10.2.2⟩ : l1Cur) 8) fun x12 =>
  Option.bind (bif x12.1 then
    Option.bind (s_l1Below (⟨p0.b, x12.2.1, x12.2.2⟩ : l1Cur) 3) fun x14 =>
    Option.bind (bif (x14.1 == 0) then
      Option.bind (idx x10.1.Next 0) fun x19 =>
      Option.bind (s_l1Num (⟨p0.b, x14.2.1, x14.2.2⟩ : l1Cur) 7) fun x22 =>
      Option.bind (idx x19 0) fun x23 =>
      Option.bind (setI x19 0 x22.1) fun y8 =>
      Option.bind (setI x10.1.Next 0 y8) fun yb8 =>
      some ((x22.2.1 : Int), (x22.2.2 : Int), (x7.1.In : Int), (yb8 : (List (List Int))), (x10.1.Out : (List (List Int))))
    else
      Option.bind (bif (x14.1 == 1) then
        Option.bind (idx x10.1.Out 0) fun x28 =>
        Option.bind (s_l1Num (⟨p0.b, x14.2.1, x14.2.2⟩ : l1Cur) 4) fun x31 =>
        Option.bind (idx x28 0) fun x32 =>
        Option.bind (setI x28 0 x31.1) fun y9 =>
        Option.bind (setI x10.1.Out 0 y9) fun yb9 =>
        some ((x31.2.1 : Int), (x31.2.2 : Int), (x7.1.In : Int), (yb9 : (List (List Int))))
      else
        Option.bind (bif (x14.1 == 2) then
          Option.bind (s_l1From (⟨p0.b, x14.2.1, x14.2.2⟩ : l1Cur) 0 3) fun x36 =>
          some ((x36.2.1 : Int), (x36.2.2 : Int), (x36.1 : Int))
        else
          some ((x14.2.1 : Int), (x14.2.2 : Int), (x7.1.In : Int))) fun q4 =>
        some ((q4.1 : Int), (q4.2.1 : Int), (q4.2.2 : Int), (x10.1.Out : (List (List Int))))) fun q3 =>
      some ((q3.1 : Int), (q3.2.1 : Int), (q3.2.2.1 : Int), (x10.1.Next : (List (List Int))), (q3.2.2.2 : (List (List Int))))) fun q2 =>
    some ((q2.1 : Int), (q2.2.1 : Int), (q2.2.2.1 : Int), (q2.2.2.2.1 : (List (List Int))), (q2.2.2.2.2 : (List (List Int))))
  else
    some ((x12.2.1 : Int), (x12.2.2 : Int), (x7.1.In : Int), (x10.1.Next : (List (List Int))), (x10.1.Out : (List (List Int))))) fun q1 =>
  some (((⟨q1.2.2.1, x7.1.Out⟩ : Sig) : Sig), ((⟨q1.2.2.2.1, q1.2.2.2.2⟩ : Machine) : Machine), (q1.1 : Int), (q1.2.1 : Int))

/- loop.example/g00869/spec.DrawCircuitOf -/

def s_DrawCircuitOf (p0 : (List Int)) : Option (Sig × Machine) :=
  Option.bind (s_l1New p0) fun x6 =>
  Option.bind (s_l31DrawPair x6) fun x8 =>
  some ((x8.1 : Sig), (x8.2.1 : Machine))

/- loop.example/g00869/impl.isSig -/

def i_isSig (p0 : Sig) : Option (Bool) :=
  Option.bind (bif decide (1 ≤ p0.In) then
  some (decide (p0.In ≤ 2))
  else
  some false) fun p10 =>
  Option.bind (bif p10 then
  some (decide (1 ≤ p0.Out))
  else
  some false) fun p15 =>
  Option.bind (bif p15 then
  some (decide (p0.Out ≤ 2))
  else
  some false) fun p20 =>
  some (p20 : Bool)

/- loop.example/g00869/impl.inputsOf -/

def i_inputsOf (p0 : Sig) : Option (Int) :=
  Option.bind (nn p0.In) fun _z5 =>
  some ((IntKind.i64.wrap (1 * 2 ^ (min (Int.toNat p0.In) (IntKind.bits IntKind.i64)))) : Int)

/- loop.example/g00869/impl.areLetters$1 -/

def i_areLetters_1 (p0 : Int) (c0 : Int) : Option (Bool) :=
  Option.bind (bif decide (p0 < 0) then
  some true
  else
  some (decide (c0 ≤ p0))) fun p10 =>
  some (p10 : Bool)

/- slices.IndexFunc[[]int64,int64] -/
def slices_IndexFunc_I_int64__i_areLetters_1_b0 (p0 : (List Int)) (c1_0 : Int) (v8 : Int) (s1 : Unit) : Option (Int ⊕ ((Unit) ⊕ (Unit))) :=
  Option.bind (idx p0 v8) fun x14 =>
  Option.bind (i_areLetters_1 x14 c1_0) fun x16 =>
  bif x16 then
    some (.inl (v8 : Int))
  else
    some (.inr (.inr ()))
def slices_IndexFunc_I_int64__i_areLetters_1 (p0 : (List Int)) (c1_0 : Int) : Option (Int) :=
  Option.bind (cntM (slices_IndexFunc_I_int64__i_areLetters_1_b0 p0 c1_0) p0.length 0 ()) fun q2 =>
  aft (fun r => some r) (fun s3 =>
    some ((-1) : Int)) q2

/- slices.ContainsFunc[[]int64,int64] -/

def slices_ContainsFunc_I_int64__i_areLetters_1 (p0 : (List Int)) (c1_0 : Int) : Option (Bool) :=
  Option.bind (slices_IndexFunc_I_int64__i_areLetters_1 p0 c1_0) fun x7 =>
  some (decide (0 ≤ x7) : Bool)

/- loop.example/g00869/impl.areLetters -/

def i_areLetters (p0 : (List Int)) (p1 : Int) : Option (Bool) :=
  Option.bind (slices_ContainsFunc_I_int64__i_areLetters_1 p0 p1) fun x7 =>
  some ((!x7) : Bool)

/- loop.example/g00869/impl.isMachine -/
def i_isMachine_b0 (p0 : Sig) (p1 : Machine) (v29 : Int) (s1 : Unit) : Option (Bool ⊕ ((Unit) ⊕ (Unit))) :=
  Option.bind (idx p1.Next v29) fun x32 =>
  Option.bind (i_inputsOf p0) fun x37 =>
  Option.bind (bif ((x32.length : Int) != x37) then
  some true
  else
  Option.bind (idx p1.Out v29) fun x43 =>
  some ((x43.length : Int) != (x32.length : Int))) fun p49 =>
  Option.bind (bif p49 then
  some true
  else
  Option.bind (i_areLetters x32 (p1.Next.length : Int)) fun x53 =>
  some (!x53)) fun p55 =>
  Option.bind (bif p55 then
  some true
  else
  Option.bind (idx p1.Out v29) fun x60 =>
  Option.bind (nn p0.Out) fun _z64 =>
  Option.bind (i_areLetters x60 (IntKind.i64.wrap (1 * 2 ^ (min (Int.toNat p0.Out) (IntKind.bits IntKind.i64))))) fun x65 =>
  some (!x65)) fun p67 =>
  bif p67 then
    some (.inl (false : Bool))
  else
    some (.inr (.inr ()))
def i_isMachine (p0 : Sig) (p1 : Machine) : Option (Bool) :=
  Option.bind (bif decide ((p1.Next.length : Int) < 1) then
  some true
  else
  some (decide (48 < (p1.Next.length : Int)))) fun p16 =>
  Option.bind (bif p16 then
  some true
  else
  some ((p1.Out.length : Int) != (p1.Next.length : Int))) fun p25 =>
  bif p25 then
    some (false : Bool)
  else
    Option.bind (cntM (i_isMachine_b0 p0 p1) p1.Next.length 0 ()) fun q2 =>
    aft (fun r => some r) (fun s3 =>
      some (true : Bool)) q2

/- (*loop.example/g00869/impl.builder).learn -/

def i_builder_learn (p0 : builder) (p1 : Gate) (p2 : Int) : Option ((List (Gate × Int))) :=
  Option.bind (mget kwGate p0.known ((⟨(if p1.B < p1.A then p1.B else p1.A), (if p1.A < p1.B then p1.B else p1.A)⟩ : Gate) : Gate) (0 : Int)) fun x25 =>
  Option.bind (bif (!x25.2) then
    Option.bind (mset kwGate p0.known ((⟨(if p1.B < p1.A then p1.B else p1.A), (if p1.A < p1.B then p1.B else p1.A)⟩ : Gate) : Gate) p2) fun y14 =>
    some (y14 : (List (Gate × Int)))
  else
    some (p0.known : (List (Gate × Int)))) fun q1 =>
  some (q1 : (List (Gate × Int)))

/- loop.example/g00869/impl.newBuilder -/
def i_newBuilder_b0 (p0 : Circuit) (x10 : (List Int)) (x15 : (List Gate)) (x20 : (List Int)) (v35 : Int) (s1 : (List (Gate × Int))) : Option (builder ⊕ (((List (Gate × Int))) ⊕ ((List (Gate × Int))))) :=
  Option.bind (idx x15 v35) fun x38 =>
  Option.bind (i_builder_learn (⟨(⟨p0.Inputs, p0.Latches, x10, x15, x20⟩ : Circuit), false, s1⟩ : builder) x38 (IntKind.i64.wrap (2 * (IntKind.i64.wrap ((IntKind.i64.wrap ((IntKind.i64.wrap (1 + p0.Inputs)) + p0.Latches)) + v35))))) fun x46 =>
  some (.inr (.inr (x46 : (List (Gate × Int)))))
def i_newBuilder (p0 : Circuit) : Option (builder) :=
  Option.bind (appS 8 ([] : List Int) p0.Next) fun x10 =>
  Option.bind (appS 16 ([] : List Gate) p0.Gates) fun x15 =>
  Option.bind (appS 8 ([] : List Int) p0.Outs) fun x20 =>
  Option.bind (cntM (i_newBuilder_b0 p0 x10 x15 x20) x15.length 0 (([] : List (Gate × Int)) : (List (Gate × Int)))) fun q2 =>
  aft (fun r => some r) (fun s3 =>
    some ((⟨(⟨p0.Inputs, p0.Latches, x10, x15, x20⟩ : Circuit), false, s3⟩ : builder) : builder)) q2

/- loop.example/g00869/impl.CircuitOf$1 -/
def i_CircuitOf_1_b0 (p0 : (List (List Int))) (p1 : Int) (c0 : Int) (c2 : Int) (v15 : Int) (s1 : (List Bool)) : Option ((List Bool) ⊕ (((List Bool)) ⊕ ((List Bool)))) :=
  Option.bind (nz c0) fun _z20 =>
  Option.bind (bif decide (c2 ≤ (IntKind.i64.wrap (Int.tdiv v15 c0))) then
    some (0 : Int)
  else
    some ((IntKind.i64.wrap (Int.tdiv v15 c0)) : Int)) fun q4 =>
  Option.bind (idx p0 q4) fun x27 =>
  Option.bind (nz c0) fun _z31 =>
  Option.bind (idx x27 (Int.tmod v15 c0)) fun x32 =>
  Option.bind (nn p1) fun _z35 =>
  Option.bind (appS 1 s1 ([((IntKind.i64.wrap (BitVec.toNat (BitVec.ofInt (IntKind.bits IntKind.i64) (Int.fdiv x32 (2 ^ (min (Int.toNat p1) (IntKind.bits IntKind.i64)))) &&& BitVec.ofInt (IntKind.bits IntKind.i64) 1))) == 1)] : List Bool)) fun x39 =>
  some (.inr (.inr (x39 : (List Bool))))
def i_CircuitOf_1 (p0 : (List (List Int))) (p1 : Int) (c0 : Int) (c1 : Int) (c2 : Int) : Option ((List Bool)) :=
  Option.bind (nn c1) fun _z14 =>
  Option.bind (rng (IntKind.i64.wrap (c0 * 2 ^ (min (Int.toNat c1) (IntKind.bits IntKind.i64))))) fun _ =>
  Option.bind (cntM (i_CircuitOf_1_b0 p0 p1 c0 c2) (Int.toNat ((IntKind.i64.wrap (c0 * 2 ^ (min (Int.toNat c1) (IntKind.bits IntKind.i64)))) - 0)) 0 (([] : List Bool) : (List Bool))) fun q2 =>
  aft (fun r => some r) (fun s3 =>
    some (s3 : (List Bool))) q2

/- slices.Index[[]bool,bool] -/
def slices_Index_bool_bool_b0 (p0 : (List Bool)) (p1 : Bool) (v8 : Int) (s1 : Unit) : Option (Int ⊕ ((Unit) ⊕ (Unit))) :=
  Option.bind (idx p0 v8) fun x14 =>
  bif (p1 == x14) then
    some (.inl (v8 : Int))
  else
    some (.inr (.inr ()))
def slices_Index_bool_bool (p0 : (List Bool)) (p1 : Bool) : Option (Int) :=
  Option.bind (cntM (slices_Index_bool_bool_b0 p0 p1) p0.length 0 ()) fun q2 =>
  aft (fun r => some r) (fun s3 =>
    some ((-1) : Int)) q2

/- slices.Contains[[]bool,bool] -/

def slices_Contains_bool_bool (p0 : (List Bool)) (p1 : Bool) : Option (Bool) :=
  Option.bind (slices_Index_bool_bool p0 p1) fun x7 =>
  some (decide (0 ≤ x7) : Bool)

/- loop.example/g00869/impl.signalsOf -/

def i_signalsOf (p0 : Circuit) : Option (Int) :=
  some ((IntKind.i64.wrap ((IntKind.i64.wrap ((IntKind.i64.wrap (1 + p0.Inputs)) + p0.Latches)) + (p0.Gates.length : Int))) : Int)

/- (*loop.example/g00869/impl.builder).join -/

def i_builder_join (p0 : builder) (p1 : Int) (p2 : Int) : Option (Int × (List Gate) × Bool × (List (Gate × Int))) :=
  Option.bind (bif (p1 == 0) then
  some true
  else
  some (p2 == 0)) fun p17 =>
  Option.bind (bif p17 then
  some true
  else
  some (p1 == (IntKind.i64.wrap (BitVec.toNat (BitVec.ofInt (IntKind.bits IntKind.i64) p2 ^^^ BitVec.ofInt (IntKind.bits IntKind.i64) 1))))) fun p23 =>
  bif p23 then
    some ((0 : Int), (p0.c.Gates : (List Gate)), (p0.full : Bool), (p0.known : (List (Gate × Int))))
  else
    bif (p1 == 1) then
      some ((p2 : Int), (p0.c.Gates : (List Gate)), (p0.full : Bool), (p0.known : (List (Gate × Int))))
    else
      Option.bind (bif (p2 == 1) then
      some true
      else
      some (p1 == p2)) fun p35 =>
      bif p35 then
        some ((p1 : Int), (p0.c.Gates : (List Gate)), (p0.full : Bool), (p0.known : (List (Gate × Int))))
      else
        Option.bind (mget kwGate p0.known ((⟨(if p2 < p1 then p2 else p1), (if p1 < p2 then p2 else p1)⟩ : Gate) : Gate) (0 : Int)) fun x50 =>
        bif x50.2 then
          some ((x50.1 : Int), (p0.c.Gates : (List Gate)), (p0.full : Bool), (p0.known : (List (Gate × Int))))
        else
          bif decide (8000 ≤ (p0.c.Gates.length : Int)) then
            some ((0 : Int), (p0.c.Gates : (List Gate)), (true : Bool), (p0.known : (List (Gate × Int))))
          else
            Option.bind (i_signalsOf p0.c) fun x69 =>
            Option.bind (appS 16 p0.c.Gates ([(⟨(if p2 < p1 then p2 else p1), (if p1 < p2 then p2 else p1)⟩ : Gate)] : List Gate)) fun x79 =>
            Option.bind (i_builder_learn (⟨(⟨p0.c.Inputs, p0.c.Latches, p0.c.Next, x79, p0.c.Outs⟩ : Circuit), p0.full, p0.known⟩ : builder) (⟨(if p2 < p1 then p2 else p1), (if p1 < p2 then p2 else p1)⟩ : Gate) (IntKind.i64.wrap (2 * x69))) fun x86 =>
            some (((IntKind.i64.wrap (2 * x69)) : Int), (x79 : (List Gate)), (p0.full : Bool), (x86 : (List (Gate × Int))))

/- (*loop.example/g00869/impl.builder).choose -/

def i_builder_choose (p0 : builder) (p1 : Int) (p2 : Int) (p3 : Int) : Option (Int × (List Gate) × Bool × (List (Gate × Int))) :=
  bif (p2 == p3) then
    some ((p2 : Int), (p0.c.Gates : (List Gate)), (p0.full : Bool), (p0.known : (List (Gate × Int))))
  else
    Option.bind (i_builder_join p0 p1 p2) fun x18 =>
    Option.bind (i_builder_join (⟨(⟨p0.c.Inputs, p0.c.Latches, p0.c.Next, x18.2.1, p0.c.Outs⟩ : Circuit), x18.2.2.1, x18.2.2.2⟩ : builder) (IntKind.i64.wrap (BitVec.toNat (BitVec.ofInt (IntKind.bits IntKind.i64) p1 ^^^ BitVec.ofInt (IntKind.bits IntKind.i64) 1))) p3) fun x23 =>
    Option.bind (i_builder_join (⟨(⟨p0.c.Inputs, p0.c.Latches, p0.c.Next, x23.2.1, p0.c.Outs⟩ : Circuit), x23.2.2.1, x23.2.2.2⟩ : builder) (IntKind.i64.wrap (BitVec.toNat (BitVec.ofInt (IntKind.bits IntKind.i64) x18.1 ^^^ BitVec.ofInt (IntKind.bits IntKind.i64) 1))) (IntKind.i64.wrap (BitVec.toNat (BitVec.ofInt (IntKind.bits IntKind.i64) x23.1 ^^^ BitVec.ofInt (IntKind.bits IntKind.i64) 1)))) fun x29 =>
    some (((IntKind.i64.wrap (BitVec.toNat (BitVec.ofInt (IntKind.bits IntKind.i64) x29.1 ^^^ BitVec.ofInt (IntKind.bits IntKind.i64) 1))) : Int), (x29.2.1 : (List Gate)), (x29.2.2.1 : Bool), (x29.2.2.2 : (List (Gate × Int))))

/- (*loop.example/g00869/impl.builder).literalOf -/
def i_builder_literalOf_b0 (p1 : (List Bool)) (s1 : Int) : Option ((Int × (List Gate) × Bool × (List (Gate × Int))) ⊕ ((Int) ⊕ (Int))) :=
  Option.bind (nn s1) fun _z16 =>
  bif decide ((IntKind.i64.wrap (2 * 2 ^ (min (Int.toNat s1) (IntKind.bits IntKind.i64)))) < (p1.length : Int)) then
    some (.inr (.inr ((IntKind.i64.wrap (s1 + 1)) : Int)))
  else
    some (.inr (.inl (s1 : Int)))
def i_builder_literalOf_s (rc : builder → (List Bool) → Option (Int × (List Gate) × Bool × (List (Gate × Int)))) (p0 : builder) (p1 : (List Bool)) : Option (Int × (List Gate) × Bool × (List (Gate × Int))) :=
  Option.bind (slices_Contains_bool_bool p1 true) fun x10 =>
  bif (!x10) then
    some ((0 : Int), (p0.c.Gates : (List Gate)), (p0.full : Bool), (p0.known : (List (Gate × Int))))
  else
    Option.bind (slices_Contains_bool_bool p1 false) fun x13 =>
    bif (!x13) then
      some ((1 : Int), (p0.c.Gates : (List Gate)), (p0.full : Bool), (p0.known : (List (Gate × Int))))
    else
      Option.bind (whileM (i_builder_literalOf_b0 p1) (2 ^ 64) (0 : Int)) fun q2 =>
      aft (fun r => some r) (fun s3 =>
        Option.bind (subS p1 (IntKind.i64.wrap (Int.tdiv (p1.length : Int) 2)) (p1.length : Int)) fun x30 =>
        Option.bind (rc p0 x30) fun x31 =>
        Option.bind (subS p1 0 (IntKind.i64.wrap (Int.tdiv (p1.length : Int) 2))) fun x37 =>
        Option.bind (rc (⟨(⟨p0.c.Inputs, p0.c.Latches, p0.c.Next, x31.2.1, p0.c.Outs⟩ : Circuit), x31.2.2.1, x31.2.2.2⟩ : builder) x37) fun x38 =>
        Option.bind (i_builder_choose (⟨(⟨p0.c.Inputs, p0.c.Latches, p0.c.Next, x38.2.1, p0.c.Outs⟩ : Circuit), x38.2.2.1, x38.2.2.2⟩ : builder) (IntKind.i64.wrap (2 * (IntKind.i64.wrap (1 + s3)))) x31.1 x38.1) fun x43 =>
        some ((x43.1 : Int), (x43.2.1 : (List Gate)), (x43.2.2.1 : Bool), (x43.2.2.2 : (List (Gate × Int))))) q2
def i_builder_literalOf : Nat → builder → (List Bool) → Option (Int × (List Gate) × Bool × (List (Gate × Int)))
  | 0 => fun _ _ => none
  | n + 1 => i_builder_literalOf_s (i_builder_literalOf n)

/- loop.example/g00869/impl.CircuitOf -/
def i_CircuitOf_b0 (p1 : Machine) (s1 : Int) : Option ((Circuit × Bool) ⊕ ((Int) ⊕ (Int))) :=
  Option.bind (nn s1) fun _z31 =>
  bif decide ((IntKind.i64.wrap (1 * 2 ^ (min (Int.toNat s1) (IntKind.bits IntKind.i64)))) < (p1.Next.length : Int)) then
    some (.inr (.inr ((IntKind.i64.wrap (s1 + 1)) : Int)))
  else
    some (.inr (.inl (s1 : Int)))
def i_CircuitOf_b2 (p1 : Machine) (x29 : Int) (s3 : Int) (x42 : builder) (v47 : Int) (s4 : (List Int) × (List Gate) × Bool × (List (Gate × Int))) : Option ((Circuit × Bool) ⊕ (((List Int) × (List Gate) × Bool × (List (Gate × Int))) ⊕ ((List Int) × (List Gate) × Bool × (List (Gate × Int))))) :=
  Option.bind (i_CircuitOf_1 p1.Next v47 x29 s3 (p1.Next.length : Int)) fun x56 =>
  Option.bind (i_builder_literalOf (2 ^ 64) (⟨(⟨x42.c.Inputs, x42.c.Latches, x42.c.Next, s4.2.1, x42.c.Outs⟩ : Circuit), s4.2.2.1, s4.2.2.2⟩ : builder) x56) fun x57 =>
  Option.bind (appS 8 s4.1 ([x57.1] : List Int)) fun x59 =>
  some (.inr (.inr ((x59 : (List Int)), (x57.2.1 : (List Gate)), (x57.2.2.1 : Bool), (x57.2.2.2 : (List (Gate × Int))))))
def i_CircuitOf_b4 (p1 : Machine) (x29 : Int) (s3 : Int) (x42 : builder) (v63 : Int) (s7 : (List Int) × (List Gate) × Bool × (List (Gate × Int))) : Option ((Circuit × Bool) ⊕ (((List Int) × (List Gate) × Bool × (List (Gate × Int))) ⊕ ((List Int) × (List Gate) × Bool × (List (Gate × Int))))) :=
  Option.bind (i_CircuitOf_1 p1.Out v63 x29 s3 (p1.Next.length : Int)) fun x72 =>
  Option.bind (i_builder_literalOf (2 ^ 64) (⟨(⟨x42.c.Inputs, x42.c.Latches, x42.c.Next, s7.2.1, x42.c.Outs⟩ : Circuit), s7.2.2.1, s7.2.2.2⟩ : builder) x72) fun x73 =>
  Option.bind (appS 8 s7.1 ([x73.1] : List Int)) fun x75 =>
  some (.inr (.inr ((x75 : (List Int)), (x73.2.1 : (List Gate)), (x73.2.2.1 : Bool), (x73.2.2.2 : (List (Gate × Int))))))
def i_CircuitOf (p0 : Sig) (p1 : Machine) : Option (Circuit × Bool) :=
  Option.bind (i_isSig p0) fun x16 =>
  Option.bind (bif (!x16) then
  some true
  else
  Option.bind (i_isMachine p0 p1) fun x21 =>
  some (!x21)) fun p23 =>
  bif p23 then
    some (((⟨0, 0, ([] : List Int), ([] : List Gate), ([] : List Int)⟩ : Circuit) : Circuit), (false : Bool))
  else
    Option.bind (i_inputsOf p0) fun x29 =>
    Option.bind (whileM (i_CircuitOf_b0 p1) (2 ^ 64) (0 : Int)) fun q2 =>
    aft (fun r => some r) (fun s3 =>
      Option.bind (mkS 8 s3 (0 : Int)) fun x40 =>
      Option.bind (i_newBuilder (⟨p0.In, s3, x40, ([] : List Gate), ([] : List Int)⟩ : Circuit)) fun x42 =>
      Option.bind (rng s3) fun _ =>
      Option.bind (cntM (i_CircuitOf_b2 p1 x29 s3 x42) (Int.toNat (s3 - 0)) 0 ((([] : List Int) : (List Int)), (x42.c.Gates : (List Gate)), (x42.full : Bool), (x42.known : (List (Gate × Int))))) fun q5 =>
      aft (fun r => some r) (fun s6 =>
        Option.bind (rng p0.Out) fun _ =>
        Option.bind (cntM (i_CircuitOf_b4 p1 x29 s3 x42) (Int.toNat (p0.Out - 0)) 0 ((([] : List Int) : (List Int)), (s6.2.1 : (List Gate)), (s6.2.2.1 : Bool), (s6.2.2.2 : (List (Gate × Int))))) fun q8 =>
        aft (fun r => some r) (fun s9 =>
          bif s9.2.2.1 then
            some (((⟨0, 0, ([] : List Int), ([] : List Gate), ([] : List Int)⟩ : Circuit) : Circuit), (false : Bool))
          else
            some (((⟨x42.c.Inputs, x42.c.Latches, s6.1, s9.2.1, s9.1⟩ : Circuit) : Circuit), (true : Bool))) q8) q5) q2

/- loop.example/g00869/spec.l1In -/

def s_l1In (p0 : Int) (p1 : Int) (p2 : Int) : Option (Bool) :=
  Option.bind (bif decide (p1 ≤ p0) then
  some (decide (p0 ≤ p2))
  else
  some false) fun p14 =>
  some (p14 : Bool)

/- loop.example/g00869/spec.SigOk -/

def s_SigOk (p0 : Sig) : Option (Bool) :=
  Option.bind (s_l1In p0.In 1 2) fun x5 =>
  Option.bind (bif x5 then
  Option.bind (s_l1In p0.Out 1 2) fun x9 =>
  some x9
  else
  some false) fun p10 =>
  some (p10 : Bool)

/- loop.example/g00869/spec.l23Power -/
def s_l23Power_b0  (s1 : Int × Int) : Option (Int ⊕ ((Int × Int) ⊕ (Int × Int))) :=
  bif decide (0 < s1.1) then
    some (.inr (.inr (((IntKind.i64.wrap (s1.1 - 1)) : Int), ((IntKind.i64.wrap (s1.2 * 2)) : Int))))
  else
    some (.inr (.inl ((s1.1 : Int), (s1.2 : Int))))
def s_l23Power (p0 : Int) : Option (Int) :=
  Option.bind (whileM s_l23Power_b0 (2 ^ 64) ((p0 : Int), (1 : Int))) fun q2 =>
  aft (fun r => some r) (fun s3 =>
    some (s3.2 : Int)) q2

/- loop.example/g00869/spec.l29Ins -/

def s_l29Ins (p0 : Sig) : Option (Int) :=
  Option.bind (s_l23Power p0.In) fun x5 =>
  some (x5 : Int)

/- loop.example/g00869/spec.l23Below -/
def s_l23Below_b0 (p0 : (List Int)) (p1 : Int) (v5 : Int) (s1 : Unit) : Option (Bool ⊕ ((Unit) ⊕ (Unit))) :=
  Option.bind (idx p0 v5) fun x14 =>
  Option.bind (s_l1In x14 0 (IntKind.i64.wrap (p1 - 1))) fun x18 =>
  bif (!x18) then
    some (.inl (false : Bool))
  else
    some (.inr (.inr ()))
def s_l23Below (p0 : (List Int)) (p1 : Int) : Option (Bool) :=
  Option.bind (cntM (s_l23Below_b0 p0 p1) p0.length 0 ()) fun q2 =>
  aft (fun r => some r) (fun s3 =>
    some (true : Bool)) q2

/- loop.example/g00869/spec.MachineOk -/
def s_MachineOk_b0 (p0 : Sig) (p1 : Machine) (v6 : Int) (s1 : Unit) : Option (Bool ⊕ ((Unit) ⊕ (Unit))) :=
  Option.bind (idx p1.Next v6) fun x37 =>
  Option.bind (s_l29Ins p0) fun x41 =>
  Option.bind (bif ((x37.length : Int) != x41) then
  some true
  else
  Option.bind (idx p1.Out v6) fun x47 =>
  Option.bind (idx p1.Next v6) fun x53 =>
  some ((x47.length : Int) != (x53.length : Int))) fun p57 =>
  Option.bind (bif p57 then
  some true
  else
  Option.bind (idx p1.Next v6) fun x62 =>
  Option.bind (s_l23Below x62 (p1.Next.length : Int)) fun x65 =>
  some (!x65)) fun p67 =>
  Option.bind (bif p67 then
  some true
  else
  Option.bind (idx p1.Out v6) fun x72 =>
  Option.bind (s_l23Power p0.Out) fun x76 =>
  Option.bind (s_l23Below x72 x76) fun x77 =>
  some (!x77)) fun p79 =>
  bif p79 then
    some (.inl (false : Bool))
  else
    some (.inr (.inr ()))
def s_MachineOk (p0 : Sig) (p1 : Machine) : Option (Bool) :=
  Option.bind (s_SigOk p0) fun x11 =>
  Option.bind (bif (!x11) then
  some true
  else
  Option.bind (s_l1In (p1.Next.length : Int) 1 48) fun x15 =>
  some (!x15)) fun p17 =>
  Option.bind (bif p17 then
  some true
  else
  some ((p1.Out.length : Int) != (p1.Next.length : Int))) fun p26 =>
  bif p26 then
    some (false : Bool)
  else
    Option.bind (cntM (s_MachineOk_b0 p0 p1) p1.Next.length 0 ()) fun q2 =>
    aft (fun r => some r) (fun s3 =>
      some (true : Bool)) q2

/- loop.example/g00869/spec.l31Signals -/

def s_l31Signals (p0 : Circuit) : Option (Int) :=
  some ((IntKind.i64.wrap ((IntKind.i64.wrap ((IntKind.i64.wrap (1 + p0.Inputs)) + p0.Latches)) + (p0.Gates.length : Int))) : Int)

/- loop.example/g00869/spec.l31Literals -/
def s_l31Literals_b0 (p0 : (List Int)) (p1 : Int) (v5 : Int) (s1 : Unit) : Option (Bool ⊕ ((Unit) ⊕ (Unit))) :=
  Option.bind (idx p0 v5) fun x14 =>
  Option.bind (s_l1In x14 0 (IntKind.i64.wrap ((IntKind.i64.wrap (2 * p1)) - 1))) fun x19 =>
  bif (!x19) then
    some (.inl (false : Bool))
  else
    some (.inr (.inr ()))
def s_l31Literals (p0 : (List Int)) (p1 : Int) : Option (Bool) :=
  Option.bind (cntM (s_l31Literals_b0 p0 p1) p0.length 0 ()) fun q2 =>
  aft (fun r => some r) (fun s3 =>
    some (true : Bool)) q2

/- loop.example/g00869/spec.CircuitOk -/
def s_CircuitOk_b0 (p0 : Circuit) (v3 : Int) (s1 : Unit) : Option (Bool ⊕ ((Unit) ⊕ (Unit))) :=
  Option.bind (idx p0.Gates v3) fun x55 =>
  Option.bind (s_l1In x55.A 0 (IntKind.i64.wrap ((IntKind.i64.wrap (2 * (IntKind.i64.wrap ((IntKind.i64.wrap ((IntKind.i64.wrap (1 + p0.Inputs)) + p0.Latches)) + v3)))) - 1))) fun x59 =>
  Option.bind (bif (!x59) then
  some true
  else
  Option.bind (idx p0.Gates v3) fun x65 =>
  Option.bind (s_l1In x65.B 0 (IntKind.i64.wrap ((IntKind.i64.wrap (2 * (IntKind.i64.wrap ((IntKind.i64.wrap ((IntKind.i64.wrap (1 + p0.Inputs)) + p0.Latches)) + v3)))) - 1))) fun x69 =>
  some (!x69)) fun p71 =>
  bif p71 then
    some (.inl (false : Bool))
  else
    some (.inr (.inr ()))
def s_CircuitOk (p0 : Circuit) : Option (Bool) :=
  Option.bind (s_l1In p0.Inputs 0 4) fun x7 =>
  Option.bind (bif (!x7) then
  some true
  else
  Option.bind (s_l1In p0.Latches 0 6) fun x12 =>
  some (!x12)) fun p14 =>
  Option.bind (bif p14 then
  some true
  else
  some (decide (8000 < (p0.Gates.length : Int)))) fun p20 =>
  Option.bind (bif p20 then
  some true
  else
  some (decide (4 < (p0.Outs.length : Int)))) fun p26 =>
  Option.bind (bif p26 then
  some true
  else
  some ((p0.Next.length : Int) != p0.Latches)) fun p34 =>
  bif p34 then
    some (false : Bool)
  else
    Option.bind (cntM (s_CircuitOk_b0 p0) p0.Gates.length 0 ()) fun q2 =>
    aft (fun r => some r) (fun s3 =>
      Option.bind (s_l31Signals p0) fun x75 =>
      Option.bind (s_l31Literals p0.Next x75) fun x76 =>
      Option.bind (bif x76 then
      Option.bind (s_l31Signals p0) fun x81 =>
      Option.bind (s_l31Literals p0.Outs x81) fun x82 =>
      some x82
      else
      some false) fun p83 =>
      some (p83 : Bool)) q2

/- loop.example/g00869/spec.l31Fits -/

def s_l31Fits (p0 : Sig) (p1 : Circuit) : Option (Bool) :=
  Option.bind (s_CircuitOk p1) fun x6 =>
  Option.bind (bif x6 then
  some (p1.Inputs == p0.In)
  else
  some false) fun p13 =>
  Option.bind (bif p13 then
  some ((p1.Outs.length : Int) == p0.Out)
  else
  some false) fun p21 =>
  some (p21 : Bool)

/- loop.example/g00869/spec.l31True -/

def s_l31True (p0 : (List Bool)) (p1 : Int) : Option (Bool) :=
  Option.bind (idx p0 (IntKind.i64.wrap (Int.tdiv p1 2))) fun x8 =>
  some ((x8 != ((Int.tmod p1 2) == 1)) : Bool)

/- loop.example/g00869/spec.l31Number -/
def s_l31Number_b0 (p0 : (List Bool)) (p1 : (List Int)) (v6 : Int) (s1 : Int) : Option (Int ⊕ ((Int) ⊕ (Int))) :=
  Option.bind (idx p1 v6) fun x16 =>
  Option.bind (s_l31True p0 x16) fun x18 =>
  Option.bind (bif x18 then
    Option.bind (s_l31Pow v6) fun x21 =>
    some ((IntKind.i64.wrap (s1 + x21)) : Int)
  else
    some (s1 : Int)) fun q4 =>
  some (.inr (.inr (q4 : Int)))
def s_l31Number (p0 : (List Bool)) (p1 : (List Int)) : Option (Int) :=
  Option.bind (cntM (s_l31Number_b0 p0 p1) p1.length 0 (0 : Int)) fun q2 =>
  aft (fun r => some r) (fun s3 =>
    some (s3 : Int)) q2

/- loop.example/g00869/spec.l31Step -/
def s_l31Step_b0 (p2 : Int) (v9 : Int) (s1 : (List Bool)) : Option ((Int × Int) ⊕ (((List Bool)) ⊕ ((List Bool)))) :=
  Option.bind (s_l31Pow v9) fun x22 =>
  Option.bind (nz x22) fun _z23 =>
  Option.bind (appS 1 s1 ([((Int.tmod (IntKind.i64.wrap (Int.tdiv p2 x22)) 2) == 1)] : List Bool)) fun x27 =>
  some (.inr (.inr (x27 : (List Bool))))
def s_l31Step_b2 (p1 : Int) (v10 : Int) (s4 : (List Bool)) : Option ((Int × Int) ⊕ (((List Bool)) ⊕ ((List Bool)))) :=
  Option.bind (s_l31Pow v10) fun x37 =>
  Option.bind (nz x37) fun _z38 =>
  Option.bind (appS 1 s4 ([((Int.tmod (IntKind.i64.wrap (Int.tdiv p1 x37)) 2) == 1)] : List Bool)) fun x42 =>
  some (.inr (.inr (x42 : (List Bool))))
def s_l31Step_b4 (p0 : Circuit) (v11 : Int) (s7 : (List Bool)) : Option ((Int × Int) ⊕ (((List Bool)) ⊕ ((List Bool)))) :=
  Option.bind (idx p0.Gates v11) fun x55 =>
  Option.bind (s_l31True s7 x55.A) fun x58 =>
  Option.bind (bif x58 then
  Option.bind (idx p0.Gates v11) fun x64 =>
  Option.bind (s_l31True s7 x64.B) fun x67 =>
  some x67
  else
  some false) fun p68 =>
  Option.bind (appS 1 s7 ([p68] : List Bool)) fun x70 =>
  some (.inr (.inr (x70 : (List Bool))))
def s_l31Step (p0 : Circuit) (p1 : Int) (p2 : Int) : Option (Int × Int) :=
  Option.bind (rng p0.Inputs) fun _ =>
  Option.bind (cntM (s_l31Step_b0 p2) (Int.toNat (p0.Inputs - 0)) 0 (([false] : List Bool) : (List Bool))) fun q2 =>
  aft (fun r => some r) (fun s3 =>
    Option.bind (rng p0.Latches) fun _ =>
    Option.bind (cntM (s_l31Step_b2 p1) (Int.toNat (p0.Latches - 0)) 0 (s3 : (List Bool))) fun q5 =>
    aft (fun r => some r) (fun s6 =>
      Option.bind (cntM (s_l31Step_b4 p0) p0.Gates.length 0 (s6 : (List Bool))) fun q8 =>
      aft (fun r => some r) (fun s9 =>
        Option.bind (s_l31Number s9 p0.Next) fun x74 =>
        Option.bind (s_l31Number s9 p0.Outs) fun x78 =>
        some ((x74 : Int), (x78 : Int))) q8) q5) q2

/- loop.example/g00869/spec.CircuitMeets -/
def s_CircuitMeets_b2 (p0 : Sig) (p1 : Circuit) (p2 : Machine) (x41 : Int) (s4 : (List Int) × Int × (List Bool)) : Option (Bool ⊕ (((List Int) × Int × (List Bool)) ⊕ ((List Int) × Int × (List Bool)))) :=
  Option.bind (s_l31Pow p0.In) fun x48 =>
  bif decide (s4.2.1 < x48) then
    Option.bind (nz (p2.Next.length : Int)) fun _z56 =>
    Option.bind (s_l31Step p1 (IntKind.i64.wrap (Int.tdiv x41 (p2.Next.length : Int))) s4.2.1) fun x58 =>
    Option.bind (nz (p2.Next.length : Int)) fun _z66 =>
    Option.bind (idx p2.Out (Int.tmod x41 (p2.Next.length : Int))) fun x67 =>
    Option.bind (idx x67 s4.2.1) fun x70 =>
    bif (x58.2 != x70) then
      some (.inl (false : Bool))
    else
      Option.bind (nz (p2.Next.length : Int)) fun _z80 =>
      Option.bind (idx p2.Next (Int.tmod x41 (p2.Next.length : Int))) fun x81 =>
      Option.bind (idx x81 s4.2.1) fun x84 =>
      Option.bind (idx s4.2.2 (IntKind.i64.wrap ((IntKind.i64.wrap (x58.1 * (p2.Next.length : Int))) + x84))) fun x89 =>
      Option.bind (bif (!x89) then
        Option.bind (idx s4.2.2 (IntKind.i64.wrap ((IntKind.i64.wrap (x58.1 * (p2.Next.length : Int))) + x84))) fun x94 =>
        Option.bind (setI s4.2.2 (IntKind.i64.wrap ((IntKind.i64.wrap (x58.1 * (p2.Next.length : Int))) + x84)) true) fun y29 =>
        Option.bind (appS 8 s4.1 ([(IntKind.i64.wrap ((IntKind.i64.wrap (x58.1 * (p2.Next.length : Int))) + x84))] : List Int)) fun x98 =>
        some ((x98 : (List Int)), (y29 : (List Bool)))
      else
        some ((s4.1 : (List Int)), (s4.2.2 : (List Bool)))) fun q7 =>
      some (.inr (.inr ((q7.1 : (List Int)), ((IntKind.i64.wrap (s4.2.1 + 1)) : Int), (q7.2 : (List Bool)))))
  else
    some (.inr (.inl ((s4.1 : (List Int)), (s4.2.1 : Int), (s4.2.2 : (List Bool)))))
def s_CircuitMeets_b0 (p0 : Sig) (p1 : Circuit) (p2 : Machine) (s1 : (List Int) × (List Bool)) : Option (Bool ⊕ (((List Int) × (List Bool)) ⊕ ((List Int) × (List Bool)))) :=
  bif decide (0 < (s1.1.length : Int)) then
    Option.bind (idx s1.1 0) fun x41 =>
    Option.bind (subS s1.1 1 (s1.1.length : Int)) fun x44 =>
    Option.bind (whileM (s_CircuitMeets_b2 p0 p1 p2 x41) (2 ^ 64) ((x44 : (List Int)), (0 : Int), (s1.2 : (List Bool)))) fun q5 =>
    aft (fun r => some (.inl r)) (fun s6 =>
      some (.inr (.inr ((s6.1 : (List Int)), (s6.2.2 : (List Bool)))))) q5
  else
    some (.inr (.inl ((s1.1 : (List Int)), (s1.2 : (List Bool)))))
def s_CircuitMeets (p0 : Sig) (p1 : Circuit) (p2 : Machine) : Option (Bool) :=
  Option.bind (s_MachineOk p0 p2) fun x17 =>
  Option.bind (bif (!x17) then
  some true
  else
  Option.bind (s_l31Fits p0 p1) fun x22 =>
  some (!x22)) fun p24 =>
  bif p24 then
    some (false : Bool)
  else
    Option.bind (s_l31Pow p1.Latches) fun x31 =>
    Option.bind (mkS 1 (IntKind.i64.wrap ((p2.Next.length : Int) * x31)) (false : Bool)) fun x33 =>
    Option.bind (idx x33 0) fun x36 =>
    Option.bind (setI x33 0 true) fun y24 =>
    Option.bind (whileM (s_CircuitMeets_b0 p0 p1 p2) (2 ^ 64) ((([0] : List Int) : (List Int)), (y24 : (List Bool)))) fun q2 =>
    aft (fun r => some r) (fun s3 =>
      some (true : Bool)) q2

/- loop.example/g00869/impl.isCircuit -/
def i_isCircuit_b0 (p0 : Circuit) (v53 : Int) (s1 : Unit) : Option (Bool ⊕ ((Unit) ⊕ (Unit))) :=
  Option.bind (idx p0.Gates v53) fun x56 =>
  Option.bind (i_areLetters ([x56.A, x56.B] : List Int) (IntKind.i64.wrap (2 * (IntKind.i64.wrap ((IntKind.i64.wrap ((IntKind.i64.wrap (1 + p0.Inputs)) + p0.Latches)) + v53))))) fun x67 =>
  bif (!x67) then
    some (.inl (false : Bool))
  else
    some (.inr (.inr ()))
def i_isCircuit (p0 : Circuit) : Option (Bool) :=
  Option.bind (bif decide (p0.Inputs < 0) then
  some true
  else
  some (decide (4 < p0.Inputs))) fun p13 =>
  Option.bind (bif p13 then
  some true
  else
  some (decide (p0.Latches < 0))) fun p18 =>
  Option.bind (bif p18 then
  some true
  else
  some (decide (6 < p0.Latches))) fun p23 =>
  Option.bind (bif p23 then
  some true
  else
  some ((p0.Next.length : Int) != p0.Latches)) fun p31 =>
  Option.bind (bif p31 then
  some true
  else
  some (decide (8000 < (p0.Gates.length : Int)))) fun p37 =>
  Option.bind (bif p37 then
  some true
  else
  some (decide (4 < (p0.Outs.length : Int)))) fun p43 =>
  bif p43 then
    some (false : Bool)
  else
    Option.bind (cntM (i_isCircuit_b0 p0) p0.Gates.length 0 ()) fun q2 =>
    aft (fun r => some r) (fun s3 =>
      Option.bind (i_signalsOf p0) fun x73 =>
      Option.bind (i_areLetters p0.Next (IntKind.i64.wrap (2 * x73))) fun x75 =>
      Option.bind (bif x75 then
      Option.bind (i_signalsOf p0) fun x80 =>
      Option.bind (i_areLetters p0.Outs (IntKind.i64.wrap (2 * x80))) fun x82 =>
      some x82
      else
      some false) fun p83 =>
      some (p83 : Bool)) q2

/- loop.example/g00869/impl.stepOf$1 -/

def i_stepOf_1 (p0 : Int) (c0 : (List Int)) : Option (Int) :=
  Option.bind (idx c0 (IntKind.i64.wrap (Int.tdiv p0 2))) fun x7 =>
  some ((IntKind.i64.wrap (BitVec.toNat (BitVec.ofInt (IntKind.bits IntKind.i64) x7 ^^^ BitVec.ofInt (IntKind.bits IntKind.i64) (IntKind.i64.wrap (BitVec.toNat (BitVec.ofInt (IntKind.bits IntKind.i64) p0 &&& BitVec.ofInt (IntKind.bits IntKind.i64) 1)))))) : Int)

/- loop.example/g00869/impl.stepOf -/
def i_stepOf_b0 (p2 : Int) (v25 : Int) (s1 : (List Int)) : Option ((Int × Int) ⊕ (((List Int)) ⊕ ((List Int)))) :=
  Option.bind (nn v25) fun _z31 =>
  Option.bind (appS 8 s1 ([(IntKind.i64.wrap (BitVec.toNat (BitVec.ofInt (IntKind.bits IntKind.i64) (Int.fdiv p2 (2 ^ (min (Int.toNat v25) (IntKind.bits IntKind.i64)))) &&& BitVec.ofInt (IntKind.bits IntKind.i64) 1)))] : List Int)) fun x34 =>
  some (.inr (.inr (x34 : (List Int))))
def i_stepOf_b2 (p1 : Int) (v38 : Int) (s4 : (List Int)) : Option ((Int × Int) ⊕ (((List Int)) ⊕ ((List Int)))) :=
  Option.bind (nn v38) fun _z44 =>
  Option.bind (appS 8 s4 ([(IntKind.i64.wrap (BitVec.toNat (BitVec.ofInt (IntKind.bits IntKind.i64) (Int.fdiv p1 (2 ^ (min (Int.toNat v38) (IntKind.bits IntKind.i64)))) &&& BitVec.ofInt (IntKind.bits IntKind.i64) 1)))] : List Int)) fun x47 =>
  some (.inr (.inr (x47 : (List Int))))
def i_stepOf_b4 (p0 : Circuit) (v53 : Int) (s7 : (List Int)) : Option ((Int × Int) ⊕ (((List Int)) ⊕ ((List Int)))) :=
  Option.bind (idx p0.Gates v53) fun x55 =>
  Option.bind (i_stepOf_1 x55.A s7) fun x61 =>
  Option.bind (i_stepOf_1 x55.B s7) fun x65 =>
  Option.bind (appS 8 s7 ([(IntKind.i64.wrap (BitVec.toNat (BitVec.ofInt (IntKind.bits IntKind.i64) x61 &&& BitVec.ofInt (IntKind.bits IntKind.i64) x65)))] : List Int)) fun x68 =>
  some (.inr (.inr (x68 : (List Int))))
def i_stepOf_b6 (p0 : Circuit) (s9 : (List Int)) (v73 : Int) (s10 : Int) : Option ((Int × Int) ⊕ ((Int) ⊕ (Int))) :=
  Option.bind (idx p0.Next v73) fun x76 =>
  Option.bind (i_stepOf_1 x76 s9) fun x81 =>
  Option.bind (nn v73) fun _z83 =>
  some (.inr (.inr ((IntKind.i64.wrap (BitVec.toNat (BitVec.ofInt (IntKind.bits IntKind.i64) s10 ||| BitVec.ofInt (IntKind.bits IntKind.i64) (IntKind.i64.wrap (x81 * 2 ^ (min (Int.toNat v73) (IntKind.bits IntKind.i64))))))) : Int)))
def i_stepOf_b8 (p0 : Circuit) (s9 : (List Int)) (v89 : Int) (s13 : Int) : Option ((Int × Int) ⊕ ((Int) ⊕ (Int))) :=
  Option.bind (idx p0.Outs v89) fun x92 =>
  Option.bind (i_stepOf_1 x92 s9) fun x97 =>
  Option.bind (nn v89) fun _z99 =>
  some (.inr (.inr ((IntKind.i64.wrap (BitVec.toNat (BitVec.ofInt (IntKind.bits IntKind.i64) s13 ||| BitVec.ofInt (IntKind.bits IntKind.i64) (IntKind.i64.wrap (x97 * 2 ^ (min (Int.toNat v89) (IntKind.bits IntKind.i64))))))) : Int)))
def i_stepOf (p0 : Circuit) (p1 : Int) (p2 : Int) : Option (Int × Int) :=
  Option.bind (i_signalsOf p0) fun x21 =>
  Option.bind (mkC 8 1 x21 (0 : Int)) fun x22 =>
  Option.bind (rng p0.Inputs) fun _ =>
  Option.bind (cntM (i_stepOf_b0 p2) (Int.toNat (p0.Inputs - 0)) 0 (x22 : (List Int))) fun q2 =>
  aft (fun r => some r) (fun s3 =>
    Option.bind (rng p0.Latches) fun _ =>
    Option.bind (cntM (i_stepOf_b2 p1) (Int.toNat (p0.Latches - 0)) 0 (s3 : (List Int))) fun q5 =>
    aft (fun r => some r) (fun s6 =>
      Option.bind (cntM (i_stepOf_b4 p0) p0.Gates.length 0 (s6 : (List Int))) fun q8 =>
      aft (fun r => some r) (fun s9 =>
        Option.bind (cntM (i_stepOf_b6 p0 s9) p0.Next.length 0 (0 : Int)) fun q11 =>
        aft (fun r => some r) (fun s12 =>
          Option.bind (cntM (i_stepOf_b8 p0 s9) p0.Outs.length 0 (0 : Int)) fun q14 =>
          aft (fun r => some r) (fun s15 =>
            some ((s12 : Int), (s15 : Int))) q14) q11) q8) q5) q2

/- slices.Index[[][2]int64,[2]int64] -/
def slices_Index_2_int64_2_int64_b0 (p0 : (List (Int × Int))) (p1 : (Int × Int)) (v8 : Int) (s1 : Unit) : Option (Int ⊕ ((Unit) ⊕ (Unit))) :=
  Option.bind (idx p0 v8) fun x14 =>
  bif ((p1.1 == x14.1) && (p1.2 == x14.2)) then
    some (.inl (v8 : Int))
  else
    some (.inr (.inr ()))
def slices_Index_2_int64_2_int64 (p0 : (List (Int × Int))) (p1 : (Int × Int)) : Option (Int) :=
  Option.bind (cntM (slices_Index_2_int64_2_int64_b0 p0 p1) p0.length 0 ()) fun q2 =>
  aft (fun r => some r) (fun s3 =>
    some ((-1) : Int)) q2

/- slices.Contains[[][2]int64,[2]int64] -/

def slices_Contains_2_int64_2_int64 (p0 : (List (Int × Int))) (p1 : (Int × Int)) : Option (Bool) :=
  Option.bind (slices_Index_2_int64_2_int64 p0 p1) fun x7 =>
  some (decide (0 ≤ x7) : Bool)

/- loop.example/g00869/impl.CircuitMeets -/
def i_CircuitMeets_b2 (p1 : Circuit) (p2 : Machine) (s1 : (List (Int × Int)) × Int) (x58 : (List Int)) (v61 : Int) (s4 : (List (Int × Int))) : Option (Bool ⊕ (((List (Int × Int))) ⊕ ((List (Int × Int))))) :=
  Option.bind (idx x58 v61) fun x64 =>
  Option.bind (idx s4 s1.2) fun x70 =>
  Option.bind (i_stepOf p1 x70.1 v61) fun x74 =>
  Option.bind (idx s4 s1.2) fun x82 =>
  Option.bind (idx p2.Out x82.2) fun x85 =>
  Option.bind (idx x85 v61) fun x88 =>
  bif (x74.2 != x88) then
    some (.inl (false : Bool))
  else
    Option.bind (slices_Contains_2_int64_2_int64 s4 (x74.1, x64)) fun x96 =>
    Option.bind (bif (!x96) then
      Option.bind (appS 16 s4 ([(x74.1, x64)] : List (Int × Int))) fun x101 =>
      some (x101 : (List (Int × Int)))
    else
      some (s4 : (List (Int × Int)))) fun q7 =>
    some (.inr (.inr (q7 : (List (Int × Int)))))
def i_CircuitMeets_b0 (p1 : Circuit) (p2 : Machine) (s1 : (List (Int × Int)) × Int) : Option (Bool ⊕ (((List (Int × Int)) × Int) ⊕ ((List (Int × Int)) × Int))) :=
  bif decide (s1.2 < (s1.1.length : Int)) then
    Option.bind (idx s1.1 s1.2) fun x55 =>
    Option.bind (idx p2.Next x55.2) fun x58 =>
    Option.bind (cntM (i_CircuitMeets_b2 p1 p2 s1 x58) x58.length 0 (s1.1 : (List (Int × Int)))) fun q5 =>
    aft (fun r => some (.inl r)) (fun s6 =>
      some (.inr (.inr ((s6 : (List (Int × Int))), ((IntKind.i64.wrap (s1.2 + 1)) : Int))))) q5
  else
    some (.inr (.inl ((s1.1 : (List (Int × Int))), (s1.2 : Int))))
def i_CircuitMeets (p0 : Sig) (p1 : Circuit) (p2 : Machine) : Option (Bool) :=
  Option.bind (i_isSig p0) fun x15 =>
  Option.bind (bif (!x15) then
  some true
  else
  Option.bind (i_isMachine p0 p2) fun x20 =>
  some (!x20)) fun p22 =>
  Option.bind (bif p22 then
  some true
  else
  Option.bind (i_isCircuit p1) fun x25 =>
  some (!x25)) fun p27 =>
  Option.bind (bif p27 then
  some true
  else
  some (p1.Inputs != p0.In)) fun p34 =>
  Option.bind (bif p34 then
  some true
  else
  some ((p1.Outs.length : Int) != p0.Out)) fun p42 =>
  bif p42 then
    some (false : Bool)
  else
    Option.bind (whileM (i_CircuitMeets_b0 p1 p2) (2 ^ 64) ((([(0, 0)] : List (Int × Int)) : (List (Int × Int))), (0 : Int))) fun q2 =>
    aft (fun r => some r) (fun s3 =>
      some (true : Bool)) q2

/- slices.Index[[]int64,int64] -/
def slices_Index_I_int64_b0 (p0 : (List Int)) (p1 : Int) (v8 : Int) (s1 : Unit) : Option (Int ⊕ ((Unit) ⊕ (Unit))) :=
  Option.bind (idx p0 v8) fun x14 =>
  bif (p1 == x14) then
    some (.inl (v8 : Int))
  else
    some (.inr (.inr ()))
def slices_Index_I_int64 (p0 : (List Int)) (p1 : Int) : Option (Int) :=
  Option.bind (cntM (slices_Index_I_int64_b0 p0 p1) p0.length 0 ()) fun q2 =>
  aft (fun r => some r) (fun s3 =>
    some ((-1) : Int)) q2

/- loop.example/g00869/impl.CircuitMachine -/
def i_CircuitMachine_b2 (p1 : Circuit) (s1 : (List Int) × Int × (List (List Int)) × (List (List Int))) (v51 : Int) (s4 : (List Int) × (List Int) × (List Int)) : Option ((Machine × Bool) ⊕ (((List Int) × (List Int) × (List Int)) ⊕ ((List Int) × (List Int) × (List Int)))) :=
  Option.bind (idx s4.1 s1.2.1) fun x58 =>
  Option.bind (i_stepOf p1 x58 v51) fun x61 =>
  Option.bind (slices_Index_I_int64 s4.1 x61.1) fun x66 =>
  Option.bind (bif decide (x66 < 0) then
    Option.bind (appS 8 s4.1 ([x61.1] : List Int)) fun x74 =>
    some ((x74 : (List Int)), ((s4.1.length : Int) : Int))
  else
    some ((s4.1 : (List Int)), (x66 : Int))) fun q7 =>
  Option.bind (appS 8 s4.2.1 ([q7.2] : List Int)) fun x78 =>
  Option.bind (appS 8 s4.2.2 ([x61.2] : List Int)) fun x82 =>
  some (.inr (.inr ((q7.1 : (List Int)), (x78 : (List Int)), (x82 : (List Int)))))
def i_CircuitMachine_b0 (p0 : Sig) (p1 : Circuit) (s1 : (List Int) × Int × (List (List Int)) × (List (List Int))) : Option ((Machine × Bool) ⊕ (((List Int) × Int × (List (List Int)) × (List (List Int))) ⊕ ((List Int) × Int × (List (List Int)) × (List (List Int))))) :=
  bif decide (s1.2.1 < (s1.1.length : Int)) then
    Option.bind (i_inputsOf p0) fun x50 =>
    Option.bind (rng x50) fun _ =>
    Option.bind (cntM (i_CircuitMachine_b2 p1 s1) (Int.toNat (x50 - 0)) 0 ((s1.1 : (List Int)), (([] : List Int) : (List Int)), (([] : List Int) : (List Int)))) fun q5 =>
    aft (fun r => some (.inl r)) (fun s6 =>
      Option.bind (appS 24 s1.2.2.1 ([s6.2.1] : List (List Int))) fun x88 =>
      Option.bind (appS 24 s1.2.2.2 ([s6.2.2] : List (List Int))) fun x93 =>
      some (.inr (.inr ((s6.1 : (List Int)), ((IntKind.i64.wrap (s1.2.1 + 1)) : Int), (x88 : (List (List Int))), (x93 : (List (List Int))))))) q5
  else
    some (.inr (.inl ((s1.1 : (List Int)), (s1.2.1 : Int), (s1.2.2.1 : (List (List Int))), (s1.2.2.2 : (List (List Int))))))
def i_CircuitMachine (p0 : Sig) (p1 : Circuit) : Option (Machine × Bool) :=
  Option.bind (i_isSig p0) fun x16 =>
  Option.bind (bif (!x16) then
  some true
  else
  Option.bind (i_isCircuit p1) fun x20 =>
  some (!x20)) fun p22 =>
  Option.bind (bif p22 then
  some true
  else
  some (p1.Inputs != p0.In)) fun p29 =>
  Option.bind (bif p29 then
  some true
  else
  some ((p1.Outs.length : Int) != p0.Out)) fun p37 =>
  bif p37 then
    some (((⟨([] : List (List Int)), ([] : List (List Int))⟩ : Machine) : Machine), (false : Bool))
  else
    Option.bind (whileM (i_CircuitMachine_b0 p0 p1) (2 ^ 64) ((([0] : List Int) : (List Int)), (0 : Int), (([] : List (List Int)) : (List (List Int))), (([] : List (List Int)) : (List (List Int))))) fun q2 =>
    aft (fun r => some r) (fun s3 =>
      bif decide (48 < (s3.1.length : Int)) then
        some (((⟨([] : List (List Int)), ([] : List (List Int))⟩ : Machine) : Machine), (false : Bool))
      else
        some (((⟨s3.2.2.1, s3.2.2.2⟩ : Machine) : Machine), (true : Bool))) q2

/- loop.example/g00869/laws.roll -/
def l_roll_b0 (p0 : (List Int)) (v6 : Int) (s1 : Int) : Option (dice ⊕ ((Int) ⊕ (Int))) :=
  Option.bind (idx p0 v6) fun x30 =>
  some (.inr (.inr ((IntKind.u64.wrap ((IntKind.u64.wrap ((IntKind.u64.wrap (s1 * 1099511628211)) + (IntKind.u64.wrap x30))) + 3)) : Int)))
def l_roll (p0 : (List Int)) (p1 : Int) : Option (dice) :=
  Option.bind (cntM (l_roll_b0 p0) p0.length 0 ((IntKind.u64.wrap ((IntKind.u64.wrap (p1 * 7919)) + (IntKind.u64.wrap (p0.length : Int)))) : Int)) fun q2 =>
  aft (fun r => some r) (fun s3 =>
    some ((⟨p0, 0, s3⟩ : dice) : dice)) q2

/- (*loop.example/g00869/laws.dice).below -/

def l_dice_below (p0 : dice) (p1 : Int) : Option (Int × Int × Int) :=
  Option.bind (bif decide (p0.i < (p0.b.length : Int)) then
    Option.bind (idx p0.b p0.i) fun x41 =>
    some (((IntKind.i64.wrap ((IntKind.i64.wrap (IntKind.u64.wrap (BitVec.toNat (BitVec.ofInt (IntKind.bits IntKind.u64) (Int.fdiv (IntKind.u64.wrap ((IntKind.u64.wrap (p0.h * 6364136223846793005)) + 1442695040888963407)) (2 ^ (min (Int.toNat 33) (IntKind.bits IntKind.u64)))) &&& BitVec.ofInt (IntKind.bits IntKind.u64) 16777215)))) + (IntKind.i64.wrap x41))) : Int), ((IntKind.i64.wrap (p0.i + 1)) : Int))
  else
    some (((IntKind.i64.wrap (IntKind.u64.wrap (BitVec.toNat (BitVec.ofInt (IntKind.bits IntKind.u64) (Int.fdiv (IntKind.u64.wrap ((IntKind.u64.wrap (p0.h * 6364136223846793005)) + 1442695040888963407)) (2 ^ (min (Int.toNat 33) (IntKind.bits IntKind.u64)))) &&& BitVec.ofInt (IntKind.bits IntKind.u64) 16777215)))) : Int), (p0.i : Int))) fun q1 =>
  Option.bind (nz p1) fun _z55 =>
  some (((Int.tmod q1.1 p1) : Int), (q1.2 : Int), ((IntKind.u64.wrap ((IntKind.u64.wrap (p0.h * 6364136223846793005)) + 1442695040888963407)) : Int))

/- loop.example/g00869/impl.OutsOver -/
def i_OutsOver_b0 (p0 : Circuit) (p1 : (List Int)) (v30 : Int) (s1 : (List Int) × Int) : Option ((List Int) ⊕ (((List Int) × Int) ⊕ ((List Int) × Int))) :=
  Option.bind (idx p1 v30) fun x32 =>
  Option.bind (i_stepOf p0 s1.2 x32) fun x38 =>
  Option.bind (appS 8 s1.1 ([x38.2] : List Int)) fun x44 =>
  some (.inr (.inr ((x44 : (List Int)), (x38.1 : Int))))
def i_OutsOver (p0 : Circuit) (p1 : (List Int)) : Option ((List Int)) :=
  Option.bind (i_isCircuit p0) fun x12 =>
  Option.bind (bif (!x12) then
  some true
  else
  some (decide (64 < (p1.length : Int)))) fun p18 =>
  Option.bind (bif p18 then
  some true
  else
  Option.bind (nn p0.Inputs) fun _z23 =>
  Option.bind (i_areLetters p1 (IntKind.i64.wrap (1 * 2 ^ (min (Int.toNat p0.Inputs) (IntKind.bits IntKind.i64))))) fun x24 =>
  some (!x24)) fun p26 =>
  bif p26 then
    some (([] : List Int) : (List Int))
  else
    Option.bind (cntM (i_OutsOver_b0 p0 p1) p1.length 0 ((([] : List Int) : (List Int)), (0 : Int))) fun q2 =>
    aft (fun r => some r) (fun s3 =>
      some (s3.1 : (List Int))) q2

/- loop.example/g00869/laws.FnCircuit -/
def l_FnCircuit_b0 (x78 : dice) (s1 : (List Int) × Int × Int × Int) : Option (Bool ⊕ (((List Int) × Int × Int × Int) ⊕ ((List Int) × Int × Int × Int))) :=
  bif decide (0 < s1.2.1) then
    Option.bind (l_dice_below (⟨x78.b, s1.2.2.1, s1.2.2.2⟩ : dice) 2) fun x88 =>
    Option.bind (appS 8 s1.1 ([x88.1] : List Int)) fun x90 =>
    some (.inr (.inr ((x90 : (List Int)), ((IntKind.i64.wrap (s1.2.1 - 1)) : Int), (x88.2.1 : Int), (x88.2.2 : Int))))
  else
    some (.inr (.inl ((s1.1 : (List Int)), (s1.2.1 : Int), (s1.2.2.1 : Int), (s1.2.2.2 : Int))))
def l_FnCircuit_b2 (x19 : Sig × Machine) (s3 : (List Int) × Int × Int × Int) (x93 : (List Int)) (v14 : Int) (s4 : Int) : Option (Bool ⊕ ((Int) ⊕ (Int))) :=
  Option.bind (idx x93 v14) fun x107 =>
  Option.bind (idx s3.1 v14) fun x116 =>
  Option.bind (idx x19.2.Out s4) fun x112 =>
  Option.bind (idx x112 x116) fun x118 =>
  bif (x107 != x118) then
    some (.inl (false : Bool))
  else
    Option.bind (idx s3.1 v14) fun x128 =>
    Option.bind (idx x19.2.Next s4) fun x124 =>
    Option.bind (idx x124 x128) fun x130 =>
    some (.inr (.inr (x130 : Int)))
def l_FnCircuit (p0 : (List Int)) : Option (Bool) :=
  Option.bind (l_big p0) fun x16 =>
  bif x16 then
    some (true : Bool)
  else
    Option.bind (s_DrawCircuitOf p0) fun x19 =>
    Option.bind (i_CircuitOf x19.1 x19.2) fun x25 =>
    Option.bind (s_MachineOk x19.1 x19.2) fun x31 =>
    bif (x25.2 != x31) then
      some (false : Bool)
    else
      bif (!x25.2) then
        some (((x25.1.Outs.length : Int) == 0) : Bool)
      else
        Option.bind (s_CircuitOk x25.1) fun x40 =>
        Option.bind (bif (!x40) then
        some true
        else
        Option.bind (s_CircuitMeets x19.1 x25.1 x19.2) fun x46 =>
        some (!x46)) fun p48 =>
        Option.bind (bif p48 then
        some true
        else
        Option.bind (i_CircuitMeets x19.1 x25.1 x19.2) fun x53 =>
        some (!x53)) fun p55 =>
        bif p55 then
          some (false : Bool)
        else
          Option.bind (i_CircuitMachine x19.1 x25.1) fun x59 =>
          Option.bind (bif (!x59.2) then
          some true
          else
          Option.bind (s_MachineOk x19.1 x59.1) fun x67 =>
          some (!x67)) fun p69 =>
          Option.bind (bif p69 then
          some true
          else
          Option.bind (i_CircuitMeets x19.1 x25.1 x59.1) fun x74 =>
          some (!x74)) fun p76 =>
          bif p76 then
            some (false : Bool)
          else
            Option.bind (l_roll p0 35) fun x78 =>
            Option.bind (l_dice_below x78 10) fun x81 =>
            Option.bind (whileM (l_FnCircuit_b0 x78) (2 ^ 64) ((([] : List Int) : (List Int)), (x81.1 : Int), (x81.2.1 : Int), (x81.2.2 : Int))) fun q2 =>
            aft (fun r => some r) (fun s3 =>
              Option.bind (i_OutsOver x25.1 s3.1) fun x93 =>
              bif ((x93.length : Int) != (s3.1.length : Int)) then
                some (false : Bool)
              else
                Option.bind (cntM (l_FnCircuit_b2 x19 s3 x93) s3.1.length 0 (0 : Int)) fun q5 =>
                aft (fun r => some r) (fun s6 =>
                  some (true : Bool)) q5) q2

/- loop.example/g00869/spec.l1Max -/

def s_l1Max (p0 : Int) (p1 : Int) : Option (Int) :=
  bif decide (p1 < p0) then
    some (p0 : Int)
  else
    some (p1 : Int)

/- loop.example/g00869/spec.l31Turn -/

def s_l31Turn (p0 : Int) : Option (Int) :=
  bif ((Int.tmod p0 2) == 1) then
    some ((IntKind.i64.wrap (p0 - 1)) : Int)
  else
    some ((IntKind.i64.wrap (p0 + 1)) : Int)

/- loop.example/g00869/spec.l31Join -/
def s_l31Join_b1 (p0 : Circuit) (x41 : Int) (x44 : Int) (v9 : Int) (s1 : Unit) : Option ((Circuit × Int) ⊕ ((Unit) ⊕ (Unit))) :=
  Option.bind (idx p0.Gates v9) fun x56 =>
  Option.bind (bif ((x56.A == x41) && (x56.B == x44)) then
  some true
  else
  Option.bind (idx p0.Gates v9) fun x64 =>
  Option.bind (bif (x64.A == x44) then
  Option.bind (idx p0.Gates v9) fun x74 =>
  some (x74.B == x41)
  else
  some false) fun p80 =>
  some p80) fun p81 =>
  bif p81 then
    some (.inl ((p0 : Circuit), ((IntKind.i64.wrap (2 * (IntKind.i64.wrap ((IntKind.i64.wrap ((IntKind.i64.wrap (1 + p0.Inputs)) + p0.Latches)) + v9)))) : Int)))
  else
    some (.inr (.inr ()))
def s_l31Join (p0 : Circuit) (p1 : Int) (p2 : Int) : Option (Circuit × Int) :=
  Option.bind (bif (p1 == 0) then
  some true
  else
  some (p2 == 0)) fun p16 =>
  Option.bind (bif p16 then
  some true
  else
  Option.bind (s_l31Turn p2) fun x20 =>
  some (p1 == x20)) fun p22 =>
  bif p22 then
    some ((p0 : Circuit), (0 : Int))
  else
    bif (p1 == 1) then
      some ((p0 : Circuit), (p2 : Int))
    else
      Option.bind (bif (p2 == 1) then
      some true
      else
      some (p1 == p2)) fun p36 =>
      bif p36 then
        some ((p0 : Circuit), (p1 : Int))
      else
        Option.bind (s_l1Min p1 p2) fun x41 =>
        Option.bind (s_l1Max p1 p2) fun x44 =>
        Option.bind (cntM (s_l31Join_b1 p0 x41 x44) p0.Gates.length 0 ()) fun q2 =>
        aft (fun r => some r) (fun s3 =>
          bif decide (8000 ≤ (p0.Gates.length : Int)) then
            some (((⟨0, 0, ([] : List Int), ([] : List Gate), ([] : List Int)⟩ : Circuit) : Circuit), ((-1) : Int))
          else
            Option.bind (appS 16 p0.Gates ([(⟨x41, x44⟩ : Gate)] : List Gate)) fun x101 =>
            Option.bind (s_l31Signals (⟨p0.Inputs, p0.Latches, p0.Next, x101, p0.Outs⟩ : Circuit)) fun x105 =>
            some (((⟨p0.Inputs, p0.Latches, p0.Next, x101, p0.Outs⟩ : Circuit) : Circuit), ((IntKind.i64.wrap (2 * (IntKind.i64.wrap (x105 - 1)))) : Int))) q2

/- loop.example/g00869/spec.l31Choose -/

def s_l31Choose (p0 : Circuit) (p1 : Int) (p2 : Int) (p3 : Int) : Option (Circuit × Int) :=
  bif (p2 == p3) then
    some ((p0 : Circuit), (p2 : Int))
  else
    Option.bind (s_l31Join p0 p1 p2) fun x22 =>
    bif decide (x22.2 < 0) then
      some (((⟨0, 0, ([] : List Int), ([] : List Gate), ([] : List Int)⟩ : Circuit) : Circuit), ((-1) : Int))
    else
      Option.bind (s_l31Turn p1) fun x31 =>
      Option.bind (s_l31Join x22.1 x31 p3) fun x33 =>
      bif decide (x33.2 < 0) then
        some (((⟨0, 0, ([] : List Int), ([] : List Gate), ([] : List Int)⟩ : Circuit) : Circuit), ((-1) : Int))
      else
        Option.bind (s_l31Turn x22.2) fun x42 =>
        Option.bind (s_l31Turn x33.2) fun x44 =>
        Option.bind (s_l31Join x33.1 x42 x44) fun x45 =>
        bif decide (x45.2 < 0) then
          some (((⟨0, 0, ([] : List Int), ([] : List Gate), ([] : List Int)⟩ : Circuit) : Circuit), ((-1) : Int))
        else
          Option.bind (s_l31Turn x45.2) fun x53 =>
          some ((x45.1 : Circuit), (x53 : Int))

end Go.Proofs.Ythjkonkcdfdfaaa
