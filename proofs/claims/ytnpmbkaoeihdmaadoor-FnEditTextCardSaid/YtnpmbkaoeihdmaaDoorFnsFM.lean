/- The functions on data. By program. -/
import Derived.Test.YtnpmbkaoeihdmaaDoorTypes
set_option linter.unusedVariables false
set_option linter.unusedSimpArgs false
namespace Go.Proofs.YtnpmbkaoeihdmaaDoor
open Go Go.Wk Go.Proofs
set_option maxRecDepth 100000
set_option maxHeartbeats 1000000

/- loop.example/g00869/laws.big -/

def l_big (p0 : (List Int)) : Option (Bool) :=
  some (decide (4096 < (p0.length : Int)) : Bool)

/- loop.example/g00869/spec.l1New -/
def s_l1New_b0 (p0 : (List Int)) (v4 : Int) (s1 : Int) : Option (l1Cur ⊕ ((Int) ⊕ (Int))) :=
  Option.bind (idx p0 v4) fun x18 =>
  some (.inr (.inr ((IntKind.i64.wrap (BitVec.toNat (BitVec.ofInt (IntKind.bits IntKind.i64) (IntKind.i64.wrap ((IntKind.i64.wrap ((IntKind.i64.wrap (s1 * 313)) + (IntKind.i64.wrap x18))) + 11)) &&& BitVec.ofInt (IntKind.bits IntKind.i64) 1073741823))) : Int)))
def s_l1New (p0 : (List Int)) : Option (l1Cur) :=
  Option.bind (cntM (s_l1New_b0 p0) p0.length 0 ((IntKind.i64.wrap (560017 + (p0.length : Int))) : Int)) fun q2 =>
  aft (fun r => some r) (fun s3 =>
    some ((⟨p0, 0, s3⟩ : l1Cur) : l1Cur)) q2

/- loop.example/g00869/spec.l1Byte -/

def s_l1Byte (p0 : l1Cur) : Option (Int × Int × Int) :=
  Option.bind (bif decide (p0.i < (p0.b.length : Int)) then
    Option.bind (idx p0.b p0.i) fun x44 =>
    some (((IntKind.i64.wrap (BitVec.toNat (BitVec.ofInt (IntKind.bits IntKind.i64) (IntKind.i64.wrap ((IntKind.i64.wrap (BitVec.toNat (BitVec.ofInt (IntKind.bits IntKind.i64) (IntKind.i64.wrap (BitVec.toNat (BitVec.ofInt (IntKind.bits IntKind.i64) (Int.fdiv (IntKind.i64.wrap ((IntKind.i64.wrap (p0.h * 6364136223846793005)) + 1442695040888963407)) (2 ^ (min (Int.toNat 33) (IntKind.bits IntKind.i64)))) ^^^ BitVec.ofInt (IntKind.bits IntKind.i64) (Int.fdiv (IntKind.i64.wrap ((IntKind.i64.wrap (p0.h * 6364136223846793005)) + 1442695040888963407)) (2 ^ (min (Int.toNat 45) (IntKind.bits IntKind.i64))))))) &&& BitVec.ofInt (IntKind.bits IntKind.i64) 255))) + (IntKind.i64.wrap x44))) &&& BitVec.ofInt (IntKind.bits IntKind.i64) 255))) : Int), ((IntKind.i64.wrap (p0.i + 1)) : Int))
  else
    some (((IntKind.i64.wrap (BitVec.toNat (BitVec.ofInt (IntKind.bits IntKind.i64) (IntKind.i64.wrap (BitVec.toNat (BitVec.ofInt (IntKind.bits IntKind.i64) (Int.fdiv (IntKind.i64.wrap ((IntKind.i64.wrap (p0.h * 6364136223846793005)) + 1442695040888963407)) (2 ^ (min (Int.toNat 33) (IntKind.bits IntKind.i64)))) ^^^ BitVec.ofInt (IntKind.bits IntKind.i64) (Int.fdiv (IntKind.i64.wrap ((IntKind.i64.wrap (p0.h * 6364136223846793005)) + 1442695040888963407)) (2 ^ (min (Int.toNat 45) (IntKind.bits IntKind.i64))))))) &&& BitVec.ofInt (IntKind.bits IntKind.i64) 255))) : Int), (p0.i : Int))) fun q1 =>
  some ((q1.1 : Int), (q1.2 : Int), ((IntKind.i64.wrap ((IntKind.i64.wrap (p0.h * 6364136223846793005)) + 1442695040888963407)) : Int))

/- loop.example/g00869/spec.l1Below -/

def s_l1Below (p0 : l1Cur) (p1 : Int) : Option (Int × Int × Int) :=
  bif decide (p1 ≤ 0) then
    some ((0 : Int), (p0.i : Int), (p0.h : Int))
  else
    bif decide (p1 ≤ 256) then
      Option.bind (s_l1Byte p0) fun x14 =>
      Option.bind (nz p1) fun _z16 =>
      some (((Int.tmod x14.1 p1) : Int), (x14.2.1 : Int), (x14.2.2 : Int))
    else
      Option.bind (s_l1Byte p0) fun x18 =>
      Option.bind (s_l1Byte (⟨p0.b, x18.2.1, x18.2.2⟩ : l1Cur)) fun x20 =>
      Option.bind (s_l1Byte (⟨p0.b, x20.2.1, x20.2.2⟩ : l1Cur)) fun x22 =>
      Option.bind (s_l1Byte (⟨p0.b, x22.2.1, x22.2.2⟩ : l1Cur)) fun x24 =>
      Option.bind (nz p1) fun _z36 =>
      some (((Int.tmod (IntKind.i64.wrap ((IntKind.i64.wrap ((IntKind.i64.wrap ((IntKind.i64.wrap (x18.1 * 16777216)) + (IntKind.i64.wrap (x20.1 * 65536)))) + (IntKind.i64.wrap (x22.1 * 256)))) + x24.1)) p1) : Int), (x24.2.1 : Int), (x24.2.2 : Int))

/- loop.example/g00869/spec.l1Copy -/

def s_l1Copy (p0 : (List Int)) : Option ((List Int)) :=
  Option.bind (appS 8 ([] : List Int) p0) fun x5 =>
  some (x5 : (List Int))

/- loop.example/g00869/spec.l1Once -/

def s_l1Once (p0 : l1Cur) (p1 : Int) : Option (Bool × Int × Int) :=
  Option.bind (s_l1Below p0 p1) fun x7 =>
  some (((x7.1 == 0) : Bool), (x7.2.1 : Int), (x7.2.2 : Int))

/- loop.example/g00869/spec.l1Odd -/

def s_l1Odd (p0 : l1Cur) : Option (Int × Int × Int) :=
  Option.bind (s_l1Below p0 10) fun x5 =>
  Option.bind (idx ([(-1), 0, 1, 2147483648, (-2147483648), 1099511627776, 4611686018427387904, (-4611686018427387904), 9223372036854775807, (-9223372036854775808)] : List Int) x5.1) fun x6 =>
  some ((x6 : Int), (x5.2.1 : Int), (x5.2.2 : Int))

/- loop.example/g00869/spec.l1Min -/

def s_l1Min (p0 : Int) (p1 : Int) : Option (Int) :=
  bif decide (p0 < p1) then
    some (p0 : Int)
  else
    some (p1 : Int)

/- loop.example/g00869/spec.l1Num -/

def s_l1Num (p0 : l1Cur) (p1 : Int) : Option (Int × Int × Int) :=
  Option.bind (s_l1Once p0 10) fun x6 =>
  bif x6.1 then
    Option.bind (s_l1Odd (⟨p0.b, x6.2.1, x6.2.2⟩ : l1Cur)) fun x11 =>
    Option.bind (s_l1Below (⟨p0.b, x11.2.1, x11.2.2⟩ : l1Cur) 4) fun x14 =>
    Option.bind (idx ([(-1), p1, (IntKind.i64.wrap (p1 + 1)), x11.1] : List Int) x14.1) fun x15 =>
    some ((x15 : Int), (x14.2.1 : Int), (x14.2.2 : Int))
  else
    Option.bind (s_l1Once (⟨p0.b, x6.2.1, x6.2.2⟩ : l1Cur) 2) fun x18 =>
    bif x18.1 then
      Option.bind (s_l1Min p1 4) fun x21 =>
      Option.bind (s_l1Below (⟨p0.b, x18.2.1, x18.2.2⟩ : l1Cur) (IntKind.i64.wrap (x21 + 1))) fun x23 =>
      some ((x23.1 : Int), (x23.2.1 : Int), (x23.2.2 : Int))
    else
      Option.bind (s_l1Below (⟨p0.b, x18.2.1, x18.2.2⟩ : l1Cur) (IntKind.i64.wrap (p1 + 1))) fun x27 =>
      some ((x27.1 : Int), (x27.2.1 : Int), (x27.2.2 : Int))

/- loop.example/g00869/spec.l1From -/

def s_l1From (p0 : l1Cur) (p1 : Int) (p2 : Int) : Option (Int × Int × Int) :=
  Option.bind (s_l1Below p0 (IntKind.i64.wrap ((IntKind.i64.wrap (p2 - p1)) + 1))) fun x13 =>
  some (((IntKind.i64.wrap (p1 + x13.1)) : Int), (x13.2.1 : Int), (x13.2.2 : Int))

/- loop.example/g00869/spec.l1Into -/
def s_l1Into_b0 (p0 : (List Int)) (p1 : Int) (s1 : Int) : Option ((List Int) ⊕ ((Int) ⊕ (Int))) :=
  Option.bind (bif decide (s1 < (p0.length : Int)) then
  Option.bind (idx p0 s1) fun x14 =>
  some (decide (x14 < p1))
  else
  some false) fun p18 =>
  bif p18 then
    some (.inr (.inr ((IntKind.i64.wrap (s1 + 1)) : Int)))
  else
    some (.inr (.inl (s1 : Int)))
def s_l1Into (p0 : (List Int)) (p1 : Int) : Option ((List Int)) :=
  Option.bind (whileM (s_l1Into_b0 p0 p1) (2 ^ 64) (0 : Int)) fun q2 =>
  aft (fun r => some r) (fun s3 =>
    Option.bind (bif decide (s3 < (p0.length : Int)) then
    Option.bind (idx p0 s3) fun x28 =>
    some (x28 == p1)
    else
    some false) fun p32 =>
    bif p32 then
      some (p0 : (List Int))
    else
      Option.bind (subS p0 0 s3) fun x36 =>
      Option.bind (s_l1Copy x36) fun x37 =>
      Option.bind (appS 8 x37 ([p1] : List Int)) fun x40 =>
      Option.bind (subS p0 s3 (p0.length : Int)) fun x44 =>
      Option.bind (appS 8 x40 x44) fun x45 =>
      some (x45 : (List Int))) q2

/- loop.example/g00869/spec.l1Draw -/
def s_l1Draw_b2 (p0 : l1Cur) (x9 : Int × Int × Int) (s4 : (List Int) × Int × Int × Int) : Option ((Arena × Int × Int) ⊕ (((List Int) × Int × Int × Int) ⊕ ((List Int) × Int × Int × Int))) :=
  bif decide (0 < s4.2.1) then
    Option.bind (s_l1Below (⟨p0.b, s4.2.2.1, s4.2.2.2⟩ : l1Cur) (IntKind.i64.wrap (1 + x9.1))) fun x28 =>
    Option.bind (s_l1Into s4.1 x28.1) fun x29 =>
    some (.inr (.inr ((x29 : (List Int)), ((IntKind.i64.wrap (s4.2.1 - 1)) : Int), (x28.2.1 : Int), (x28.2.2 : Int))))
  else
    some (.inr (.inl ((s4.1 : (List Int)), (s4.2.1 : Int), (s4.2.2.1 : Int), (s4.2.2.2 : Int))))
def s_l1Draw_b0 (p0 : l1Cur) (x9 : Int × Int × Int) (v5 : Int) (s1 : Int × Int × (List Int) × (List (List Int))) : Option ((Arena × Int × Int) ⊕ ((Int × Int × (List Int) × (List (List Int))) ⊕ (Int × Int × (List Int) × (List (List Int))))) :=
  Option.bind (s_l1Below (⟨p0.b, s1.1, s1.2.1⟩ : l1Cur) 3) fun x19 =>
  Option.bind (whileM (s_l1Draw_b2 p0 x9) (2 ^ 64) ((([] : List Int) : (List Int)), ((IntKind.i64.wrap (1 + x19.1)) : Int), (x19.2.1 : Int), (x19.2.2 : Int))) fun q5 =>
  aft (fun r => some (.inl r)) (fun s6 =>
    Option.bind (s_l1Below (⟨p0.b, s6.2.2.1, s6.2.2.2⟩ : l1Cur) 2) fun x33 =>
    Option.bind (appS 8 s1.2.2.1 ([x33.1] : List Int)) fun x35 =>
    Option.bind (appS 24 s1.2.2.2 ([s6.1] : List (List Int))) fun x41 =>
    some (.inr (.inr ((x33.2.1 : Int), (x33.2.2 : Int), (x35 : (List Int)), (x41 : (List (List Int))))))) q5
def s_l1Draw (p0 : l1Cur) : Option (Arena × Int × Int) :=
  Option.bind (s_l1Below p0 8) fun x9 =>
  Option.bind (rng (IntKind.i64.wrap (1 + x9.1))) fun _ =>
  Option.bind (cntM (s_l1Draw_b0 p0 x9) (Int.toNat ((IntKind.i64.wrap (1 + x9.1)) - 0)) 0 ((x9.2.1 : Int), (x9.2.2 : Int), (([] : List Int) : (List Int)), (([] : List (List Int)) : (List (List Int))))) fun q2 =>
  aft (fun r => some r) (fun s3 =>
    some (((⟨s3.2.2.1, s3.2.2.2⟩ : Arena) : Arena), (s3.1 : Int), (s3.2.1 : Int))) q2

/- loop.example/g00869/spec.l1DrawAny -/
def s_l1DrawAny_b1 (p0 : l1Cur) (s7 : Int × Int × Int × (List Int) × (List (List Int))) : Option ((Arena × Int × Int) ⊕ ((Int × Int × Int × (List Int) × (List (List Int))) ⊕ (Int × Int × Int × (List Int) × (List (List Int))))) :=
  Option.bind (s_l1Below (⟨p0.b, s7.2.1, s7.2.2.1⟩ : l1Cur) 2) fun x59 =>
  bif decide (s7.1 < (IntKind.i64.wrap (256 + x59.1))) then
    Option.bind (appS 8 s7.2.2.2.1 ([(Int.tmod s7.1 2)] : List Int)) fun x69 =>
    Option.bind (appS 24 s7.2.2.2.2 ([([(IntKind.i64.wrap (Int.tdiv s7.1 2))] : List Int)] : List (List Int))) fun x77 =>
    some (.inr (.inr (((IntKind.i64.wrap (s7.1 + 1)) : Int), (x59.2.1 : Int), (x59.2.2 : Int), (x69 : (List Int)), (x77 : (List (List Int))))))
  else
    some (.inr (.inl ((s7.1 : Int), (x59.2.1 : Int), (x59.2.2 : Int), (s7.2.2.2.1 : (List Int)), (s7.2.2.2.2 : (List (List Int))))))
def s_l1DrawAny (p0 : l1Cur) : Option (Arena × Int × Int) :=
  Option.bind (s_l1Draw p0) fun x7 =>
  Option.bind (s_l1Once (⟨p0.b, x7.2.1, x7.2.2⟩ : l1Cur) 6) fun x9 =>
  Option.bind (bif x9.1 then
    Option.bind (s_l1Below (⟨p0.b, x9.2.1, x9.2.2⟩ : l1Cur) (x7.1.Owner.length : Int)) fun x14 =>
    Option.bind (s_l1Below (⟨p0.b, x14.2.1, x14.2.2⟩ : l1Cur) 6) fun x16 =>
    Option.bind (bif (x16.1 == 0) then
      Option.bind (s_l1From (⟨p0.b, x16.2.1, x16.2.2⟩ : l1Cur) (-1) 2) fun x23 =>
      Option.bind (idx x7.1.Owner x14.1) fun x24 =>
      Option.bind (setI x7.1.Owner x14.1 x23.1) fun y10 =>
      some ((x23.2.1 : Int), (x23.2.2 : Int), (y10 : (List Int)), (x7.1.Next : (List (List Int))))
    else
      Option.bind (bif (x16.1 == 1) then
        Option.bind (idx x7.1.Next x14.1) fun x33 =>
        Option.bind (s_l1Num (⟨p0.b, x16.2.1, x16.2.2⟩ : l1Cur) 256) fun x36 =>
        Option.bind (appS 8 x33 ([x36.1] : List Int)) fun x38 =>
        Option.bind (idx x7.1.Next x14.1) fun x39 =>
        Option.bind (setI x7.1.Next x14.1 (x38 : (List Int))) fun y12 =>
        some ((x36.2.1 : Int), (x36.2.2 : Int), (x7.1.Owner : (List Int)), (y12 : (List (List Int))))
      else
        Option.bind (bif (x16.1 == 2) then
          Option.bind (idx x7.1.Next x14.1) fun x46 =>
          Option.bind (setI x7.1.Next x14.1 (([] : List Int) : (List Int))) fun y14 =>
          some ((x16.2.1 : Int), (x16.2.2 : Int), (x7.1.Owner : (List Int)), (y14 : (List (List Int))))
        else
          Option.bind (bif (x16.1 == 3) then
            Option.bind (appS 8 x7.1.Owner ([0] : List Int)) fun x52 =>
            some ((x16.2.1 : Int), (x16.2.2 : Int), (x52 : (List Int)), (x7.1.Next : (List (List Int))))
          else
            Option.bind (bif (x16.1 == 4) then
              Option.bind (whileM (s_l1DrawAny_b1 p0) (2 ^ 64) ((0 : Int), (x16.2.1 : Int), (x16.2.2 : Int), (([] : List Int) : (List Int)), (([] : List (List Int)) : (List (List Int))))) fun q8 =>
              aft (fun r => none) (fun s9 =>
                some ((s9.2.1 : Int), (s9.2.2.1 : Int), (s9.2.2.2.1 : (List Int)), (s9.2.2.2.2 : (List (List Int))))) q8
            else
              Option.bind (bif (x16.1 == 5) then
                Option.bind (mkS 8 17 (0 : Int)) fun x84 =>
                Option.bind (idx x7.1.Next x14.1) fun x85 =>
                Option.bind (setI x7.1.Next x14.1 (x84 : (List Int))) fun y20 =>
                some (y20 : (List (List Int)))
              else
                some (x7.1.Next : (List (List Int)))) fun q10 =>
              some ((x16.2.1 : Int), (x16.2.2 : Int), (x7.1.Owner : (List Int)), (q10 : (List (List Int))))) fun q6 =>
            some ((q6.1 : Int), (q6.2.1 : Int), (q6.2.2.1 : (List Int)), (q6.2.2.2 : (List (List Int))))) fun q5 =>
          some ((q5.1 : Int), (q5.2.1 : Int), (q5.2.2.1 : (List Int)), (q5.2.2.2 : (List (List Int))))) fun q4 =>
        some ((q4.1 : Int), (q4.2.1 : Int), (q4.2.2.1 : (List Int)), (q4.2.2.2 : (List (List Int))))) fun q3 =>
      some ((q3.1 : Int), (q3.2.1 : Int), (q3.2.2.1 : (List Int)), (q3.2.2.2 : (List (List Int))))) fun q2 =>
    some ((q2.1 : Int), (q2.2.1 : Int), (q2.2.2.1 : (List Int)), (q2.2.2.2 : (List (List Int))))
  else
    some ((x9.2.1 : Int), (x9.2.2 : Int), (x7.1.Owner : (List Int)), (x7.1.Next : (List (List Int))))) fun q1 =>
  some (((⟨q1.2.2.1, q1.2.2.2⟩ : Arena) : Arena), (q1.1 : Int), (q1.2.1 : Int))

/- loop.example/g00869/spec.l4Draw -/
def s_l4Draw_b0 (p0 : l1Cur) (x10 : Int × Int × Int) (v5 : Int) (s1 : Int × Int × (List Int)) : Option ((Parity × Int × Int) ⊕ ((Int × Int × (List Int)) ⊕ (Int × Int × (List Int)))) :=
  Option.bind (s_l1Below (⟨p0.b, s1.1, s1.2.1⟩ : l1Cur) (IntKind.i64.wrap (3 + x10.1))) fun x24 =>
  Option.bind (appS 8 s1.2.2 ([x24.1] : List Int)) fun x26 =>
  some (.inr (.inr ((x24.2.1 : Int), (x24.2.2 : Int), (x26 : (List Int)))))
def s_l4Draw (p0 : l1Cur) : Option (Parity × Int × Int) :=
  Option.bind (s_l1Draw p0) fun x7 =>
  Option.bind (s_l1Below (⟨p0.b, x7.2.1, x7.2.2⟩ : l1Cur) 4) fun x10 =>
  Option.bind (cntM (s_l4Draw_b0 p0 x10) x7.1.Owner.length 0 ((x10.2.1 : Int), (x10.2.2 : Int), (([] : List Int) : (List Int)))) fun q2 =>
  aft (fun r => some r) (fun s3 =>
    some (((⟨x7.1, s3.2.2⟩ : Parity) : Parity), (s3.1 : Int), (s3.2.1 : Int))) q2

/- loop.example/g00869/spec.l4DrawAny -/

def s_l4DrawAny (p0 : l1Cur) : Option (Parity × Int × Int) :=
  Option.bind (s_l4Draw p0) fun x5 =>
  Option.bind (s_l1Once (⟨p0.b, x5.2.1, x5.2.2⟩ : l1Cur) 8) fun x7 =>
  Option.bind (bif x7.1 then
    Option.bind (s_l1Below (⟨p0.b, x7.2.1, x7.2.2⟩ : l1Cur) 3) fun x9 =>
    Option.bind (bif (x9.1 == 0) then
      Option.bind (s_l1Num (⟨p0.b, x9.2.1, x9.2.2⟩ : l1Cur) 40) fun x15 =>
      Option.bind (idx x5.1.Prio 0) fun x16 =>
      Option.bind (setI x5.1.Prio 0 x15.1) fun y8 =>
      some ((x15.2.1 : Int), (x15.2.2 : Int), (x5.1.Arena.Owner : (List Int)), (x5.1.Arena.Next : (List (List Int))), (y8 : (List Int)))
    else
      Option.bind (bif (x9.1 == 1) then
        Option.bind (appS 8 x5.1.Prio ([1] : List Int)) fun x22 =>
        some ((x9.2.1 : Int), (x9.2.2 : Int), (x5.1.Arena.Owner : (List Int)), (x5.1.Arena.Next : (List (List Int))), (x22 : (List Int)))
      else
        Option.bind (bif (x9.1 == 2) then
          Option.bind (s_l1DrawAny (⟨p0.b, x9.2.1, x9.2.2⟩ : l1Cur)) fun x27 =>
          some ((x27.2.1 : Int), (x27.2.2 : Int), (x27.1.Owner : (List Int)), (x27.1.Next : (List (List Int))))
        else
          some ((x9.2.1 : Int), (x9.2.2 : Int), (x5.1.Arena.Owner : (List Int)), (x5.1.Arena.Next : (List (List Int))))) fun q4 =>
        some ((q4.1 : Int), (q4.2.1 : Int), (q4.2.2.1 : (List Int)), (q4.2.2.2 : (List (List Int))), (x5.1.Prio : (List Int)))) fun q3 =>
      some ((q3.1 : Int), (q3.2.1 : Int), (q3.2.2.1 : (List Int)), (q3.2.2.2.1 : (List (List Int))), (q3.2.2.2.2 : (List Int)))) fun q2 =>
    some ((q2.1 : Int), (q2.2.1 : Int), (q2.2.2.1 : (List Int)), (q2.2.2.2.1 : (List (List Int))), (q2.2.2.2.2 : (List Int)))
  else
    some ((x7.2.1 : Int), (x7.2.2 : Int), (x5.1.Arena.Owner : (List Int)), (x5.1.Arena.Next : (List (List Int))), (x5.1.Prio : (List Int)))) fun q1 =>
  some (((⟨(⟨q1.2.2.1, q1.2.2.2.1⟩ : Arena), q1.2.2.2.2⟩ : Parity) : Parity), (q1.1 : Int), (q1.2.1 : Int))

/- loop.example/g00869/spec.l32Draw -/

def s_l32Draw (p0 : l1Cur) (p1 : Parity) : Option (Edit × Int × Int) :=
  Option.bind (s_l1Below p0 4) fun x11 =>
  Option.bind (s_l1Below (⟨p0.b, x11.2.1, x11.2.2⟩ : l1Cur) (p1.Prio.length : Int)) fun x15 =>
  Option.bind (bif ((IntKind.i64.wrap (1 + x11.1)) == 1) then
    Option.bind (s_l1Below (⟨p0.b, x15.2.1, x15.2.2⟩ : l1Cur) 6) fun x22 =>
    some ((x22.2.1 : Int), (x22.2.2 : Int), (x22.1 : Int))
  else
    Option.bind (bif ((IntKind.i64.wrap (1 + x11.1)) == 2) then
      Option.bind (s_l1Below (⟨p0.b, x15.2.1, x15.2.2⟩ : l1Cur) 2) fun x27 =>
      some ((x27.2.1 : Int), (x27.2.2 : Int), (x27.1 : Int))
    else
      Option.bind (bif ((IntKind.i64.wrap (1 + x11.1)) == 3) then
        Option.bind (s_l1Below (⟨p0.b, x15.2.1, x15.2.2⟩ : l1Cur) (p1.Prio.length : Int)) fun x33 =>
        some ((x33.2.1 : Int), (x33.2.2 : Int), (x33.1 : Int))
      else
        Option.bind (bif ((IntKind.i64.wrap (1 + x11.1)) == 4) then
          Option.bind (s_l1Below (⟨p0.b, x15.2.1, x15.2.2⟩ : l1Cur) (p1.Prio.length : Int)) fun x39 =>
          Option.bind (bif decide (x15.1 < (p1.Arena.Next.length : Int)) then
          Option.bind (idx p1.Arena.Next x15.1) fun x54 =>
          some (decide (0 < (x54.length : Int)))
          else
          some false) fun p58 =>
          Option.bind (bif p58 then
            Option.bind (idx p1.Arena.Next x15.1) fun x64 =>
            Option.bind (idx p1.Arena.Next x15.1) fun x72 =>
            Option.bind (s_l1Below (⟨p0.b, x39.2.1, x39.2.2⟩ : l1Cur) (x72.length : Int)) fun x75 =>
            Option.bind (idx x64 x75.1) fun x76 =>
            some ((x75.2.1 : Int), (x75.2.2 : Int), (x76 : Int))
          else
            some ((x39.2.1 : Int), (x39.2.2 : Int), (x39.1 : Int))) fun q5 =>
          some ((q5.1 : Int), (q5.2.1 : Int), (q5.2.2 : Int))
        else
          some ((x15.2.1 : Int), (x15.2.2 : Int), (0 : Int))) fun q4 =>
        some ((q4.1 : Int), (q4.2.1 : Int), (q4.2.2 : Int))) fun q3 =>
      some ((q3.1 : Int), (q3.2.1 : Int), (q3.2.2 : Int))) fun q2 =>
    some ((q2.1 : Int), (q2.2.1 : Int), (q2.2.2 : Int))) fun q1 =>
  Option.bind (s_l1Once (⟨p0.b, q1.1, q1.2.1⟩ : l1Cur) 10) fun x80 =>
  Option.bind (bif x80.1 then
    Option.bind (s_l1Below (⟨p0.b, x80.2.1, x80.2.2⟩ : l1Cur) 3) fun x82 =>
    Option.bind (bif (x82.1 == 0) then
      Option.bind (s_l1From (⟨p0.b, x82.2.1, x82.2.2⟩ : l1Cur) 0 5) fun x86 =>
      some ((x86.2.1 : Int), (x86.2.2 : Int), (x86.1 : Int), (x15.1 : Int), (q1.2.2 : Int))
    else
      Option.bind (bif (x82.1 == 1) then
        Option.bind (s_l1Num (⟨p0.b, x82.2.1, x82.2.2⟩ : l1Cur) (p1.Prio.length : Int)) fun x92 =>
        some ((x92.2.1 : Int), (x92.2.2 : Int), (x92.1 : Int), (q1.2.2 : Int))
      else
        Option.bind (bif (x82.1 == 2) then
          Option.bind (s_l1Num (⟨p0.b, x82.2.1, x82.2.2⟩ : l1Cur) 40) fun x97 =>
          some ((x97.2.1 : Int), (x97.2.2 : Int), (x97.1 : Int))
        else
          some ((x82.2.1 : Int), (x82.2.2 : Int), (q1.2.2 : Int))) fun q9 =>
        some ((q9.1 : Int), (q9.2.1 : Int), (x15.1 : Int), (q9.2.2 : Int))) fun q8 =>
      some ((q8.1 : Int), (q8.2.1 : Int), ((IntKind.i64.wrap (1 + x11.1)) : Int), (q8.2.2.1 : Int), (q8.2.2.2 : Int))) fun q7 =>
    some ((q7.1 : Int), (q7.2.1 : Int), (q7.2.2.1 : Int), (q7.2.2.2.1 : Int), (q7.2.2.2.2 : Int))
  else
    some ((x80.2.1 : Int), (x80.2.2 : Int), ((IntKind.i64.wrap (1 + x11.1)) : Int), (x15.1 : Int), (q1.2.2 : Int))) fun q6 =>
  some (((⟨q6.2.2.1, q6.2.2.2.1, q6.2.2.2.2⟩ : Edit) : Edit), (q6.1 : Int), (q6.2.1 : Int))

/- loop.example/g00869/spec.l32DrawPair -/

def s_l32DrawPair (p0 : l1Cur) : Option (Parity × Edit × Int × Int) :=
  Option.bind (s_l4DrawAny p0) fun x6 =>
  Option.bind (s_l32Draw (⟨p0.b, x6.2.1, x6.2.2⟩ : l1Cur) x6.1) fun x10 =>
  some ((x6.1 : Parity), (x10.1 : Edit), (x10.2.1 : Int), (x10.2.2 : Int))

/- loop.example/g00869/spec.DrawEditText -/

def s_DrawEditText (p0 : (List Int)) : Option (Edit) :=
  Option.bind (s_l1New p0) fun x7 =>
  Option.bind (s_l32DrawPair x7) fun x10 =>
  Option.bind (s_l1Once (⟨x7.b, x10.2.2.1, x10.2.2.2⟩ : l1Cur) 6) fun x14 =>
  Option.bind (bif x14.1 then
    Option.bind (s_l1Below (⟨x7.b, x14.2.1, x14.2.2⟩ : l1Cur) 2) fun x17 =>
    Option.bind (idx ([255, 256] : List Int) x17.1) fun x18 =>
    some (x18 : Int)
  else
    some (x10.2.1.V : Int)) fun q1 =>
  some ((⟨x10.2.1.Kind, q1, x10.2.1.N⟩ : Edit) : Edit)

/- strconv.FormatInt -/
def strconv_FormatInt (p0 p1 : Int) : Option (ByteArray) := fmtB p0 p1


/- loop.example/g00869/impl.decimal -/

def i_decimal (p0 : Int) : Option (ByteArray) :=
  Option.bind (strconv_FormatInt p0 10) fun x4 =>
  some (x4 : ByteArray)

/- loop.example/g00869/impl.EditText -/

def i_EditText (p0 : Edit) : Option (ByteArray) :=
  Option.bind (bif decide (p0.Kind < 1) then
  some true
  else
  some (decide (4 < p0.Kind))) fun p10 =>
  Option.bind (bif p10 then
  some true
  else
  some (decide (p0.V < 0))) fun p15 =>
  Option.bind (bif p15 then
  some true
  else
  some (decide (256 ≤ p0.V))) fun p20 =>
  Option.bind (bif p20 then
  some true
  else
  some (decide (p0.N < 0))) fun p25 =>
  Option.bind (bif p25 then
  some true
  else
  some (decide (256 ≤ p0.N))) fun p30 =>
  bif p30 then
    some ((ByteArray.mk #[]) : ByteArray)
  else
    Option.bind (idx namesE0 (IntKind.i64.wrap (p0.Kind - 1))) fun x34 =>
    Option.bind (catB x34 (ByteArray.mk #[32])) fun x36 =>
    Option.bind (i_decimal p0.V) fun x39 =>
    Option.bind (catB x36 x39) fun x40 =>
    Option.bind (catB x40 (ByteArray.mk #[32])) fun x41 =>
    Option.bind (i_decimal p0.N) fun x44 =>
    Option.bind (catB x41 x44) fun x45 =>
    some (x45 : ByteArray)

/- loop.example/g00869/spec.l1In -/

def s_l1In (p0 : Int) (p1 : Int) (p2 : Int) : Option (Bool) :=
  Option.bind (bif decide (p1 ≤ p0) then
  some (decide (p0 ≤ p2))
  else
  some false) fun p14 =>
  some (p14 : Bool)

/- loop.example/g00869/spec.l32Words -/

def s_l32Words  : Option ((List ByteArray)) :=
  some (([(ByteArray.mk #[]), (ByteArray.mk #[112, 114, 105, 111]), (ByteArray.mk #[111, 119, 110, 101, 114]), (ByteArray.mk #[97, 100, 100]), (ByteArray.mk #[99, 117, 116])] : List ByteArray) : (List ByteArray))

/- loop.example/g00869/spec.l1Int -/
def s_l1Int_b0  (s1 : Int × ByteArray) : Option (ByteArray ⊕ ((Int × ByteArray) ⊕ (Int × ByteArray))) :=
  Option.bind (bif (eqB s1.2 (ByteArray.mk #[])) then
  some true
  else
  some (s1.1 != 0)) fun p13 =>
  bif p13 then
    Option.bind (bif decide ((Int.tmod s1.1 10) < 0) then
      some ((IntKind.i64.wrap (0 - (Int.tmod s1.1 10))) : Int)
    else
      some ((Int.tmod s1.1 10) : Int)) fun q4 =>
    Option.bind (catB (strB ([(IntKind.u8.wrap (IntKind.i64.wrap (48 + q4)))] : List Int)) s1.2) fun x26 =>
    some (.inr (.inr (((IntKind.i64.wrap (Int.tdiv s1.1 10)) : Int), (x26 : ByteArray))))
  else
    some (.inr (.inl ((s1.1 : Int), (s1.2 : ByteArray))))
def s_l1Int (p0 : Int) : Option (ByteArray) :=
  Option.bind (whileM s_l1Int_b0 (2 ^ 64) ((p0 : Int), ((ByteArray.mk #[]) : ByteArray))) fun q2 =>
  aft (fun r => some r) (fun s3 =>
    Option.bind (bif decide (p0 < 0) then
      Option.bind (catB (ByteArray.mk #[45]) s3.2) fun x31 =>
      some (x31 : ByteArray)
    else
      some (s3.2 : ByteArray)) fun q5 =>
    some (q5 : ByteArray)) q2

/- loop.example/g00869/spec.EditText -/

def s_EditText (p0 : Edit) : Option (ByteArray) :=
  Option.bind (s_l1In p0.Kind 1 4) fun x5 =>
  Option.bind (bif (!x5) then
  some true
  else
  Option.bind (s_l1In p0.V 0 255) fun x10 =>
  some (!x10)) fun p12 =>
  Option.bind (bif p12 then
  some true
  else
  Option.bind (s_l1In p0.N 0 255) fun x16 =>
  some (!x16)) fun p18 =>
  bif p18 then
    some ((ByteArray.mk #[]) : ByteArray)
  else
    Option.bind (s_l32Words) fun x19 =>
    Option.bind (idx x19 p0.Kind) fun x22 =>
    Option.bind (catB x22 (ByteArray.mk #[32])) fun x24 =>
    Option.bind (s_l1Int p0.V) fun x27 =>
    Option.bind (catB x24 x27) fun x28 =>
    Option.bind (catB x28 (ByteArray.mk #[32])) fun x29 =>
    Option.bind (s_l1Int p0.N) fun x32 =>
    Option.bind (catB x29 x32) fun x33 =>
    some (x33 : ByteArray)

/- strings.Split -/
def strings_Split (p0 p1 : ByteArray) : Option ((List ByteArray)) := splitS p0 p1


/- slices.Index[[]string,string] -/
def slices_Index_string_string_b0 (p0 : (List ByteArray)) (p1 : ByteArray) (v8 : Int) (s1 : Unit) : Option (Int ⊕ ((Unit) ⊕ (Unit))) :=
  Option.bind (idx p0 v8) fun x14 =>
  bif (eqB p1 x14) then
    some (.inl (v8 : Int))
  else
    some (.inr (.inr ()))
def slices_Index_string_string (p0 : (List ByteArray)) (p1 : ByteArray) : Option (Int) :=
  Option.bind (cntM (slices_Index_string_string_b0 p0 p1) p0.length 0 ()) fun q2 =>
  aft (fun r => some r) (fun s3 =>
    some ((-1) : Int)) q2

/- loop.example/g00869/impl.readNumber -/
def i_readNumber_b0 (p0 : ByteArray) (v7 : Int) (s1 : Int) : Option ((Int × Bool) ⊕ ((Int) ⊕ (Int))) :=
  Option.bind (idxB p0 v7) fun x33 =>
  Option.bind (bif decide (x33 < 48) then
  some true
  else
  Option.bind (idxB p0 v7) fun x38 =>
  some (decide (57 < x38))) fun p40 =>
  bif p40 then
    some (.inl ((0 : Int), (false : Bool)))
  else
    Option.bind (idxB p0 v7) fun x45 =>
    some (.inr (.inr ((IntKind.i64.wrap ((IntKind.i64.wrap (10 * s1)) + (IntKind.i64.wrap (IntKind.u8.wrap (x45 - 48))))) : Int)))
def i_readNumber (p0 : ByteArray) (p1 : Int) : Option (Int × Bool) :=
  Option.bind (bif (eqB p0 (ByteArray.mk #[])) then
  some true
  else
  some (decide (9 < (p0.size : Int)))) fun p14 =>
  Option.bind (bif p14 then
  some true
  else
  Option.bind (idxB p0 0) fun x17 =>
  Option.bind (bif (x17 == 48) then
  some (decide (1 < (p0.size : Int)))
  else
  some false) fun p23 =>
  some p23) fun p24 =>
  bif p24 then
    some ((0 : Int), (false : Bool))
  else
    Option.bind (rng (p0.size : Int)) fun _ =>
    Option.bind (cntM (i_readNumber_b0 p0) (Int.toNat ((p0.size : Int) - 0)) 0 (0 : Int)) fun q2 =>
    aft (fun r => some r) (fun s3 =>
      some ((s3 : Int), (decide (s3 < p1) : Bool))) q2

/- loop.example/g00869/impl.TextEdit -/

def i_TextEdit (p0 : ByteArray) : Option (Edit × Bool) :=
  Option.bind (strings_Split p0 (ByteArray.mk #[32])) fun x11 =>
  Option.bind (idx x11 0) fun x14 =>
  Option.bind (slices_Index_string_string namesE0 x14) fun x16 =>
  Option.bind (bif decide (x16 < 0) then
  some true
  else
  some ((x11.length : Int) != 3)) fun p23 =>
  bif p23 then
    some (((⟨0, 0, 0⟩ : Edit) : Edit), (false : Bool))
  else
    Option.bind (idx x11 1) fun x27 =>
    Option.bind (i_readNumber x27 256) fun x29 =>
    Option.bind (idx x11 2) fun x34 =>
    Option.bind (i_readNumber x34 256) fun x36 =>
    Option.bind (bif (!x29.2) then
    some true
    else
    some (!x36.2)) fun p44 =>
    bif p44 then
      some (((⟨0, 0, 0⟩ : Edit) : Edit), (false : Bool))
    else
      some (((⟨(IntKind.i64.wrap (x16 + 1)), x29.1, x36.1⟩ : Edit) : Edit), (true : Bool))

/- loop.example/g00869/laws.FnEditText -/

def l_FnEditText (p0 : (List Int)) : Option (Bool) :=
  Option.bind (l_big p0) fun x8 =>
  bif x8 then
    some (true : Bool)
  else
    Option.bind (s_DrawEditText p0) fun x10 =>
    Option.bind (i_EditText x10) fun x12 =>
    Option.bind (s_EditText x10) fun x15 =>
    bif (!(eqB x12 x15)) then
      some (false : Bool)
    else
      Option.bind (i_TextEdit x12) fun x19 =>
      Option.bind (bif (x19.2 == (!(eqB x12 (ByteArray.mk #[])))) then
      Option.bind (bif (!x19.2) then
      some true
      else
      some ((x19.1.Kind == x10.Kind) && (x19.1.V == x10.V) && (x19.1.N == x10.N))) fun p33 =>
      some p33
      else
      some false) fun p34 =>
      some (p34 : Bool)

/- loop.example/g00869/spec.l1Split -/
def s_l1Split_b0 (p0 : ByteArray) (p1 : Int) (s1 : (List ByteArray) × Int × Int) : Option ((List ByteArray) ⊕ (((List ByteArray) × Int × Int) ⊕ ((List ByteArray) × Int × Int))) :=
  bif decide (s1.2.2 ≤ (p0.size : Int)) then
    Option.bind (bif (s1.2.2 == (p0.size : Int)) then
    some true
    else
    Option.bind (idxB p0 s1.2.2) fun x22 =>
    some (x22 == p1)) fun p25 =>
    Option.bind (bif p25 then
      Option.bind (subB p0 s1.2.1 s1.2.2) fun x30 =>
      Option.bind (appS 16 s1.1 ([x30] : List ByteArray)) fun x32 =>
      some ((x32 : (List ByteArray)), ((IntKind.i64.wrap (s1.2.2 + 1)) : Int))
    else
      some ((s1.1 : (List ByteArray)), (s1.2.1 : Int))) fun q4 =>
    some (.inr (.inr ((q4.1 : (List ByteArray)), (q4.2 : Int), ((IntKind.i64.wrap (s1.2.2 + 1)) : Int))))
  else
    some (.inr (.inl ((s1.1 : (List ByteArray)), (s1.2.1 : Int), (s1.2.2 : Int))))
def s_l1Split (p0 : ByteArray) (p1 : Int) : Option ((List ByteArray)) :=
  Option.bind (whileM (s_l1Split_b0 p0 p1) (2 ^ 64) ((([] : List ByteArray) : (List ByteArray)), (0 : Int), (0 : Int))) fun q2 =>
  aft (fun r => some r) (fun s3 =>
    some (s3.1 : (List ByteArray))) q2

/- loop.example/g00869/spec.l1Read -/
def s_l1Read_b0 (p0 : ByteArray) (v5 : Int) (s1 : Int) : Option ((Int × Bool) ⊕ ((Int) ⊕ (Int))) :=
  Option.bind (idxB p0 v5) fun x32 =>
  Option.bind (bif decide (x32 < 48) then
  some true
  else
  Option.bind (idxB p0 v5) fun x37 =>
  some (decide (57 < x37))) fun p39 =>
  bif p39 then
    some (.inl ((0 : Int), (false : Bool)))
  else
    Option.bind (idxB p0 v5) fun x44 =>
    some (.inr (.inr ((IntKind.i64.wrap ((IntKind.i64.wrap (s1 * 10)) + (IntKind.i64.wrap (IntKind.u8.wrap (x44 - 48))))) : Int)))
def s_l1Read (p0 : ByteArray) : Option (Int × Bool) :=
  Option.bind (bif decide ((p0.size : Int) < 1) then
  some true
  else
  some (decide (9 < (p0.size : Int)))) fun p13 =>
  Option.bind (bif p13 then
  some true
  else
  Option.bind (idxB p0 0) fun x16 =>
  Option.bind (bif (x16 == 48) then
  some (decide (1 < (p0.size : Int)))
  else
  some false) fun p22 =>
  some p22) fun p23 =>
  bif p23 then
    some ((0 : Int), (false : Bool))
  else
    Option.bind (rng (p0.size : Int)) fun _ =>
    Option.bind (cntM (s_l1Read_b0 p0) (Int.toNat ((p0.size : Int) - 0)) 0 (0 : Int)) fun q2 =>
    aft (fun r => some r) (fun s3 =>
      some ((s3 : Int), (true : Bool))) q2

/- loop.example/g00869/spec.TextEdit -/
def s_TextEdit_b0 (p0 : ByteArray) (x25 : Int × Bool) (x32 : Int × Bool) (s1 : Int) : Option ((Edit × Bool) ⊕ ((Int) ⊕ (Int))) :=
  bif decide (s1 ≤ 4) then
    Option.bind (s_EditText (⟨s1, x25.1, x32.1⟩ : Edit)) fun x51 =>
    Option.bind (bif (eqB x51 p0) then
    some (!(eqB p0 (ByteArray.mk #[])))
    else
    some false) fun p57 =>
    bif p57 then
      some (.inl (((⟨s1, x25.1, x32.1⟩ : Edit) : Edit), (true : Bool)))
    else
      some (.inr (.inr ((IntKind.i64.wrap (s1 + 1)) : Int)))
  else
    some (.inr (.inl (s1 : Int)))
def s_TextEdit (p0 : ByteArray) : Option (Edit × Bool) :=
  bif decide (20 < (p0.size : Int)) then
    some (((⟨0, 0, 0⟩ : Edit) : Edit), (false : Bool))
  else
    Option.bind (s_l1Split p0 32) fun x16 =>
    bif ((x16.length : Int) != 3) then
      some (((⟨0, 0, 0⟩ : Edit) : Edit), (false : Bool))
    else
      Option.bind (idx x16 1) fun x23 =>
      Option.bind (s_l1Read x23) fun x25 =>
      Option.bind (idx x16 2) fun x30 =>
      Option.bind (s_l1Read x30) fun x32 =>
      Option.bind (bif (!x25.2) then
      some true
      else
      some (!x32.2)) fun p40 =>
      bif p40 then
        some (((⟨0, 0, 0⟩ : Edit) : Edit), (false : Bool))
      else
        Option.bind (whileM (s_TextEdit_b0 p0 x25 x32) (2 ^ 64) (1 : Int)) fun q2 =>
        aft (fun r => some r) (fun s3 =>
          some (((⟨0, 0, 0⟩ : Edit) : Edit), (false : Bool))) q2

end Go.Proofs.YtnpmbkaoeihdmaaDoor
